import PyProof.Rows.All
import Wide.All
import OpenK.AllK
import Wide.FinOn
import HandS.ForMost
import HandS.Wide
import HandS.Exc
import HandS.TryOnly
import HandS.TryMany
import HandS.ExcOwn
import HandS.WordsExc
import HandS.ExcInit
import HandS.Lambda
import HandS.OwnEq
import HandS.TupAny
import HandS.Defaults
import HandS.HeadHook2
import HandS.MakeKw
import HandS.IsInst
import HandS.WideBits
import HandS.Zip
import HandS.Text
import KE.DataEq
import KE.DataCmp
import HandS.FStr
import HandS.RaiseMore
import PyProof.ReprRoads
import HandS.HeadHook3
import HandS.HeadHook4
import HandS.Head2
import HandS.HeadEnd
import HandS.Style
import HandS.TupSets
import HandS.Conv
import PyProof.TupleOfSeq
import HandS.Keys
import HandS.Small
import HandS.EndBits
import Wide.Once
import HandS.HotCalls
import HandS.ExcField
import HandS.ExcIs
import KE.KExcIs
import HandS.Deep
import PyProof.P3In
import HandS.NestedK
import HandS.TupMul
import HandS.More
import PyProof.InstEq
import PyProof.InstNe
import KE.KFmtOwn
import KE.GoesMore
import KE.GoesZip
import HandS.Strs
import HandS.SetFor
import KE.KStateDown
import Lean
import PySem.Challenge.RW_roadpence_k04_rates_of_days
section
set_option linter.all false
namespace Ro
open PySem
inductive D where
  | non | bl (b : Bool) | int (i : Int) | str (s : Str)
  | tup (l : List D) | lst (l : List D) | dct (l : List (D × D))
  | obj (c : String) (fs : List D)
  | scr (l : List Int) | ref (n : Nat) | fn (x : String) | thk (k : Nat) (caps : List D)
  deriving Inhabited
inductive Cell where
  | dead | lst (l : List D) | dct (l : List (D × D)) | ins (c : String) (fs : List (String × D)) | dcT (l : List (List Int × D))
  deriving Inhabited
abbrev Store := List Cell
inductive R (α : Type) where
  | ok (a : α) (S : Store) | err (c : String) (fs : List D) (S : Store) | bad
def R.bnd {α β : Type} : R α → (α → Store → R β) → R β
  | .ok a S, f => f a S
  | .err c fs S, _ => .err c fs S
  | .bad, _ => .bad
@[simp] theorem bnd_ok {α β : Type} (a : α) (S : Store) (f : α → Store → R β) : (R.ok a S).bnd f = f a S := rfl
@[simp] theorem bnd_err {α β : Type} (c : String) (fs : List D) (S : Store) (f : α → Store → R β) : (R.err c fs S : R α).bnd f = .err c fs S := rfl
@[simp] theorem bnd_bad {α β : Type} (f : α → Store → R β) : (R.bad : R α).bnd f = .bad := rfl
/-- an option as a result -/
def lift {α : Type} (o : Option α) (S : Store) : R α := match o with
  | some a => .ok a S
  | none => .bad
@[simp] theorem lift_some {α : Type} (a : α) (S : Store) : lift (some a) S = .ok a S := rfl
@[simp] theorem lift_none {α : Type} (S : Store) : lift (none : Option α) S = .bad := rfl
abbrev LINE : Nat := 16777216
mutual
def pyEq : D → D → Bool
  | .non, .non => true
  | .bl a, .bl b => a == b
  | .bl a, .int j => decide ((if a then 1 else 0) = j)
  | .int i, .bl b => decide (i = (if b then 1 else 0))
  | .int i, .int j => decide (i = j)
  | .str s, .str t => decide (s = t)
  | .tup l, .tup m => pyEqs l m
  | .lst l, .lst m => pyEqs l m
  | .dct l, .dct m => l.length == m.length && pySub l m
  | .obj c l, .obj d m => c == d && pyEqs l m
  | _, _ => false
def pyEqs : List D → List D → Bool
  | [], [] => true
  | x :: l, y :: m => pyEq x y && pyEqs l m
  | _, _ => false
def pySub : List (D × D) → List (D × D) → Bool
  | [], _ => true
  | (k, v) :: l, m => (match m.find? (fun p => pyEq k p.1) with
     | some p => pyEq v p.2
     | none => false) && pySub l m
end
abbrev Env := List (Option D)
abbrev EX := Env → Store → R D
abbrev BX := Env → Store → R Bool
abbrev AX := Env → Store → R (List D)
inductive Ctl where
  | nx (e : Env) | rt (d : D) | bk (e : Env) | ct (e : Env)
abbrev ES := Env → Store → R Ctl
abbrev Fn := List D → Store → R D
def eVar (i : Nat) : EX := fun env S => match env[i]? with
  | some (some d) => .ok d S
  | _ => .bad
def eC (d : D) : EX := fun _ S => .ok d S
def eOp (op : D → D → Option D) (a b : EX) : EX := fun env S => (a env S).bnd fun x S1 => (b env S1).bnd fun y S2 => lift (op x y) S2
def eUn (op : D → Option D) (a : EX) : EX := fun env S => (a env S).bnd fun x S1 => lift (op x) S1
def aNil : AX := fun _ S => .ok [] S
def aCons (a : EX) (r : AX) : AX := fun env S => (a env S).bnd fun x S1 => (r env S1).bnd fun xs S2 => .ok (x :: xs) S2
/-- how a call's values are put: from the written ones (0), the defaults (1), the keywords' (2) -/
def pick {α : Type} (pk : List (Nat × Nat)) (us its ws : List α) : List α := pk.flatMap fun q => ((if q.1 = 0 then us else if q.1 = 1 then its else ws)[q.2]?).toList
def eTup (a : AX) : EX := fun env S => (a env S).bnd fun xs S1 => if xs.length ≤ LINE then .ok (.tup xs) S1 else .bad
def eLst (a : AX) : EX := fun env S => (a env S).bnd fun xs S1 => if xs.length ≤ LINE then .ok (.lst xs) S1 else .bad
/-- a list that will be changed -/
def eLstM (a : AX) : EX := fun env S => (a env S).bnd fun xs S1 => if xs.length ≤ LINE then .ok (.ref S1.length) (S1 ++ [.lst xs]) else .bad
def truth : D → Option Bool
  | .non => some false
  | .bl b => some b
  | .int i => some (decide (i ≠ 0))
  | .str s => if s.length ≤ LINE then some (decide (s.length ≠ 0)) else none
  | .tup l => some (!l.isEmpty)
  | .lst l => some (!l.isEmpty)
  | .dct l => some (!l.isEmpty)
  | _ => none
/-- an expression's truth -/
def bOf (a : EX) : BX := fun env S => (a env S).bnd fun x S1 => lift (truth x) S1
/-- an expression that is a bool, as a test -/
def bVal (a : EX) : BX := fun env S => (a env S).bnd fun x S1 => match x with
  | .bl b => .ok b S1
  | _ => .bad
def bAnd (a b : BX) : BX := fun env S => (a env S).bnd fun c S1 => if c then b env S1 else .ok false S1
def bOr (a b : BX) : BX := fun env S => (a env S).bnd fun c S1 => if c then .ok true S1 else b env S1
def bNot (a : BX) : BX := fun env S => (a env S).bnd fun c S1 => .ok (!c) S1
/-- .. as values, all but the last a bool -/
def eAnd (a b : EX) : EX := fun env S => (a env S).bnd fun x S1 => match x with
  | .bl c => if c then b env S1 else .ok (.bl false) S1
  | _ => .bad
def eOr (a b : EX) : EX := fun env S => (a env S).bnd fun x S1 => match x with
  | .bl c => if c then .ok (.bl true) S1 else b env S1
  | _ => .bad
def eNot (a : EX) : EX := fun env S => (a env S).bnd fun x S1 => match x with
  | .bl c => .ok (.bl (!c)) S1
  | _ => .bad
def eIf (c : BX) (a b : EX) : EX := fun env S => (c env S).bnd fun k S1 => if k then a env S1 else b env S1
/-- a op b op' c -/
def eChain (op op' : D → D → Option D) (a b c : EX) : EX := fun env S => (a env S).bnd fun x S1 => (b env S1).bnd fun y S2 => match op x y with
  | some (.bl true) => (c env S2).bnd fun z S3 => lift (op' y z) S3
  | some (.bl false) => .ok (.bl false) S2
  | _ => .bad
def addD : D → D → Option D
  | .int i, .int j => some (.int (i + j))
  | .str s, .str t => if s.length + t.length ≤ LINE then some (.str (s ++ t)) else none
  | .tup l, .tup m => if l.length + m.length ≤ LINE then some (.tup (l ++ m)) else none
  | .lst l, .lst m => if l.length + m.length ≤ LINE then some (.lst (l ++ m)) else none
  | _, _ => none
def subD : D → D → Option D
  | .int i, .int j => some (.int (i - j))
  | _, _ => none
def mulOk (i j : Int) : Bool := decide (i.natAbs.log2 + j.natAbs.log2 < 1000000)
def mulD : D → D → Option D
  | .int i, .int j => if mulOk i j then some (.int (i * j)) else none
  | _, _ => none
def fdivD : D → D → Option D
  | .int i, .int j => if 0 < j ∧ j.natAbs.log2 < 9000 then some (.int (i / j)) else none
  | _, _ => none
def modD : D → D → Option D
  | .int i, .int j => if 0 < j then some (.int (i % j)) else none
  | _, _ => none
def powD : D → D → Option D
  | .int i, .int j => if 0 ≤ j ∧ j ≤ 1000000 ∧ i.natAbs < 2 ^ 64 then some (.int (i ^ j.toNat)) else none
  | _, _ => none
def negD : D → Option D
  | .int i => some (.int (-i))
  | _ => none
def leD : D → D → Option D
  | .int i, .int j => some (.bl (decide (i ≤ j)))
  | _, _ => none
def gtD : D → D → Option D
  | .int i, .int j => some (.bl (decide (j < i)))
  | _, _ => none
def isNonD : D → Bool
  | .non => true
  | _ => false
def isND (x y : D) : Option D := if isNonD y then some (.bl (isNonD x)) else none
def notND (x y : D) : Option D := if isNonD y then some (.bl (!isNonD x)) else none
/-- the place of an index -/
def pyIx (n : Nat) (i : Int) : Option Nat := if 0 ≤ i then (if i < n then some i.toNat else none) else if -(n : Int) ≤ i then some (i + n).toNat else none
def atP {α : Type} (xs : List α) (i : Int) : Option α := (pyIx xs.length i).bind fun j => xs[j]?
def idxD : D → D → Option D
  | .tup l, .int i => atP l i
  | .lst l, .int i => atP l i
  | .scr l, .int i => (atP l i).map D.int
  | .str s, .int i => if s.length ≤ LINE then (atP s.cps.toList i).map fun c => .str ⟨#[c]⟩ else none
  | _, _ => none
/-- .. of a changing list -/
def idxM (x y : D) (S : Store) : Option D := match x, y with
  | .ref n, .int i => (match S[n]? with
    | some (.lst l) => atP l i
    | _ => none)
  | _, _ => none
def eIdx (a b : EX) : EX := eOp idxD a b
def eIdxM (a b : EX) : EX := fun env S => (a env S).bnd fun x S1 => (b env S1).bnd fun y S2 => lift (idxM x y S2) S2
/-- o[i] = v, o a changing list -/
def setM (x y v : D) (S : Store) : Option Store := match x, y with
  | .ref n, .int i => (match S[n]? with
    | some (.lst l) => (pyIx l.length i).map fun j => S.set n (.lst (l.set j v))
    | _ => none)
  | _, _ => none
def sSetIt (o i v : EX) : ES := fun env S => (v env S).bnd fun z S1 => (o env S1).bnd fun x S2 => (i env S2).bnd fun y S3 => match setM x y z S3 with
  | some S4 => .ok (.nx env) S4
  | none => .bad
/-- the ends of a slice -/
def cutI (n d : Nat) : Option Int → Nat
  | none => d
  | some i => if i < 0 then (i + n).toNat else min i.toNat n
def cutL {α : Type} (xs : List α) (lo hi : Option Int) : List α := (xs.drop (cutI xs.length 0 lo)).take (cutI xs.length xs.length hi - cutI xs.length 0 lo)
def cutD (x : D) (lo hi : Option Int) : Option D := match x with
  | .tup l => some (.tup (cutL l lo hi))
  | .lst l => some (.lst (cutL l lo hi))
  | .str s => if s.length ≤ LINE then some (.str ⟨(cutL s.cps.toList lo hi).toArray⟩) else none
  | _ => none
/-- a part of a slice -/
abbrev OX := Env → Store → R (Option Int)
def oNone : OX := fun _ S => .ok none S
def oSome (a : EX) : OX := fun env S => (a env S).bnd fun x S1 => match x with
  | .int i => .ok (some i) S1
  | _ => .bad
def eCut (a : EX) (lo hi : OX) : EX := fun env S => (a env S).bnd fun x S1 => (lo env S1).bnd fun l S2 => (hi env S2).bnd fun h S3 => lift (cutD x l h) S3
/-- isinstance: what a thing is -/
inductive Ty where
  | b (n : String) | o (c : String)
  deriving DecidableEq
def tyD : D → Store → Option Ty
  | .non, _ => some (.b "NoneType")
  | .bl _, _ => some (.b "bool")
  | .int _, _ => some (.b "int")
  | .str _, _ => some (.b "str")
  | .tup _, _ => some (.b "tuple")
  | .lst _, _ => some (.b "list")
  | .scr _, _ => some (.b "list")
  | .dct _, _ => some (.b "dict")
  | .obj c _, _ => some (.o c)
  | .ref n, S => match S[n]? with
    | some (.lst _) => some (.b "list")
    | some (.dct _) => some (.b "dict")
    | some (.ins c _) => some (.o c)
    | _ => none
  | _, _ => none
/-- is a thing of the type t one of T -/
def subTy (t T : Ty) : Bool := decide (t = T) || (decide (t = .b "bool") && decide (T = .b "int"))
/-- tys: those that are looked at -/
def eIsI (tys : List Ty) (Tt : Ty) (a : EX) : EX := fun env S => (a env S).bnd fun x S1 => match tyD x S1 with
  | some t => if tys.contains t then .ok (.bl (subTy t Tt)) S1 else .bad
  | none => .bad
def lenD : D → Option D
  | .tup l => some (.int l.length)
  | .lst l => some (.int l.length)
  | .scr l => some (.int l.length)
  | .str s => if s.length ≤ LINE then some (.int s.length) else none
  | .dct l => some (.int l.length)
  | _ => none
def sSet (i : Nat) (e : EX) : ES := fun env S => (e env S).bnd fun d S1 => .ok (.nx (env.set i (some d))) S1
def sSeq (s t : ES) : ES := fun env S => (s env S).bnd fun c S1 => match c with
  | .nx e => t e S1
  | c => .ok c S1
def sPass : ES := fun env S => .ok (.nx env) S
def sIf (c : BX) (s t : ES) : ES := fun env S => (c env S).bnd fun k S1 => if k then s env S1 else t env S1
def sRet (e : EX) : ES := fun env S => (e env S).bnd fun d S1 => .ok (.rt d) S1
def sExpr (e : EX) : ES := fun env S => (e env S).bnd fun _ S1 => .ok (.nx env) S1
def sRaise (c : String) (a : AX) : ES := fun env S => (a env S).bnd fun fs S1 => .err c fs S1
abbrev Pat := D → Env → Option Env
def pName (i : Nat) : Pat := fun d env => some (env.set i (some d))
def pNil : List D → Env → Option Env := fun ds env => match ds with
  | [] => some env
  | _ => none
def pCons (p : Pat) (r : List D → Env → Option Env) : List D → Env → Option Env := fun ds env => match ds with
  | d :: ds => (p d env).bind fun e => r ds e
  | [] => none
def pTup (r : List D → Env → Option Env) : Pat := fun d env => match d with
  | .tup l => r l env
  | _ => none
def sUnp (p : Pat) (e : EX) : ES := fun env S => (e env S).bnd fun d S1 => match p d env with
  | some env' => .ok (.nx env') S1
  | none => .bad
def loop (tg : Pat) (body : ES) : List D → ES
  | [], env, S => .ok (.nx env) S
  | x :: xs, env, S => match tg x env with
    | none => .bad
    | some env1 => (body env1 S).bnd fun c S1 => match c with
      | .nx e => loop tg body xs e S1
      | .ct e => loop tg body xs e S1
      | .bk e => .ok (.nx e) S1
      | .rt d => .ok (.rt d) S1
def sFor (it : AX) (tg : Pat) (body : ES) : ES := fun env S => (it env S).bnd fun xs S1 => loop tg body xs env S1
/-- what raises is not told -/
def R.nox {α : Type} : R α → R α
  | .ok a S => .ok a S
  | _ => .bad
@[simp] theorem nox_ok {α : Type} (a : α) (S : Store) : (R.ok a S).nox = .ok a S := rfl
def lcLoop (tg : Pat) (c : BX) (el : EX) (env : Env) : List D → List D → Store → R (List D)
  | [], acc, S => .ok acc S
  | x :: xs, acc, S => match tg x env with
    | none => .bad
    | some env1 => (c env1 S).nox.bnd fun k S1 => if k then (el env1 S1).nox.bnd fun y S2 => if acc.length < LINE then lcLoop tg c el env xs (acc ++ [y]) S2 else .bad else lcLoop tg c el env xs acc S1
def bYes : BX := fun _ S => .ok true S
/-- a comprehension: vs the slots of its own names -/
def wipeE (env : Env) : List Nat → Env
  | [] => env
  | v :: vs => (wipeE env vs).set v none
def eLC (vs : List Nat) (it : AX) (tg : Pat) (c : BX) (el : EX) : EX := fun env S => (it env S).bnd fun xs S1 => (lcLoop tg c el (wipeE env vs) xs [] S1).bnd fun ys S2 => .ok (.lst ys) S2
/-- a def's body -/
def fnM (n : Nat) (body : ES) : Fn := fun ds S => (body (ds.map some ++ List.replicate (n - ds.length) none) S).bnd fun c S1 => match c with
  | .rt d => .ok d S1
  | .nx _ => .ok .non S1
  | _ => .bad
theorem ofString_inj {s t : String} : Str.ofString s = Str.ofString t ↔ s = t := by
  constructor
  · intro h
    rw [Str.ofString_eq_toList, Str.ofString_eq_toList] at h
    have h1 := congrArg Str.cps h
    have h2 : s.toList.map Char.toNat = t.toList.map Char.toNat := by simpa using h1
    have key : ∀ {l m : List Char}, l.map Char.toNat = m.map Char.toNat → l = m := by
      intro l
      induction l with
      | nil => intro m e; cases m with
        | nil => rfl
        | cons _ _ => cases e
      | cons a l ih => intro m e; cases m with
        | nil => cases e
        | cons b m =>
          rw [List.map_cons, List.map_cons] at e
          injection e with e1 e2
          rw [Char.toNat_inj.mp e1, ih e2]
    exact String.toList_inj.mp (key h2)
  · rintro rfl; rfl
def setF (f : String) (v : D) : List (String × D) → List (String × D)
  | [] => [(f, v)]
  | (g, u) :: r => if g = f then (f, v) :: r else (g, u) :: setF f v r
/-- a value's attribute: cs the classes that have it -/
def attrD (cf : String → List String) (cs : List String) (f : String) : D → Store → Option D
  | .obj c fs, _ => if cs.contains c then ((cf c).zip fs).lookup f else none
  | .ref n, S => match S[n]? with
    | some (.ins c fs) => if cs.contains c then fs.lookup f else none
    | _ => none
  | _, _ => none
def eAttr (cf : String → List String) (cs : List String) (f : String) (a : EX) : EX := fun env S => (a env S).bnd fun x S1 => lift (attrD cf cs f x S1) S1
/-- o.f = v, o a changing thing -/
def sSetAttr (cs : List String) (f : String) (o v : EX) : ES := fun env S => (v env S).bnd fun y S1 => (o env S1).bnd fun x S2 => match x with
  | .ref n => match S2[n]? with
    | some (.ins c fs) => if cs.contains c && decide (fs.length < 1000) then .ok (.nx env) (S2.set n (.ins c (setF f y fs))) else .bad
    | _ => .bad
  | _ => .bad
/-- is it a thing of the class c, without a field m -/
def isInst (cf : String → List String) (c m : String) (x : D) (S : Store) : Bool := match x with
  | .obj c' _ => c' == c && !(cf c).contains m
  | .ref n => match S[n]? with
    | some (.ins c' fs) => c' == c && (fs.lookup m).isNone
    | _ => false
  | _ => false
/-- o.m(..) -/
def eMeth (cf : String → List String) (c mn : String) (m : List D → List D → Store → R D) (o : EX) (fa fk : AX) : EX := fun env S => (o env S).bnd fun x S1 => if isInst cf c mn x S1 then (fa env S1).bnd fun xs S2 => (fk env S2).bnd fun zs S3 => m (x :: xs) zs S3 else .bad
/-- C(..): a new thing -/
def newM (c : String) (m : List D → List D → Store → R D) (xs zs : List D) (S : Store) : R D := (m (.ref S.length :: xs) zs (S ++ [.ins c []])).bnd fun r S1 => match r with
  | .non => .ok (.ref S.length) S1
  | _ => .bad
/-- .. that stands still from then on -/
def frzM (cf : String → List String) (r : R D) : R D := r.bnd fun x S => match x with
  | .ref n => match S[n]? with
    | some (.ins c fs) => if fs.map (·.1) = cf c then .ok (.obj c (fs.map (·.2))) (S.set n .dead) else .bad
    | some (.lst l) => .ok (.lst l) (S.set n .dead)
    | some (.dct l) => .ok (.dct l) (S.set n .dead)
    | _ => .bad
  | _ => .bad
/-- an expression's value stands still from now on -/
def eFrz (cf : String → List String) (a : EX) : EX := fun env S => frzM cf (a env S)
/-- built-ins by values -/
def eB (m : List D → Option D) (fa : AX) : EX := fun env S => (fa env S).bnd fun xs S1 => lift (m xs) S1
def bLen : List D → Option D
  | [x] => lenD x
  | _ => none
def bAbs : List D → Option D
  | [.int i] => some (.int (if i < 0 then -i else i))
  | _ => none
def bMax2 : List D → Option D
  | [.int i, .int j] => some (.int (if j > i then j else i))
  | _ => none
def bMin2 : List D → Option D
  | [.int i, .int j] => some (.int (if j < i then j else i))
  | _ => none
def bList : List D → Option D
  | [.tup l] => some (.lst l)
  | [.lst l] => some (.lst l)
  | _ => none
def bTuple : List D → Option D
  | [.tup l] => some (.tup l)
  | [.lst l] => some (.tup l)
  | _ => none
def divOk (j : Int) : Bool := decide (0 < j ∧ j < 1152921504606846976)
def bDivmod : List D → Option D
  | [.int i, .int j] => if divOk j then some (.tup [.int (i / j), .int (i % j)]) else none
  | _ => none
/-- l.append(x) -/
def appM (l x : D) (S : Store) : Option Store := match l with
  | .ref n => (match S[n]? with
    | some (.lst xs) => if xs.length < LINE then some (S.set n (.lst (xs ++ [x]))) else none
    | _ => none)
  | _ => none
def eApp (o : EX) (x : EX) : EX := fun env S => (o env S).bnd fun l S1 => if tyD l S1 = some (.b "list") then (x env S1).bnd fun y S2 => match appM l y S2 with
  | some S3 => .ok .non S3
  | none => .bad else .bad
end Ro
end
section
set_option Elab.async false
set_option linter.all false
set_option maxRecDepth 100000
set_option maxHeartbeats 4000000
namespace Ro
open PySem PySem.Spec PyProof.Rows L2
abbrev St := L2.St
structure Wd where
  G : Hp
  am : List Addr
  hid : List (Addr × List D) := []
/-- the exception in hand: where it lies, its dict, its class -/
structure XC where
  a : Addr
  dx : Option Addr
  c : String
/-- what is told of the text -/
structure Tb where
  K : PySem.W.Frag
  cf : String → List String
  tabs : List (Addr × Str)
  xc : Option XC := none
mutual
inductive Rep (T : Tb) (w : Wd) : D → V → Prop
  | non : Rep T w .non .non
  | bl (b : Bool) : Rep T w (.bl b) (.bl b)
  | int (i : Int) : Rep T w (.int i) (.int i)
  | str (s : Str) : Rep T w (.str s) (.str s)
  | tup {l : List D} {a : Addr} {vs : List V} (h : SqT T.K w.G a vs) (r : Reps T w l vs) : Rep T w (.tup l) (.ref a)
  | scr {l : List Int} {a : Addr} (h : SqL T.K w.G a (l.map V.int)) : Rep T w (.scr l) (.ref a)
  | lst {l : List D} {a : Addr} {vs : List V} (h : w.G a = some (.lst vs)) (r : Reps T w l vs) : Rep T w (.lst l) (.ref a)
  | dct {l : List (D × D)} {a : Addr} {kvs : List (Key × V)} (h : w.G a = some (.dK kvs)) (r : RepK T w l kvs) : Rep T w (.dct l) (.ref a)
  | obj {c : String} {l : List D} {a dx : Addr} {fs : List (Str × V)} (h : w.G a = some (.ins (He.ga T.K (c : Str)) dx fs)) (n : fs.map (·.1) = (T.cf c).map Str.ofString) (r : Reps T w l (fs.map (·.2))) : Rep T w (.obj c l) (.ref a)
  | ref {n : Nat} {a : Addr} (h : w.am[n]? = some a) : Rep T w (.ref n) (.ref a)
  | fn (x : String) : Rep T w (.fn x) (.ref (He.ga T.K (x : Str)))
  | xc0 {z : XC} (h : T.xc = some z) (hd : z.dx = none) : Rep T w (.thk 0 []) (.ref z.a)
  | xc1 {z : XC} {dd : Addr} {gs : List (Str × V)} {l : List D} (h : T.xc = some z) (hd : z.dx = some dd) (g : w.G dd = some (.xd gs)) (ex : ∀ f ∈ T.cf z.c, ∃ v, gs.lookup (Str.ofString f) = some v) (r : Reps T w l ((T.cf z.c).map fun f : String => (gs.lookup (Str.ofString f)).getD .non)) : Rep T w (.thk 0 l) (.ref z.a)
inductive Reps (T : Tb) (w : Wd) : List D → List V → Prop
  | nil : Reps T w [] []
  | cons {d : D} {v : V} {l : List D} {vs : List V} (h : Rep T w d v) (r : Reps T w l vs) : Reps T w (d :: l) (v :: vs)
inductive RepK (T : Tb) (w : Wd) : List (D × D) → List (Key × V) → Prop
  | nil : RepK T w [] []
  | int {i : Int} {d : D} {v : V} {l : List (D × D)} {vs : List (Key × V)} (h : Rep T w d v) (r : RepK T w l vs) : RepK T w ((.int i, d) :: l) ((.inl i, v) :: vs)
  | str {s : Str} {d : D} {v : V} {l : List (D × D)} {vs : List (Key × V)} (h : Rep T w d v) (r : RepK T w l vs) : RepK T w ((.str s, d) :: l) ((.inr s, v) :: vs)
end
/-- the world has grown; the lists that are being made stay -/
structure Wd.sb (w w' : Wd) : Prop where
  G : ∀ a o, w.G a = some o → w'.G a = some o
  am : ∃ t, w'.am = w.am ++ t
structure Wd.le (w w' : Wd) : Prop where
  tosb : w.sb w'
  hid : w'.hid = w.hid
theorem Wd.sb.trans {w w1 w2 : Wd} (a : w.sb w1) (b : w1.sb w2) : w.sb w2 := ⟨fun c o h => b.G c o (a.G c o h), by
  obtain ⟨t, e⟩ := a.am
  obtain ⟨u, e'⟩ := b.am
  exact ⟨t ++ u, by rw [e', e, List.append_assoc]⟩⟩
theorem Wd.le.refl (w : Wd) : w.le w := ⟨⟨fun _ _ h => h, [], by simp⟩, rfl⟩
theorem Wd.le.trans {w w1 w2 : Wd} (a : w.le w1) (b : w1.le w2) : w.le w2 := ⟨a.tosb.trans b.tosb, b.hid.trans a.hid⟩
theorem Wd.sb.at {w w' : Wd} (h : w.sb w') {n : Nat} {a : Addr} (e : w.am[n]? = some a) : w'.am[n]? = some a := by
  obtain ⟨t, q⟩ := h.am
  have hl := (List.getElem?_eq_some_iff.mp e).1
  rw [q, List.getElem?_append_left hl]
  exact e
theorem rd_le {w w' : Wd} (h : w.sb w') {a : Addr} {u : HO} (r : Rd w.G a u) : Rd w'.G a u := r.elim (fun r => .inl (h.G _ _ r)) fun ⟨o, r⟩ => .inr ⟨o, h.G _ _ r⟩
theorem sqt_le {K : PySem.W.Frag} {w w' : Wd} (h : w.sb w') {a : Addr} {xs : List V} (r : SqT K w.G a xs) : SqT K w'.G a xs := r.elim (fun r => .inl (rd_le h r)) .inr
theorem sql_le {K : PySem.W.Frag} {w w' : Wd} (h : w.sb w') {a : Addr} {xs : List V} (r : SqL K w.G a xs) : SqL K w'.G a xs := r.elim (fun r => .inl (rd_le h r)) .inr
theorem Wd.le.app (w : Wd) (p : Addr) : w.le ⟨w.G, w.am ++ [p], w.hid⟩ := ⟨⟨fun _ _ h => h, [p], rfl⟩, rfl⟩
mutual
theorem Rep.monoS {T : Tb} {w w' : Wd} (h : w.sb w') : ∀ {d : D} {v : V}, Rep T w d v → Rep T w' d v
  | _, _, .non => .non
  | _, _, .bl b => .bl b
  | _, _, .int i => .int i
  | _, _, .str s => .str s
  | _, _, .tup q r => .tup (sqt_le h q) (r.monoS h)
  | _, _, .scr q => .scr (sql_le h q)
  | _, _, .lst q r => .lst (h.G _ _ q) (r.monoS h)
  | _, _, .dct q r => .dct (h.G _ _ q) (r.monoS h)
  | _, _, .obj q n r => .obj (h.G _ _ q) n (r.monoS h)
  | _, _, .ref q => .ref (h.at q)
  | _, _, .fn x => .fn x
  | _, _, .xc0 q hd => .xc0 q hd
  | _, _, .xc1 q hd g ex r => .xc1 q hd (h.G _ _ g) ex (r.monoS h)
theorem Reps.monoS {T : Tb} {w w' : Wd} (h : w.sb w') : ∀ {l : List D} {vs : List V}, Reps T w l vs → Reps T w' l vs
  | _, _, .nil => .nil
  | _, _, .cons q r => .cons (q.monoS h) (r.monoS h)
theorem RepK.monoS {T : Tb} {w w' : Wd} (h : w.sb w') : ∀ {l : List (D × D)} {vs : List (Key × V)}, RepK T w l vs → RepK T w' l vs
  | _, _, .nil => .nil
  | _, _, .int q r => .int (q.monoS h) (r.monoS h)
  | _, _, .str q r => .str (q.monoS h) (r.monoS h)
end
theorem Rep.mono {T : Tb} {w w' : Wd} (h : w.le w') {d : D} {v : V} (r : Rep T w d v) : Rep T w' d v := r.monoS h.tosb
theorem Reps.mono {T : Tb} {w w' : Wd} (h : w.le w') {d : List D} {v : List V} (r : Reps T w d v) : Reps T w' d v := r.monoS h.tosb
theorem RepK.mono {T : Tb} {w w' : Wd} (h : w.le w') {d : List (D × D)} {v : List (Key × V)} (r : RepK T w d v) : RepK T w' d v := r.monoS h.tosb
theorem Reps.length {T : Tb} {w : Wd} : ∀ {l : List D} {vs : List V}, Reps T w l vs → l.length = vs.length
  | _, _, .nil => rfl
  | _, _, .cons _ r => by rw [List.length_cons, List.length_cons, r.length]
theorem Reps.get {T : Tb} {w : Wd} : ∀ {l : List D} {vs : List V} {i : Nat} {d : D}, Reps T w l vs → l[i]? = some d → ∃ v, vs[i]? = some v ∧ Rep T w d v
  | _, _, _, _, .nil, e => by simp at e
  | _, _, 0, _, .cons q _, e => by simp at e; subst e; exact ⟨_, rfl, q⟩
  | _, _, i + 1, d, .cons _ r, e => by
    obtain ⟨v, h1, h2⟩ := Reps.get (i := i) (d := d) r (by simpa using e)
    exact ⟨v, by simpa using h1, h2⟩
theorem Reps.append {T : Tb} {w : Wd} : ∀ {l m : List D} {vs us : List V}, Reps T w l vs → Reps T w m us → Reps T w (l ++ m) (vs ++ us)
  | _, _, _, _, .nil, s => s
  | _, _, _, _, .cons q r, s => .cons q (Reps.append r s)
theorem Reps.take {T : Tb} {w : Wd} : ∀ {l : List D} {vs : List V} (n : Nat), Reps T w l vs → Reps T w (l.take n) (vs.take n)
  | _, _, 0, _ => .nil
  | _, _, _ + 1, .nil => .nil
  | _, _, n + 1, .cons q r => .cons q (Reps.take n r)
theorem Reps.drop {T : Tb} {w : Wd} : ∀ {l : List D} {vs : List V} (n : Nat), Reps T w l vs → Reps T w (l.drop n) (vs.drop n)
  | _, _, 0, r => r
  | _, _, _ + 1, .nil => .nil
  | _, _, n + 1, .cons _ r => Reps.drop n r
theorem Reps.set {T : Tb} {w : Wd} {d : D} {v : V} (q : Rep T w d v) : ∀ {l : List D} {vs : List V} (i : Nat), Reps T w l vs → Reps T w (l.set i d) (vs.set i v)
  | _, _, _, .nil => .nil
  | _, _, 0, .cons _ r => .cons q r
  | _, _, i + 1, .cons p r => .cons p (Reps.set q i r)
theorem Reps.reverse {T : Tb} {w : Wd} : ∀ {l : List D} {vs : List V}, Reps T w l vs → Reps T w l.reverse vs.reverse
  | _, _, .nil => .nil
  | _, _, .cons q r => by rw [List.reverse_cons, List.reverse_cons]; exact (Reps.reverse r).append (.cons q .nil)
def CellR (T : Tb) (w : Wd) (H : Hp) (a : Addr) : Cell → Prop
  | .dead => True
  | .lst l => ∃ vs, H a = some (.lst vs) ∧ Reps T w l vs
  | .dct l => ∃ kvs, H a = some (.dK kvs) ∧ RepK T w l kvs
  | .ins c fs => ∃ dx gs, H a = some (.ins (He.ga T.K (c : Str)) dx gs) ∧ gs.map (·.1) = fs.map (fun p => Str.ofString p.1) ∧ Reps T w (fs.map (·.2)) (gs.map (·.2))
  | .dcT l => ∃ kvs : List (List Key × V), H a = some (.dT kvs) ∧ kvs.map (·.1) = l.map (fun p => p.1.map Sum.inl) ∧ Reps T w (l.map (·.2)) (kvs.map (·.2))
structure WR (T : Tb) (w : Wd) (S : Store) (H : Hp) : Prop where
  sub : ∀ a o, w.G a = some o → H a = some o
  len : w.am.length = S.length
  nd : w.am.Nodup
  has : ∀ a ∈ w.am, ∃ o, H a = some o ∧ ∀ ps, o ≠ .tbl ps
  out : ∀ (n : Nat) c a, S[n]? = some c → w.am[n]? = some a → c ≠ .dead → w.G a = none
  cell : ∀ (n : Nat) c a, S[n]? = some c → w.am[n]? = some a → CellR T w H a c
  tabs : LamX.Tabs T.tabs H
  hn : (w.hid.map (·.1)).Nodup
  hd : ∀ p ∈ w.hid, w.G p.1 = none ∧ p.1 ∉ w.am ∧ ∃ vs, H p.1 = some (.lst vs) ∧ Reps T w p.2 vs
  nt : ∀ a ps, w.G a ≠ some (.tbl ps)
/-- .. of a frame's slots -/
def ER (T : Tb) (w : Wd) (env : Env) (σ : St) : Prop := env.length = σ.length ∧ ∀ (i : Nat) d, env[i]? = some (some d) → ∃ v, σ[i]? = some (some v) ∧ Rep T w d v
theorem ER.monoS {T : Tb} {w w' : Wd} (h : w.sb w') {env : Env} {σ : St} (r : ER T w env σ) : ER T w' env σ := ⟨r.1, fun i d e => by
  obtain ⟨v, h1, h2⟩ := r.2 i d e
  exact ⟨v, h1, h2.monoS h⟩⟩
theorem ER.mono {T : Tb} {w w' : Wd} (h : w.le w') {env : Env} {σ : St} (r : ER T w env σ) : ER T w' env σ := ⟨r.1, fun i d e => by
  obtain ⟨v, h1, h2⟩ := r.2 i d e
  exact ⟨v, h1, h2.mono h⟩⟩
theorem ER.set {T : Tb} {w : Wd} {env : Env} {σ : St} {d : D} {v : V} (r : ER T w env σ) (q : Rep T w d v) (i : Nat) : ER T w (env.set i (some d)) (σ.set i (some v)) := ⟨by rw [List.length_set, List.length_set, r.1], fun j e h => by
  by_cases hj : i = j
  · subst hj
    rw [List.getElem?_set] at h ⊢
    simp only [if_true] at h ⊢
    by_cases hl : i < env.length
    · rw [if_pos hl] at h
      have e' : d = e := by simpa using h
      subst e'
      rw [if_pos (by rw [← r.1]; exact hl)]
      exact ⟨v, rfl, q⟩
    · rw [if_neg hl] at h
      cases h
  · rw [List.getElem?_set_ne hj] at h ⊢
    exact r.2 j e h⟩
/-- an exception as it lies -/
def XRep (T : Tb) (w : Wd) (H : Hp) (c : String) (fs : List D) (cls : Value) (dx : Option Addr) : Prop :=
  cls = .ref (He.ga T.K (c : Str)) ∧ ((fs = [] ∧ dx = none) ∨ ∃ a gs, dx = some a ∧ H a = some (.xd gs) ∧ (∀ f ∈ T.cf c, ∃ v, gs.lookup (Str.ofString f) = some v) ∧ Reps T w fs ((T.cf c).map fun f : String => (gs.lookup (Str.ofString f)).getD .non))
/-- a result, as it must lie -/
def RP {α : Type} (r : R α) (Pk : α → Store → Prop) (Pe : String → List D → Store → Prop) : Prop := match r with
  | .ok a S => Pk a S
  | .err c fs S => Pe c fs S
  | .bad => False
theorem RP.mono {α : Type} {r : R α} {Pk Pk' : α → Store → Prop} {Pe Pe' : String → List D → Store → Prop} (h : RP r Pk Pe) (hk : ∀ a S, Pk a S → Pk' a S) (he : ∀ c fs S, Pe c fs S → Pe' c fs S) : RP r Pk' Pe' := by
  cases r with
  | ok a S => exact hk _ _ h
  | err c fs S => exact he _ _ _ h
  | bad => exact h
theorem RP.bnd {α β : Type} {r : R α} {f : α → Store → R β} {Pk : β → Store → Prop} {Pe : String → List D → Store → Prop} (h : RP (r.bnd f) Pk Pe) : RP r (fun a S => RP (f a S) Pk Pe) Pe := by
  cases r with
  | ok a S => exact h
  | err c fs S => exact h
  | bad => exact h
/-- the exception's wish -/
def XW (T : Tb) (w : Wd) (E : XK) : String → List D → Store → Prop := fun c fs S => ∀ w' H' cls dx, w.le w' → WR T w' S H' → XRep T w' H' c fs cls dx → E cls dx H'
theorem XW.le {T : Tb} {w w1 : Wd} {E : XK} (h : w.le w1) {c : String} {fs : List D} {S : Store} (x : XW T w E c fs S) : XW T w1 E c fs S := fun w' H' cls dx l r q => x w' H' cls dx (h.trans l) r q
/-- readings -/
def tI (T : Tb) (E : XK) (f : EX) : TE := fun σ H Q => ∃ w env S, WR T w S H ∧ ER T w env σ ∧ RP (f env S) (fun d S' => ∀ w' H' v, w.le w' → WR T w' S' H' → Rep T w' d v → Q v H') (XW T w E)
def tIb (T : Tb) (E : XK) (f : BX) : TT := fun σ H Q => ∃ w env S, WR T w S H ∧ ER T w env σ ∧ RP (f env S) (fun b S' => ∀ w' H', w.le w' → WR T w' S' H' → Q b H') (XW T w E)
def tIa (T : Tb) (E : XK) (f : AX) : TA := fun σ H Q => ∃ w env S, WR T w S H ∧ ER T w env σ ∧ RP (f env S) (fun ds S' => ∀ w' H' vs, w.le w' → WR T w' S' H' → Reps T w' ds vs → Q vs H') (XW T w E)
def CP (T : Tb) (w : Wd) (D : Ends) (c : Ctl) (S : Store) : Prop := match c with
  | .nx e => ∀ w' H' σ', w.le w' → WR T w' S H' → ER T w' e σ' → D.nx σ' H'
  | .bk e => ∀ w' H' σ', w.le w' → WR T w' S H' → ER T w' e σ' → D.bk σ' H'
  | .ct e => ∀ w' H' σ', w.le w' → WR T w' S H' → ER T w' e σ' → D.ct σ' H'
  | .rt d => ∀ w' H' v, w.le w' → WR T w' S H' → Rep T w' d v → D.rt v H'
def tIs (T : Tb) (E : XK) (f : ES) : TS := fun D σ H => ∃ w env S, WR T w S H ∧ ER T w env σ ∧ RP (f env S) (CP T w D) (XW T w E)
/-- judgements -/
def IE (T : Tb) (E : XK) (X : Cx) (e : Expr) (f : EX) : Prop := PE X e (tI T E f)
def IB (T : Tb) (E : XK) (X : Cx) (e : Expr) (f : BX) : Prop := PT X e (tIb T E f)
def IW (T : Tb) (E : XK) (X : Cx) (e : Expr) (f : BX) : Prop := PW X e (tIb T E f)
def IA (T : Tb) (E : XK) (X : Cx) (es : List Expr) (f : AX) : Prop := PA X es (tIa T E f)
def IS (T : Tb) (E : XK) (X : Cx) (st : Stmt) (f : ES) : Prop := PS X st (tIs T E f)
def ISs (T : Tb) (E : XK) (X : Cx) (sts : List Stmt) (f : ES) : Prop := PSs X sts (tIs T E f)
theorem PE.mono {X : Cx} {e : Expr} {t t' : TE} (h : PE X e t) (k : ∀ σ H Q, t' σ H Q → t σ H Q) : PE X e t' := ⟨fun pins s σ H Q I q => h.run pins s σ H Q I (k _ _ _ q)⟩
theorem PT.mono {X : Cx} {e : Expr} {t t' : TT} (h : PT X e t) (k : ∀ σ H Q, t' σ H Q → t σ H Q) : PT X e t' := ⟨fun pins s σ H Q I q => h.run pins s σ H Q I (k _ _ _ q)⟩
theorem PW.mono {X : Cx} {e : Expr} {t t' : TT} (h : PW X e t) (k : ∀ σ H Q, t' σ H Q → t σ H Q) : PW X e t' := ⟨fun wh pins s σ H Q I q => h.run wh pins s σ H Q I (k _ _ _ q)⟩
theorem PA.mono {X : Cx} {es : List Expr} {t t' : TA} (h : PA X es t) (k : ∀ σ H Q, t' σ H Q → t σ H Q) : PA X es t' := ⟨fun pos pins s σ H Q I q => h.run pos pins s σ H Q I (k _ _ _ q)⟩
theorem PS.mono {X : Cx} {st : Stmt} {t t' : TS} (h : PS X st t) (k : ∀ D σ H, t' D σ H → t D σ H) : PS X st t' := ⟨fun pins s σ H D I q => h.run pins s σ H D I (k _ _ _ q)⟩
theorem PSs.mono {X : Cx} {st : List Stmt} {t t' : TS} (h : PSs X st t) (k : ∀ D σ H, t' D σ H → t D σ H) : PSs X st t' := ⟨fun pins s σ H D I q => h.run pins s σ H D I (k _ _ _ q)⟩
theorem CellR.keep {T : Tb} {w w' : Wd} {H H' : Hp} {a : Addr} {c : Cell} (h : CellR T w H a c) (l : w.sb w') (k : ∀ o, H a = some o → H' a = some o) : CellR T w' H' a c := by
  cases c with
  | dead => trivial
  | lst l1 =>
    obtain ⟨vs, h1, h2⟩ := h
    exact ⟨vs, k _ h1, h2.monoS l⟩
  | dct l1 =>
    obtain ⟨vs, h1, h2⟩ := h
    exact ⟨vs, k _ h1, h2.monoS l⟩
  | ins c fs =>
    obtain ⟨dx, gs, h1, h2, h3⟩ := h
    exact ⟨dx, gs, k _ h1, h2, h3.monoS l⟩
  | dcT l1 =>
    obtain ⟨kvs, h1, h2, h3⟩ := h
    exact ⟨kvs, k _ h1, h2, h3.monoS l⟩
/-- neither a table nor a code object -/
def NoTab (o : HO) : Prop := (∀ ps, o ≠ .tbl ps) ∧ ∀ c q, o ≠ LamX.CodeO c q
theorem noTab_lst {xs : List V} : NoTab (.lst xs) := ⟨fun _ z => (by cases z), fun _ _ z => (by unfold LamX.CodeO at z; cases z)⟩
theorem noTab_dK {xs : List (Key × V)} : NoTab (.dK xs) := ⟨fun _ z => (by cases z), fun _ _ z => (by unfold LamX.CodeO at z; cases z)⟩
theorem noTab_dT {xs : List (List Key × V)} : NoTab (.dT xs) := ⟨fun _ z => (by cases z), fun _ _ z => (by unfold LamX.CodeO at z; cases z)⟩
theorem noTab_ins {C dx : Addr} {fs : List (Str × V)} : NoTab (.ins C dx fs) := ⟨fun _ z => (by cases z), fun _ _ z => (by unfold LamX.CodeO at z; cases z)⟩
theorem tabs_upd {ts : List (Addr × Str)} {H : Hp} {a : Addr} {o o' : HO} (t : LamX.Tabs ts H) (ha : H a = some o) (n : NoTab o) : LamX.Tabs ts (upd H a o') := fun p hp => by
  obtain ⟨ps, h1, h2, h3⟩ := t p hp
  refine ⟨ps, ?_, h2, fun pos cv hc => ?_⟩
  · rw [upd_ne (fun z => by rw [z, ha] at h1; exact n.1 _ (Option.some.inj h1))]
    exact h1
  · obtain ⟨c, e1, e2⟩ := h3 pos cv hc
    refine ⟨c, e1, ?_⟩
    rw [upd_ne (fun z => by rw [z, ha] at e2; exact n.2 _ _ (Option.some.inj e2))]
    exact e2
theorem tabs_new {ts : List (Addr × Str)} {H : Hp} {a : Addr} {o' : HO} (t : LamX.Tabs ts H) (ha : H a = none) : LamX.Tabs ts (upd H a o') := t.ext fun b o e => by
  rw [upd_ne (ne_of_none e ha)]
  exact e
theorem CellR.noTab {T : Tb} {w : Wd} {H : Hp} {a : Addr} {c : Cell} (h : CellR T w H a c) (hc : c ≠ .dead) : ∃ o, H a = some o ∧ NoTab o := by
  cases c with
  | dead => exact absurd rfl hc
  | lst l1 =>
    obtain ⟨vs, h1, h2⟩ := h
    exact ⟨_, h1, noTab_lst⟩
  | dct l1 =>
    obtain ⟨vs, h1, h2⟩ := h
    exact ⟨_, h1, noTab_dK⟩
  | dcT l1 =>
    obtain ⟨vs, h1, _⟩ := h
    exact ⟨_, h1, noTab_dT⟩
  | ins c fs =>
    obtain ⟨dx, gs, h1, h2, h3⟩ := h
    exact ⟨_, h1, noTab_ins⟩
section
variable {T : Tb} {w : Wd} {S : Store} {H : Hp} {p a : Addr} {o : HO}
theorem WR.free (r : WR T w S H) (hp : H p = none) : w.G p = none := by
  cases e : w.G p with
  | none => rfl
  | some o => rw [r.sub _ _ e] at hp; cases hp
/-- a new thing that stands still -/
theorem WR.new (r : WR T w S H) (hp : H p = none) (o : HO) (ho : ∀ ps, o ≠ .tbl ps := by intro _ z; cases z) : w.le ⟨upd w.G p o, w.am, w.hid⟩ ∧ WR T ⟨upd w.G p o, w.am, w.hid⟩ S (upd H p o) := by
  have hG := r.free hp
  have l : w.le ⟨upd w.G p o, w.am, w.hid⟩ := ⟨⟨fun a u e => by show upd w.G p o a = some u; rw [upd_ne (ne_of_none e hG)]; exact e, [], by simp⟩, rfl⟩
  have k : ∀ a u, H a = some u → upd H p o a = some u := fun a u e => by rw [upd_ne (ne_of_none e hp)]; exact e
  refine ⟨l, ?_, r.len, r.nd, fun a ha => ?_, fun n c a h1 h2 h3 => ?_, fun n c a h1 h2 => ?_, tabs_new r.tabs hp, r.hn, fun q hq => ?_, fun a ps e => ?_⟩
  · intro a u e
    have e : upd w.G p o a = some u := e
    by_cases h : a = p
    · subst h
      rw [upd_same] at e ⊢
      exact e
    · rw [upd_ne h] at e ⊢
      exact r.sub _ _ e
  · obtain ⟨u, e, nt⟩ := r.has a ha
    exact ⟨u, k _ _ e, nt⟩
  · show upd w.G p o a = none
    obtain ⟨u, e, _⟩ := (r.cell n c a h1 h2).noTab h3
    rw [upd_ne (ne_of_none e hp)]
    exact r.out n c a h1 h2 h3
  · exact (r.cell n c a h1 h2).keep l.tosb fun u e => k _ _ e
  · obtain ⟨z1, z2, vs, z3, z4⟩ := r.hd q hq
    refine ⟨?_, z2, vs, k _ _ z3, z4.mono l⟩
    show upd w.G p o q.1 = none
    rw [upd_ne (ne_of_none z3 hp)]
    exact z1
  · have e : upd w.G p o a = some (.tbl ps) := e
    by_cases h : a = p
    · rw [h, upd_same] at e
      exact ho ps (Option.some.inj e)
    · rw [upd_ne h] at e
      exact r.nt a ps e
/-- .. and its like, by the heap alone -/
theorem WR.grow {H' : Hp} (r : WR T w S H) (k : ∀ a u, H a = some u → H' a = some u) : WR T w S H' :=
  ⟨fun a u e => k _ _ (r.sub _ _ e), r.len, r.nd, fun a ha => (r.has a ha).elim fun u e => ⟨u, k _ _ e.1, e.2⟩, r.out, fun n c a h1 h2 => (r.cell n c a h1 h2).keep (Wd.le.refl _).tosb fun u e => k _ _ e, r.tabs.ext k, r.hn, fun q hq => (r.hd q hq).elim fun z1 z => ⟨z1, z.1, z.2.elim fun vs z => ⟨vs, k _ _ z.1, z.2⟩⟩, r.nt⟩
/-- a new thing that will change -/
theorem WR.alloc (r : WR T w S H) (hp : H p = none) {o : HO} {c : Cell} (hc : CellR T ⟨w.G, w.am ++ [p], w.hid⟩ (upd H p o) p c) (ho : ∀ ps, o ≠ .tbl ps := by intro _ z; cases z) :
    w.le ⟨w.G, w.am ++ [p], w.hid⟩ ∧ WR T ⟨w.G, w.am ++ [p], w.hid⟩ (S ++ [c]) (upd H p o) ∧ (w.am ++ [p])[S.length]? = some p := by
  have l : w.le ⟨w.G, w.am ++ [p], w.hid⟩ := Wd.le.app w p
  have k : ∀ a u, H a = some u → upd H p o a = some u := fun a u e => by rw [upd_ne (ne_of_none e hp)]; exact e
  have hn : p ∉ w.am := fun z => by
    obtain ⟨u, e, _⟩ := r.has p z
    rw [hp] at e
    cases e
  have at_ : (w.am ++ [p])[S.length]? = some p := by rw [← r.len]; simp
  refine ⟨l, ⟨fun a u e => k _ _ (r.sub _ _ e), by simp [r.len], ?_, fun a ha => ?_, fun n c1 a h1 h2 h3 => ?_, fun n c1 a h1 h2 => ?_, tabs_new r.tabs hp, r.hn, fun q hq => ?_, r.nt⟩, at_⟩
  · exact List.nodup_append.mpr ⟨r.nd, by simp, fun a ha b hb => by
      have e : b = p := by simpa using hb
      subst e
      exact fun z => hn (z ▸ ha)⟩
  · rcases List.mem_append.mp ha with ha | ha
    · obtain ⟨u, e, nt⟩ := r.has a ha
      exact ⟨u, k _ _ e, nt⟩
    · have e : a = p := by simpa using ha
      subst e
      exact ⟨o, upd_same, ho⟩
  · have h2 : (w.am ++ [p])[n]? = some a := h2
    by_cases hl : n < S.length
    · rw [List.getElem?_append_left hl] at h1
      rw [List.getElem?_append_left (by rw [r.len]; exact hl)] at h2
      exact r.out n c1 a h1 h2 h3
    · have hle := (List.getElem?_eq_some_iff.mp h1).1
      rw [List.length_append, List.length_singleton] at hle
      have e : n = S.length := by omega
      subst e
      rw [at_] at h2
      cases h2
      exact r.free hp
  · have h2 : (w.am ++ [p])[n]? = some a := h2
    by_cases hl : n < S.length
    · rw [List.getElem?_append_left hl] at h1
      rw [List.getElem?_append_left (by rw [r.len]; exact hl)] at h2
      exact (r.cell n c1 a h1 h2).keep l.tosb fun u e => k _ _ e
    · have hle := (List.getElem?_eq_some_iff.mp h1).1
      rw [List.length_append, List.length_singleton] at hle
      have e : n = S.length := by omega
      subst e
      rw [at_] at h2
      cases h2
      have e1 : c1 = c := by
        rw [List.getElem?_append_right (Nat.le_refl _)] at h1
        simpa using h1.symm
      subst e1
      exact hc
  · obtain ⟨z1, z2, vs, z3, z4⟩ := r.hd q hq
    refine ⟨z1, fun z => ?_, vs, k _ _ z3, z4.mono l⟩
    rcases List.mem_append.mp z with z | z
    · exact z2 z
    · have e : q.1 = p := by simpa using z
      rw [e, hp] at z3
      cases z3
theorem WR.at_ne (r : WR T w S H) {n m : Nat} {a b : Addr} (h1 : w.am[n]? = some a) (h2 : w.am[m]? = some b) (h : n ≠ m) : a ≠ b := fun z => by
  subst z
  obtain ⟨l1, e1⟩ := List.getElem?_eq_some_iff.mp h1
  obtain ⟨l2, e2⟩ := List.getElem?_eq_some_iff.mp h2
  exact h ((List.getElem_inj r.nd).mp (e1.trans e2.symm))
/-- a thing is changed -/
theorem WR.write (r : WR T w S H) {n : Nat} {c c' : Cell} (hS : S[n]? = some c) (ha : w.am[n]? = some a) (hd : c ≠ .dead) {o' : HO} (hc : CellR T w (upd H a o') a c') (ho' : ∀ ps, o' ≠ .tbl ps := by intro _ z; cases z) : WR T w (S.set n c') (upd H a o') := by
  obtain ⟨o, e, nt⟩ := (r.cell n c a hS ha).noTab hd
  have hG := r.out n c a hS ha hd
  have hl := (List.getElem?_eq_some_iff.mp hS).1
  refine ⟨fun b u q => ?_, by rw [List.length_set]; exact r.len, r.nd, fun b hb => ?_, fun m c1 b h1 h2 h3 => ?_, fun m c1 b h1 h2 => ?_, tabs_upd r.tabs e nt, r.hn, fun q hq => ?_, r.nt⟩
  · rw [upd_ne (ne_of_none q hG)]
    exact r.sub _ _ q
  · obtain ⟨u, q, nt⟩ := r.has b hb
    by_cases h : b = a
    · subst h
      exact ⟨o', upd_same, ho'⟩
    · exact ⟨u, by rw [upd_ne h]; exact q, nt⟩
  · by_cases h : m = n
    · subst h
      rw [ha] at h2
      cases h2
      exact hG
    · rw [List.getElem?_set_ne (Ne.symm h)] at h1
      exact r.out m c1 b h1 h2 h3
  · by_cases h : m = n
    · subst h
      rw [ha] at h2
      cases h2
      rw [List.getElem?_set_self hl] at h1
      cases h1
      exact hc
    · rw [List.getElem?_set_ne (Ne.symm h)] at h1
      have hne := r.at_ne h2 ha h
      exact (r.cell m c1 b h1 h2).keep (Wd.le.refl _).tosb fun u q => by rw [upd_ne hne]; exact q
  · obtain ⟨z1, z2, vs, z3, z4⟩ := r.hd q hq
    exact ⟨z1, z2, vs, by rw [upd_ne (fun z => z2 (by rw [z]; exact List.mem_of_getElem? ha))]; exact z3, z4⟩
/-- a thing stands still from now on -/
theorem WR.freeze (r : WR T w S H) {n : Nat} {c : Cell} (hS : S[n]? = some c) (ha : w.am[n]? = some a) (hd : c ≠ .dead) (ho : H a = some o) : w.le ⟨upd w.G a o, w.am, w.hid⟩ ∧ WR T ⟨upd w.G a o, w.am, w.hid⟩ (S.set n .dead) H := by
  have hG := r.out n c a hS ha hd
  have hl := (List.getElem?_eq_some_iff.mp hS).1
  have l : w.le ⟨upd w.G a o, w.am, w.hid⟩ := ⟨⟨fun b u e => by show upd w.G a o b = some u; rw [upd_ne (ne_of_none e hG)]; exact e, [], by simp⟩, rfl⟩
  refine ⟨l, fun b u e => ?_, by rw [List.length_set]; exact r.len, r.nd, r.has, fun m c1 b h1 h2 h3 => ?_, fun m c1 b h1 h2 => ?_, r.tabs, r.hn, fun q hq => ?_, fun b ps e => ?_⟩
  · have e : upd w.G a o b = some u := e
    by_cases h : b = a
    · subst h
      rw [upd_same] at e
      rw [← e]
      exact ho
    · rw [upd_ne h] at e
      exact r.sub _ _ e
  · have h2 : w.am[m]? = some b := h2
    by_cases h : m = n
    · subst h
      rw [List.getElem?_set_self hl] at h1
      cases h1
      exact absurd rfl h3
    · rw [List.getElem?_set_ne (Ne.symm h)] at h1
      show upd w.G a o b = none
      rw [upd_ne (r.at_ne h2 ha h)]
      exact r.out m c1 b h1 h2 h3
  · have h2 : w.am[m]? = some b := h2
    by_cases h : m = n
    · subst h
      rw [List.getElem?_set_self hl] at h1
      cases h1
      trivial
    · rw [List.getElem?_set_ne (Ne.symm h)] at h1
      exact (r.cell m c1 b h1 h2).keep l.tosb fun _ q => q
  · obtain ⟨z1, z2, vs, z3, z4⟩ := r.hd q hq
    refine ⟨?_, z2, vs, z3, z4.mono l⟩
    show upd w.G a o q.1 = none
    rw [upd_ne (fun z => z2 (by rw [z]; exact List.mem_of_getElem? ha))]
    exact z1
  · have e : upd w.G a o b = some (.tbl ps) := e
    by_cases h : b = a
    · rw [h, upd_same] at e
      cases e
      obtain ⟨u, q, nt⟩ := (r.cell n c a hS ha).noTab hd
      rw [ho] at q
      cases q
      exact nt.1 ps rfl
    · rw [upd_ne h] at e
      exact r.nt b ps e
end
theorem sqt_sub {T : Tb} {w : Wd} {S : Store} {H : Hp} (r : WR T w S H) {a : Addr} {xs : List V} (h : SqT T.K w.G a xs) : SqT T.K H a xs := h.elim (fun h => .inl (h.elim (fun h => .inl (r.sub _ _ h)) fun ⟨o, h⟩ => .inr ⟨o, r.sub _ _ h⟩)) .inr
theorem sql_sub {T : Tb} {w : Wd} {S : Store} {H : Hp} (r : WR T w S H) {a : Addr} {xs : List V} (h : SqL T.K w.G a xs) : SqL T.K H a xs := h.elim (fun h => .inl (h.elim (fun h => .inl (r.sub _ _ h)) fun ⟨o, h⟩ => .inr ⟨o, r.sub _ _ h⟩)) .inr
end Ro
end
section
set_option Elab.async false
set_option linter.all false
set_option maxRecDepth 100000
set_option maxHeartbeats 4000000
namespace Ro
open PySem PySem.Spec PyProof.Rows L2
variable {T : Tb} {E : XK} {X : Cx} {a b c : Expr} {es : List Expr} {f g h : EX} {fa : AX} {fb gb : BX} {pos : Pos}
/-- two expressions in a row -/
theorem tI_two {k : D → D → Store → R D} {σ : St} {H : Hp} {Q : VK} (q : tI T E (fun env S => (f env S).bnd fun x S1 => (g env S1).bnd fun y S2 => k x y S2) σ H Q) :
    tI T E f σ H fun x H1 => tI T E g σ H1 fun y H2 => ∃ w d e S, WR T w S H2 ∧ Rep T w d x ∧ Rep T w e y ∧ RP (k d e S) (fun d S' => ∀ w' H' v, w.le w' → WR T w' S' H' → Rep T w' d v → Q v H') (XW T w E) := by
  obtain ⟨w, env, S, r, e, h⟩ := q
  refine ⟨w, env, S, r, e, (RP.bnd h).mono (fun d S1 h1 w1 H1 x l1 r1 p1 => ⟨w1, env, S1, r1, e.mono l1, (RP.bnd h1).mono (fun d2 S2 h2 w2 H2 y l2 r2 p2 => ⟨w2, d, d2, S2, r2, p1.mono l2, p2, ?_⟩) (fun _ _ _ x => x.le l1)⟩) (fun _ _ _ x => x)⟩
  exact h2.mono (fun d S' q w' H' v l => q w' H' v ((l1.trans l2).trans l)) fun _ _ _ x => x.le (l1.trans l2)
theorem ie_var {i : Nat} {x : Str} (hN : X.N[i]? = some x) (hv : Vis X.env.scope x) (hd : (x == ("__debug__" : Str)) = false := by decide +kernel) (hcd : (x == ("__classdict__" : Str)) = false := by decide +kernel) : IE T E X (.Name x pos) (eVar i) :=
  PE.mono (pe_var hN hv hd hcd) fun σ H Q ⟨w, env, S, r, e, q⟩ => by
    unfold eVar at q
    cases z : env[i]? with
    | none => rw [z] at q; exact q.elim
    | some o =>
      rw [z] at q
      cases o with
      | none => exact q.elim
      | some d =>
        obtain ⟨v, h1, h2⟩ := e.2 i d z
        exact ⟨v, h1, q w H v (Wd.le.refl _) r h2⟩
theorem ie_c {e : Expr} {d : D} {v : V} (h : PE X e (tC v)) (k : ∀ w, Rep T w d v) : IE T E X e (eC d) :=
  PE.mono h fun σ H Q ⟨w, env, S, r, e, q⟩ => q w H v (Wd.le.refl _) r (k w)
theorem ie_int {i : Int} {j : Nat} : IE T E X (.Constant (.int i) j pos) (eC (.int i)) := ie_c pe_int fun _ => .int i
theorem ie_bl {i : Bool} {j : Nat} : IE T E X (.Constant (.bool i) j pos) (eC (.bl i)) := ie_c pe_bl fun _ => .bl i
theorem ie_non {j : Nat} : IE T E X (.Constant .none j pos) (eC .non) := ie_c pe_non fun _ => .non
theorem ie_str {i : Str} {j : Nat} : IE T E X (.Constant (.str i) j pos) (eC (.str i)) := ie_c pe_str fun _ => .str i
theorem ie_glob {x : Str} {d : D} {v : V} {u : Value} (hg : Gl X x) (hm : X.mg x = some u) (r : RelV v u) (k : ∀ w, Rep T w d v) (hd : (x == ("__debug__" : Str)) = false := by decide +kernel) : IE T E X (.Name x pos) (eC d) := ie_c (pe_glob hg hm r hd) k
def rOp (T : Tb) (op : D → D → Option D) : R2 := fun x y H Q => ∃ w d e r S, WR T w S H ∧ Rep T w d x ∧ Rep T w e y ∧ op d e = some r ∧ ∀ w' H' z, w.le w' → WR T w' S H' → Rep T w' r z → Q z H'
theorem rOp_of {op : D → D → Option D} {w : Wd} {d e : D} {S : Store} {x y : V} {H : Hp} {Q : VK} (r : WR T w S H) (p : Rep T w d x) (q : Rep T w e y) (h : RP (lift (op d e) S) (fun d S' => ∀ w' H' v, w.le w' → WR T w' S' H' → Rep T w' d v → Q v H') (XW T w E)) : rOp T op x y H Q := by
  cases z : op d e with
  | none => rw [z] at h; exact h.elim
  | some k => rw [z] at h; exact ⟨w, d, e, k, S, r, p, q, z, fun w' H' v l r' p' => h w' H' v l r' p'⟩
theorem ie_op {o : Operator} {op : D → D → Option D} (ho : OpR X (binaryOp o) (rOp T op)) (ha : IE T E X a f) (hb : IE T E X b g) : IE T E X (.BinOp a o b pos) (eOp op f g) :=
  PE.mono (pe_op ho ha hb) fun σ H Q q => by
    have q2 := tI_two (k := fun x y S => lift (op x y) S) q
    obtain ⟨w, env, S, r, e, h⟩ := q2
    refine ⟨w, env, S, r, e, h.mono (fun d S1 h1 w1 H1 x l1 r1 p1 => ?_) fun _ _ _ x => x⟩
    obtain ⟨w2, env2, S2, r2, e2, h2⟩ := h1 w1 H1 x l1 r1 p1
    refine ⟨w2, env2, S2, r2, e2, h2.mono (fun d S1 h1 w1 H1 x l1 r1 p1 => ?_) fun _ _ _ x => x⟩
    obtain ⟨w3, d3, e3, S3, r3, p3, q3, h3⟩ := h1 w1 H1 x l1 r1 p1
    exact rOp_of r3 p3 q3 h3
theorem ie_cmp {o : CmpOp} {op : D → D → Option D} (ho : OpR X (compareOp o) (rOp T op)) (ha : IE T E X a f) (hb : IE T E X b g) (hm : behindInMarks o b = false) : IE T E X (.Compare a [o] [b] pos) (eOp op f g) :=
  PE.mono (pe_cmpR ho ha hb hm) fun σ H Q q => by
    have q2 := tI_two (k := fun x y S => lift (op x y) S) q
    obtain ⟨w, env, S, r, e, h⟩ := q2
    refine ⟨w, env, S, r, e, h.mono (fun d S1 h1 w1 H1 x l1 r1 p1 => ?_) fun _ _ _ x => x⟩
    obtain ⟨w2, env2, S2, r2, e2, h2⟩ := h1 w1 H1 x l1 r1 p1
    refine ⟨w2, env2, S2, r2, e2, h2.mono (fun d S1 h1 w1 H1 x l1 r1 p1 => ?_) fun _ _ _ x => x⟩
    obtain ⟨w3, d3, e3, S3, r3, p3, q3, h3⟩ := h1 w1 H1 x l1 r1 p1
    exact rOp_of r3 p3 q3 h3
/-- a value of a test -/
theorem tI_bVal {σ : St} {H : Hp} {Q : Bool → Hp → Prop} (q : tIb T E (bVal f) σ H Q) : tI T E f σ H fun x H1 => ∃ k, x = .bl k ∧ Q k H1 := by
  obtain ⟨w, env, S, r, e, h⟩ := q
  refine ⟨w, env, S, r, e, (RP.bnd h).mono (fun d S1 h1 w1 H1 x l1 r1 p1 => ?_) (fun _ _ _ x => x)⟩
  cases p1 with
  | bl k => exact ⟨k, rfl, h1 w1 H1 l1 r1⟩
  | _ => exact h1.elim
theorem ib_cmp {o : CmpOp} {op : D → D → Option D} (ho : OpR X (compareOp o) (rOp T op)) (ha : IE T E X a f) (hb : IE T E X b g) (hm : behindInMarks o b = false) : IB T E X (.Compare a [o] [b] pos) (bVal (eOp op f g)) :=
  PT.mono (pt_cmpR ho ha hb hm) fun σ H Q q => by
    have q2 := tI_two (k := fun x y S => lift (op x y) S) (tI_bVal q)
    obtain ⟨w, env, S, r, e, h⟩ := q2
    refine ⟨w, env, S, r, e, h.mono (fun d S1 h1 w1 H1 x l1 r1 p1 => ?_) fun _ _ _ x => x⟩
    obtain ⟨w2, env2, S2, r2, e2, h2⟩ := h1 w1 H1 x l1 r1 p1
    refine ⟨w2, env2, S2, r2, e2, h2.mono (fun d S1 h1 w1 H1 x l1 r1 p1 => ?_) fun _ _ _ x => x⟩
    obtain ⟨w3, d3, e3, S3, r3, p3, q3, h3⟩ := h1 w1 H1 x l1 r1 p1
    exact rOp_of r3 p3 q3 h3
/-- an expression that is a bool, as a test -/
theorem ib_val (he : IE T E X a f) (hw : ∀ whole, isTrue a X.env whole = (do let v ← whole; standAt a.pos; holding [v] (truthy v)) := by intro _; rfl) : IB T E X a (bVal f) :=
  PT.mono (pt_val he hw) fun σ H Q q => tI_bVal q
theorem iw_pt (h : IW T E X a fb) : IB T E X a fb := PW.pt h
theorem ib_not (h : IB T E X a fb) : IB T E X (.UnaryOp .Not a pos) (bNot fb) :=
  PT.mono (pt_not h) fun σ H Q ⟨w, env, S, r, e, q⟩ => ⟨w, env, S, r, e, (RP.bnd q).mono (fun _ _ h1 => h1) fun _ _ _ x => x⟩
theorem iw_and1 (h : IB T E X a fb) : IW T E X (.BoolOp .And [a] pos) fb := pw_and1 h
theorem iw_or1 (h : IB T E X a fb) : IW T E X (.BoolOp .Or [a] pos) fb := pw_or1 h
theorem iw_and (h : IB T E X a fb) (h2 : IW T E X (.BoolOp .And (b :: es) pos) gb) : IW T E X (.BoolOp .And (a :: b :: es) pos) (bAnd fb gb) :=
  PW.mono (pw_and h h2) fun σ H Q ⟨w, env, S, r, e, q⟩ => ⟨w, env, S, r, e, (RP.bnd q).mono (fun k S1 h1 w1 H1 l1 r1 => by
    cases k with
    | true => exact ⟨w1, env, S1, r1, e.mono l1, RP.mono h1 (fun k2 S2 h2 w2 H2 l2 r2 => h2 w2 H2 (l1.trans l2) r2) fun _ _ _ x => x.le l1⟩
    | false => exact h1 w1 H1 l1 r1) fun _ _ _ x => x⟩
theorem iw_or (h : IB T E X a fb) (h2 : IW T E X (.BoolOp .Or (b :: es) pos) gb) : IW T E X (.BoolOp .Or (a :: b :: es) pos) (bOr fb gb) :=
  PW.mono (pw_or h h2) fun σ H Q ⟨w, env, S, r, e, q⟩ => ⟨w, env, S, r, e, (RP.bnd q).mono (fun k S1 h1 w1 H1 l1 r1 => by
    cases k with
    | false => exact ⟨w1, env, S1, r1, e.mono l1, RP.mono h1 (fun k2 S2 h2 w2 H2 l2 r2 => h2 w2 H2 (l1.trans l2) r2) fun _ _ _ x => x.le l1⟩
    | true => exact h1 w1 H1 l1 r1) fun _ _ _ x => x⟩
theorem ie_one {o : BoolOp} (h : IE T E X a f) : IE T E X (.BoolOp o [a] pos) f := pe_one h
theorem ie_and (h : IE T E X a f) (h2 : IE T E X (.BoolOp .And (b :: es) pos) g) : IE T E X (.BoolOp .And (a :: b :: es) pos) (eAnd f g) :=
  PE.mono (pe_and h h2) fun σ H Q ⟨w, env, S, r, e, q⟩ => ⟨w, env, S, r, e, (RP.bnd q).mono (fun d S1 h1 w1 H1 x l1 r1 p1 => by
    cases p1 with
    | bl k =>
      refine ⟨k, rfl, ?_⟩
      cases k with
      | true => exact ⟨w1, env, S1, r1, e.mono l1, RP.mono h1 (fun k2 S2 h2 w2 H2 v l2 r2 => h2 w2 H2 v (l1.trans l2) r2) fun _ _ _ x => x.le l1⟩
      | false => exact h1 w1 H1 _ l1 r1 (.bl false)
    | _ => exact (show False from h1).elim) fun _ _ _ x => x⟩
theorem ie_not (h : IE T E X a f) : IE T E X (.UnaryOp .Not a pos) (eNot f) :=
  PE.mono (pe_not h) fun σ H Q ⟨w, env, S, r, e, q⟩ => ⟨w, env, S, r, e, (RP.bnd q).mono (fun d S1 h1 w1 H1 x l1 r1 p1 => by
    cases p1 with
    | bl k => exact ⟨k, rfl, h1 w1 H1 _ l1 r1 (.bl (!k))⟩
    | _ => exact (show False from h1).elim) fun _ _ _ x => x⟩
theorem ie_if (hc : IB T E X c fb) (ha : IE T E X a f) (hb : IE T E X b g) : IE T E X (.IfExp c a b pos) (eIf fb f g) :=
  PE.mono (pe_ifExp hc ha hb) fun σ H Q ⟨w, env, S, r, e, q⟩ => ⟨w, env, S, r, e, (RP.bnd q).mono (fun k S1 h1 w1 H1 l1 r1 => by
    cases k with
    | true => exact ⟨w1, env, S1, r1, e.mono l1, RP.mono h1 (fun k2 S2 h2 w2 H2 v l2 r2 => h2 w2 H2 v (l1.trans l2) r2) fun _ _ _ x => x.le l1⟩
    | false => exact ⟨w1, env, S1, r1, e.mono l1, RP.mono h1 (fun k2 S2 h2 w2 H2 v l2 r2 => h2 w2 H2 v (l1.trans l2) r2) fun _ _ _ x => x.le l1⟩) fun _ _ _ x => x⟩
end Ro
end
section
set_option Elab.async false
set_option linter.all false
set_option maxRecDepth 100000
set_option maxHeartbeats 4000000
namespace Ro
open PySem PySem.Spec PyProof.Rows L2
variable {T : Tb} {E : XK} {X : Cx} {a b c : Expr} {es : List Expr} {f g h : EX} {fa ga : AX} {fb gb : BX} {pos : Pos}
theorem ia_nil : IA T E X [] aNil := PA.mono pa_nil fun σ H Q ⟨w, env, S, r, e, q⟩ => q w H [] (Wd.le.refl _) r .nil
theorem ia_cons (ha : IE T E X a f) (hr : IA T E X es fa) (hs : starEach (a :: es) X.env = (false, eval a X.env) :: starEach es X.env := by rfl) : IA T E X (a :: es) (aCons f fa) :=
  PA.mono (pa_cons ha hr hs) fun σ H Q ⟨w, env, S, r, e, q⟩ => ⟨w, env, S, r, e, (RP.bnd q).mono (fun d S1 h1 w1 H1 x l1 r1 p1 => ⟨w1, env, S1, r1, e.mono l1, (RP.bnd h1).mono (fun ds S2 h2 w2 H2 xs l2 r2 p2 => h2 w2 H2 _ (l1.trans l2) r2 (.cons (p1.mono l2) p2)) fun _ _ _ x => x.le l1⟩) fun _ _ _ x => x⟩
theorem ie_tup {k : Nat} (h : IA T E X es fa) : IE T E X (.Tuple es k pos) (eTup fa) :=
  PE.mono (pe_tup h) fun σ H Q ⟨w, env, S, r, e, q⟩ => ⟨w, env, S, r, e, (RP.bnd q).mono (fun ds S1 h1 w1 H1 xs l1 r1 p1 => by
    by_cases hl : ds.length ≤ LINE
    · rw [if_pos hl] at h1
      refine ⟨by rw [sizeLine_eq, ← p1.length]; exact hl, fun p hp => ?_⟩
      obtain ⟨l2, r2⟩ := r1.new hp (.tup xs)
      exact h1 _ _ _ (l1.trans l2) r2 (.tup (.inl (.inl upd_same)) (p1.mono l2))
    · rw [if_neg hl] at h1
      exact (show False from h1).elim) fun _ _ _ x => x⟩
theorem ie_lst (h : IA T E X es fa) : IE T E X (.List es pos) (eLst fa) :=
  PE.mono (pe_lst h) fun σ H Q ⟨w, env, S, r, e, q⟩ => ⟨w, env, S, r, e, (RP.bnd q).mono (fun ds S1 h1 w1 H1 xs l1 r1 p1 => by
    by_cases hl : ds.length ≤ LINE
    · rw [if_pos hl] at h1
      refine ⟨by rw [sizeLine_eq, ← p1.length]; exact hl, fun p hp => ?_⟩
      obtain ⟨l2, r2⟩ := r1.new hp (.lst xs)
      exact h1 _ _ _ (l1.trans l2) r2 (.lst upd_same (p1.mono l2))
    · rw [if_neg hl] at h1
      exact (show False from h1).elim) fun _ _ _ x => x⟩
theorem ie_lstM (h : IA T E X es fa) : IE T E X (.List es pos) (eLstM fa) :=
  PE.mono (pe_lst h) fun σ H Q ⟨w, env, S, r, e, q⟩ => ⟨w, env, S, r, e, (RP.bnd q).mono (fun ds S1 h1 w1 H1 xs l1 r1 p1 => by
    by_cases hl : ds.length ≤ LINE
    · rw [if_pos hl] at h1
      refine ⟨by rw [sizeLine_eq, ← p1.length]; exact hl, fun p hp => ?_⟩
      obtain ⟨l2, r2, at_⟩ := r1.alloc (o := .lst xs) (c := .lst ds) hp ⟨xs, upd_same, p1.mono (Wd.le.app _ _)⟩
      exact h1 _ _ _ (l1.trans l2) r2 (.ref at_)
    · rw [if_neg hl] at h1
      exact (show False from h1).elim) fun _ _ _ x => x⟩
theorem rd_chain {op op' : D → D → Option D} {σ : St} {H : Hp} {Q : VK} (q : tI T E (eChain op op' f g h) σ H Q) : tChain (rOp T op) (rOp T op') (tI T E f) (tI T E g) (tI T E h) σ H Q := by
  obtain ⟨w, env, S, r, e, q⟩ := q
  refine ⟨w, env, S, r, e, (RP.bnd q).mono (fun d S1 h1 w1 H1 x l1 r1 p1 => ⟨w1, env, S1, r1, e.mono l1, (RP.bnd h1).mono (fun d2 S2 h2 w2 H2 y l2 r2 p2 => ?_) (fun _ _ _ x => x.le l1)⟩) (fun _ _ _ x => x)⟩
  cases z : op d d2 with
  | none => rw [z] at h2; exact (show False from h2).elim
  | some k =>
    rw [z] at h2
    refine ⟨w2, d, d2, k, S2, r2, p1.mono l2, p2, z, fun w3 H3 v l3 r3 p3 => ?_⟩
    cases p3 with
    | bl kk =>
      refine ⟨kk, rfl, ?_⟩
      cases kk with
      | true =>
        rw [if_pos rfl]
        refine ⟨w3, env, S2, r3, e.mono ((l1.trans l2).trans l3), (RP.bnd h2).mono (fun d3 S3 h3 w4 H4 v4 l4 r4 p4 => ?_) fun _ _ _ x => x.le ((l1.trans l2).trans l3)⟩
        have := rOp_of (E := E) (Q := Q) r4 (p2.mono (l3.trans l4)) p4 (RP.mono h3 (fun d S' q w' H' v l => q w' H' v ((((l1.trans l2).trans l3).trans l4).trans l)) fun _ _ _ x => x.le (((l1.trans l2).trans l3).trans l4))
        exact this
      | false =>
        rw [if_neg Bool.false_ne_true]
        exact h2 w3 H3 _ ((l1.trans l2).trans l3) r3 (.bl false)
    | _ => exact (show False from h2).elim
theorem ie_chain {o o' : CmpOp} {op op' : D → D → Option D} (ho : OpR X (compareOp o) (rOp T op)) (ho' : OpR X (compareOp o') (rOp T op')) (ha : IE T E X a f) (hb : IE T E X b g) (hc : IE T E X c h) (hm : lastMarks [o, o'] [b, c] = false := by with_unfolding_all rfl) : IE T E X (.Compare a [o, o'] [b, c] pos) (eChain op op' f g h) :=
  PE.mono (pe_chain (pos := pos) ho ho' ha hb hc hm) fun σ H Q q => rd_chain q
theorem ib_chain {o o' : CmpOp} {op op' : D → D → Option D} (ho : OpR X (compareOp o) (rOp T op)) (ho' : OpR X (compareOp o') (rOp T op')) (ha : IE T E X a f) (hb : IE T E X b g) (hc : IE T E X c h) (hm : lastMarks [o, o'] [b, c] = false := by with_unfolding_all rfl) : IB T E X (.Compare a [o, o'] [b, c] pos) (bVal (eChain op op' f g h)) :=
  PT.mono (pt_chain (pos := pos) ho ho' ha hb hc hm) fun σ H Q q => rd_chain (tI_bVal q)
variable {st : Stmt} {sts rest : List Stmt} {s t : ES}
theorem CP.le {w w' : Wd} {D : Ends} {c : Ctl} {S : Store} (l : w.le w') (h : CP T w D c S) : CP T w' D c S := by
  cases c with
  | nx e => exact fun w2 H2 σ2 l2 => h w2 H2 σ2 (l.trans l2)
  | rt d => exact fun w2 H2 v l2 => h w2 H2 v (l.trans l2)
  | bk e => exact fun w2 H2 σ2 l2 => h w2 H2 σ2 (l.trans l2)
  | ct e => exact fun w2 H2 σ2 l2 => h w2 H2 σ2 (l.trans l2)
theorem is_one (h : IS T E X st s) : ISs T E X [st] s := pss_one h
theorem is_nil : ISs T E X [] sPass := PSs.mono pss_nil fun D σ H ⟨w, env, S, r, e, q⟩ => q w H σ (Wd.le.refl _) r e
theorem is_cons (h1 : IS T E X st s) (h2 : ISs T E X rest t) : ISs T E X (st :: rest) (sSeq s t) :=
  PSs.mono (pss_cons h1 h2) fun D σ H ⟨w, env, S, r, e, q⟩ => ⟨w, env, S, r, e, (RP.bnd q).mono (fun c S1 h1 => by
    cases c with
    | nx e1 => exact fun w1 H1 σ1 l1 r1 p1 => ⟨w1, e1, S1, r1, p1, RP.mono h1 (fun c S2 h2 => CP.le l1 h2) fun _ _ _ x => x.le l1⟩
    | rt d => exact h1
    | bk e => exact h1
    | ct e => exact h1) fun _ _ _ x => x⟩
theorem is_set {i : Nat} {x : Str} {p' : Pos} (hN : X.N.Nodup) (hi : X.N[i]? = some x) (hx : Loc X.env.scope x) (he : IE T E X a f) (hs : swapsWith a (some (.Name x p')) pos.line X.env = pure false := by rfl) (hf : X.fn x = true ∨ X.env.scope.names.lookup x = some .local := by first | exact .inl rfl | exact .inr rfl | assumption) :
    IS T E X (.Assign [.Name x p'] a pos) (sSet i f) :=
  PS.mono (ps_set hN hi hx he hs hf) fun D σ H ⟨w, env, S, r, e, q⟩ => ⟨w, env, S, r, e, (RP.bnd q).mono (fun d S1 h1 w1 H1 v l1 r1 p1 => h1 w1 H1 _ l1 r1 ((e.mono l1).set p1 i)) fun _ _ _ x => x⟩
theorem is_ret (he : IE T E X a f) : IS T E X (.Return (some a) pos) (sRet f) :=
  PS.mono (ps_ret he) fun D σ H ⟨w, env, S, r, e, q⟩ => ⟨w, env, S, r, e, (RP.bnd q).mono (fun d S1 h1 w1 H1 v l1 r1 p1 => h1 w1 H1 v l1 r1 p1) fun _ _ _ x => x⟩
theorem is_expr (he : IE T E X a f) (hs : swapsWith a none pos.line X.env = pure false := by rfl) : IS T E X (.Expr a pos) (sExpr f) :=
  PS.mono (ps_expr he hs) fun D σ H ⟨w, env, S, r, e, q⟩ => ⟨w, env, S, r, e, (RP.bnd q).mono (fun d S1 h1 w1 H1 v l1 r1 p1 => h1 w1 H1 _ l1 r1 (e.mono l1)) fun _ _ _ x => x⟩
theorem is_if {bs cs : List Stmt} (hc : IB T E X c fb) (ha : ISs T E X bs s) (hb : ISs T E X cs t) : IS T E X (.If c bs cs pos) (sIf fb s t) :=
  PS.mono (ps_if hc ha hb) fun D σ H ⟨w, env, S, r, e, q⟩ => ⟨w, env, S, r, e, (RP.bnd q).mono (fun k S1 h1 w1 H1 l1 r1 => by
    cases k with
    | true => exact ⟨w1, env, S1, r1, e.mono l1, RP.mono h1 (fun c S2 h2 => CP.le l1 h2) fun _ _ _ x => x.le l1⟩
    | false => exact ⟨w1, env, S1, r1, e.mono l1, RP.mono h1 (fun c S2 h2 => CP.le l1 h2) fun _ _ _ x => x.le l1⟩) fun _ _ _ x => x⟩
theorem wipe_len (σ : St) : ∀ vs : List Nat, (wipe σ vs).length = σ.length := wipe_length σ
theorem wipe_get (σ : St) (j : Nat) : ∀ vs : List Nat, (wipe σ vs)[j]? = if j ∈ vs then (if j < σ.length then some none else none) else σ[j]?
  | [] => by simp [wipe]
  | v :: vs => by
    show ((wipe σ vs).set v none)[j]? = _
    by_cases h : v = j
    · subst h
      rw [List.getElem?_set]
      simp [wipe_len]
    · rw [List.getElem?_set_ne h, wipe_get σ j vs]
      have e : (j ∈ v :: vs) ↔ j ∈ vs := by simp [Ne.symm h]
      simp only [e]
theorem wipe_set {σ : St} {i : Nat} {x : Option V} {vs : List Nat} (h : i ∈ vs) : wipe (σ.set i x) vs = wipe σ vs := by
  apply List.ext_getElem?
  intro j
  rw [wipe_get, wipe_get, List.length_set]
  by_cases hj : j ∈ vs
  · rw [if_pos hj, if_pos hj]
  · rw [if_neg hj, if_neg hj, List.getElem?_set_ne (fun z => hj (by rw [← z]; exact h))]
theorem wipe_wipe (σ : St) (vs : List Nat) : wipe (wipe σ vs) vs = wipe σ vs := by
  apply List.ext_getElem?
  intro j
  rw [wipe_get, wipe_get, wipe_len]
  by_cases hj : j ∈ vs
  · rw [if_pos hj, if_pos hj]
  · rw [if_neg hj, if_neg hj]
def gI (T : Tb) (vs : List Nat) (p : Pat) : TG := fun v σ H Q => ∃ w env S d e, WR T w S H ∧ ER T w env σ ∧ Rep T w d v ∧ p d env = some e ∧ ∀ σ', ER T w e σ' → wipe σ' vs = wipe σ vs → Q σ' H
def gIs (T : Tb) (vs : List Nat) (p : List D → Env → Option Env) : TGs := fun us σ H Q => ∃ w env S ds e, WR T w S H ∧ ER T w env σ ∧ Reps T w ds us ∧ p ds env = some e ∧ ∀ σ', ER T w e σ' → wipe σ' vs = wipe σ vs → Q σ' H
def IG (T : Tb) (X : Cx) (vs : List Nat) (tg : Expr) (p : Pat) : Prop := PG X tg (gI T vs p)
def IGs (T : Tb) (X : Cx) (vs : List Nat) (tg : List Expr) (p : List D → Env → Option Env) : Prop := PGs X tg (gIs T vs p)
theorem PG.mono {X : Cx} {e : Expr} {t t' : TG} (h : PG X e t) (k : ∀ v σ H Q, t' v σ H Q → t v σ H Q) : PG X e t' := ⟨fun pins s σ H v u Q I r q => h.run pins s σ H v u Q I r (k _ _ _ _ q)⟩
theorem PGs.mono {X : Cx} {e : List Expr} {t t' : TGs} (h : PGs X e t) (k : ∀ v σ H Q, t' v σ H Q → t v σ H Q) : PGs X e t' := ⟨fun pins s σ H v u Q I r q => h.run pins s σ H v u Q I r (k _ _ _ _ q)⟩
variable {vs : List Nat}
theorem ig_name {i : Nat} {x : Str} (hN : X.N.Nodup) (hi : X.N[i]? = some x) (hx : Loc X.env.scope x) (hv : i ∈ vs := by decide) (hf : X.fn x = true ∨ X.env.scope.names.lookup x = some .local := by first | exact .inl rfl | exact .inr rfl | assumption) : IG T X vs (.Name x pos) (pName i) :=
  PG.mono (pg_name hN hi hx hf) fun v σ H Q ⟨w, env, S, d, e, r, q, p, h, k⟩ => by
    cases h
    exact k _ (q.set p i) (wipe_set hv)
theorem igs_nil : IGs T X vs [] pNil := PGs.mono pgs_nil fun v σ H Q ⟨w, env, S, d, e, r, q, p, h, k⟩ => by
  cases p with
  | nil => cases h; exact ⟨rfl, k _ q rfl⟩
  | cons _ _ => cases h
theorem igs_cons {p : Pat} {ps : List D → Env → Option Env} (h1 : IG T X vs a p) (h2 : IGs T X vs es ps) (hs : (assignEach (a :: es) X.env).map (·.2) = assign a X.env :: (assignEach es X.env).map (·.2) := by rfl) : IGs T X vs (a :: es) (pCons p ps) :=
  PGs.mono (pgs_cons h1 h2 hs) fun v σ H Q ⟨w, env, S, d, e, r, q, p0, h, k⟩ => by
    cases p0 with
    | nil => cases h
    | @cons d1 v1 ds us p1 p2 =>
      have h : (p d1 env).bind (fun e => ps ds e) = some e := h
      cases z : p d1 env with
      | none => rw [z] at h; cases h
      | some e1 =>
        rw [z] at h
        exact ⟨_, _, rfl, w, env, S, d1, e1, r, q, p1, z, fun σ1 q1 z1 => ⟨w, e1, S, ds, e, r, q1, p2, h, fun σ2 q2 z2 => k σ2 q2 (z2.trans z1)⟩⟩
theorem ig_tup {ps : List D → Env → Option Env} {k n : Nat} (hc : X.calm = true) (h : IGs T X vs es ps) (hl : ∀ ds env e, ps ds env = some e → ds.length = n) (hK : X.K = T.K := by rfl)
    (hn : (assignEach es X.env).length = n := by rfl) (hst : (assignEach es X.env).findIdx? (·.1) = none := by rfl) : IG T X vs (.Tuple es k pos) (pTup ps) :=
  PG.mono (pg_tup hc h hn hst) fun v σ H Q ⟨w, env, S, d, e, r, q, p0, h, k⟩ => by
    cases p0 with
    | tup q2 r2 => exact ⟨_, _, rfl, by rw [hK]; exact sqt_sub r q2, by rw [← r2.length]; exact hl _ _ _ h, w, env, S, _, e, r, q, r2, h, k⟩
    | _ => cases h
theorem is_unp {p : Pat} (he : IE T E X a f) (hg : IG T X vs b p) (hs : swapsWithSole [b] a pos.line X.env = pure false := by rfl) (hw : swappedStores [b] a X.env = pure none := by rfl) (h1 : (assignEach [b] X.env).map (·.2) = [assign b X.env] := by rfl) : IS T E X (.Assign [b] a pos) (sUnp p f) :=
  PS.mono (ps_asg he hg hs hw h1) fun D σ H ⟨w, env, S, r, e, q⟩ => ⟨w, env, S, r, e, (RP.bnd q).mono (fun d S1 h1 w1 H1 v l1 r1 p1 => by
    cases z : p d env with
    | none => rw [z] at h1; exact (show False from h1).elim
    | some e1 =>
      rw [z] at h1
      exact ⟨w1, env, S1, d, e1, r1, e.mono l1, p1, z, fun σ' q' _ => h1 w1 H1 σ' l1 r1 q'⟩) fun _ _ _ x => x⟩
end Ro
end
section
set_option Elab.async false
set_option linter.all false
set_option maxRecDepth 100000
set_option maxHeartbeats 4000000
namespace Ro
open PySem PySem.Spec PyProof.Rows L2
variable {T : Tb} {E : XK} {X : Cx} {a b c : Expr} {es : List Expr} {f g h : EX} {fa ga : AX} {fb gb : BX} {pos : Pos} {st : Stmt} {sts rest : List Stmt} {s t : ES}
structure ItR (T : Tb) (w : Wd) (ds : List D) (J : It) : Prop where
  goS : ∀ (i : Nat) H w' S, w.sb w' → WR T w' S H → i < ds.length → J.go i H
  stopS : ∀ (i : Nat) H w' S, w.sb w' → WR T w' S H → ds.length ≤ i → J.stop i H
  yldS : ∀ (i : Nat) H x H' w' S d, w.sb w' → WR T w' S H → ds[i]? = some d → J.yld i H x H' → ∃ w2, w'.le w2 ∧ WR T w2 S H' ∧ Rep T w2 d x
theorem ItR.go {T : Tb} {w : Wd} {ds : List D} {J : It} (it : ItR T w ds J) (i : Nat) (H : Hp) (w' : Wd) (S : Store) (l : w.le w') (r : WR T w' S H) (h : i < ds.length) : J.go i H := it.goS i H w' S l.tosb r h
theorem ItR.stop {T : Tb} {w : Wd} {ds : List D} {J : It} (it : ItR T w ds J) (i : Nat) (H : Hp) (w' : Wd) (S : Store) (l : w.le w') (r : WR T w' S H) (h : ds.length ≤ i) : J.stop i H := it.stopS i H w' S l.tosb r h
theorem ItR.yld {T : Tb} {w : Wd} {ds : List D} {J : It} (it : ItR T w ds J) (i : Nat) (H : Hp) (x : V) (H' : Hp) (w' : Wd) (S : Store) (d : D) (l : w.le w') (r : WR T w' S H) (hd : ds[i]? = some d) (y : J.yld i H x H') : ∃ w2, w'.le w2 ∧ WR T w2 S H' ∧ Rep T w2 d x := it.yldS i H x H' w' S d l.tosb r hd y
def tII (T : Tb) (E : XK) (fa : AX) : TI := fun σ H R => ∃ w env S, WR T w S H ∧ ER T w env σ ∧ RP (fa env S) (fun ds S' => ∀ w' H' J, w.le w' → WR T w' S' H' → ItR T w' ds J → R J H') (XW T w E)
def II (T : Tb) (E : XK) (X : Cx) (tg iter : Expr) (fa : AX) : Prop := PI X tg iter (tII T E fa)
theorem PI.mono {X : Cx} {tg e : Expr} {t t' : TI} (h : PI X tg e t) (k : ∀ σ H R, t' σ H R → t σ H R) : PI X tg e t' := ⟨fun pins s σ H R I q => h.run pins s σ H R I (k _ _ _ q)⟩
theorem is_for {tg iter : Expr} {body : List Stmt} {p : Pat} (hp : PassesOwn (model X.prog X.w) X.A X.env X.xe) (hc : X.calm = true) (hi : II T E X tg iter fa) {vs : List Nat} (hg : IG T X vs tg p) (hb : ISs T E X body s) (hs : ∀ x, foldedSetIterable iter X.env x = pure x := by intro _; rfl) : IS T E X (.For tg iter body [] pos) (sFor fa p s) :=
  PS.mono (ps_for hp hc hi hg hb hs) fun D σ H ⟨w, env, S, r, e, q⟩ => ⟨w, env, S, r, e, (RP.bnd q).mono (fun ds S1 h1 w1 H1 J l1 r1 it => by
    refine ⟨fun i m σ H => m = ds.length - i ∧ i ≤ ds.length ∧ ∃ w env S, w1.le w ∧ WR T w S H ∧ ER T w env σ ∧ RP (loop p s (ds.drop i) env S) (CP T w D) (XW T w E),
      ⟨ds.length, by simp, Nat.zero_le _, w1, env, S1, Wd.le.refl _, r1, e.mono l1, RP.mono h1 (fun c S2 h2 => CP.le l1 h2) fun _ _ _ x => x.le l1⟩, ?_⟩
    rintro i m σ H ⟨rfl, hi, w, env, S, l, r, e, q⟩
    by_cases hlt : i < ds.length
    · refine .inr ⟨it.go i H w S l r hlt, fun σ H => i + 1 ≤ ds.length ∧ ∃ w env S, w1.le w ∧ WR T w S H ∧ ER T w env σ ∧ RP (loop p s (ds.drop (i + 1)) env S) (CP T w D) (XW T w E), fun σ' H' h => ⟨ds.length - (i + 1), by omega, rfl, h⟩, fun x H' y => ?_⟩
      obtain ⟨w2, l2, r2, p2⟩ := it.yld i H x H' w S ds[i] l r (List.getElem?_eq_getElem hlt) y
      rw [List.drop_eq_getElem_cons hlt] at q
      unfold loop at q
      cases z : p ds[i] env with
      | none => rw [z] at q; exact (show False from q).elim
      | some e1 =>
        rw [z] at q
        refine ⟨w2, env, S, ds[i], e1, r2, e.mono l2, p2, z, fun σ2 q2 _ => ⟨w2, e1, S, r2, q2, (RP.bnd q).mono (fun c S3 h3 => ?_) fun _ _ _ x => x.le l2⟩⟩
        cases c with
        | nx e3 => exact fun w4 H4 σ4 l4 r4 q4 => ⟨hlt, w4, e3, S3, (l.trans l2).trans l4, r4, q4, RP.mono h3 (fun c S5 h5 => CP.le (l2.trans l4) h5) fun _ _ _ x => x.le (l2.trans l4)⟩
        | ct e3 => exact fun w4 H4 σ4 l4 r4 q4 => ⟨hlt, w4, e3, S3, (l.trans l2).trans l4, r4, q4, RP.mono h3 (fun c S5 h5 => CP.le (l2.trans l4) h5) fun _ _ _ x => x.le (l2.trans l4)⟩
        | bk e3 => exact fun w4 H4 σ4 l4 => h3 w4 H4 σ4 (l2.trans l4)
        | rt d => exact fun w4 H4 v l4 => h3 w4 H4 v (l2.trans l4)
    · have e0 : ds.drop i = [] := List.drop_of_length_le (by omega)
      rw [e0] at q
      exact .inl ⟨it.stop i H w S l r (by omega), q w H σ (Wd.le.refl _) r e⟩) fun _ _ _ x => x⟩
/-- a list, a tuple that stands still -/
def itSeq (f : EX) : AX := fun env S => (f env S).bnd fun d S1 => match d with
  | .lst l => .ok l S1
  | _ => .bad
def itTup (f : EX) : AX := fun env S => (f env S).bnd fun d S1 => match d with
  | .tup l => .ok l S1
  | _ => .bad
theorem itR_lst {w : Wd} {l : List D} {p : Addr} {vs : List V} (q : SqL T.K w.G p vs) (r : Reps T w l vs) : ItR T w l (Itl T.K p) where
  goS := fun i H w' S l1 r1 hi => by
    obtain ⟨v, h1, _⟩ := r.get (List.getElem?_eq_getElem hi)
    exact ⟨vs, v, sql_sub r1 (sql_le l1 q), h1⟩
  stopS := fun i H w' S l1 r1 hi => ⟨vs, sql_sub r1 (sql_le l1 q), by rw [← r.length]; exact hi⟩
  yldS := fun i H x H' w' S d l1 r1 hd y => by
    obtain ⟨rfl, y⟩ := y
    obtain ⟨v, h1, h2⟩ := r.get hd
    have e := y vs (sql_sub r1 (sql_le l1 q))
    rw [h1] at e
    cases e
    exact ⟨w', Wd.le.refl _, r1, h2.monoS l1⟩
theorem itR_tup {w : Wd} {l : List D} {p : Addr} {vs : List V} (q : SqT T.K w.G p vs) (r : Reps T w l vs) : ItR T w l (Itt T.K p) where
  goS := fun i H w' S l1 r1 hi => by
    obtain ⟨v, h1, _⟩ := r.get (List.getElem?_eq_getElem hi)
    exact ⟨vs, v, sqt_sub r1 (sqt_le l1 q), h1⟩
  stopS := fun i H w' S l1 r1 hi => ⟨vs, sqt_sub r1 (sqt_le l1 q), by rw [← r.length]; exact hi⟩
  yldS := fun i H x H' w' S d l1 r1 hd y => by
    obtain ⟨rfl, y⟩ := y
    obtain ⟨v, h1, h2⟩ := r.get hd
    have e := y vs (sqt_sub r1 (sqt_le l1 q))
    rw [h1] at e
    cases e
    exact ⟨w', Wd.le.refl _, r1, h2.monoS l1⟩
theorem ii_lst {tg : Expr} (hK : X.K = T.K) (h : IE T E X a f) : II T E X tg a (itSeq f) :=
  PI.mono (pi_list h) fun σ H Rr ⟨w, env, S, r, e, q⟩ => ⟨w, env, S, r, e, (RP.bnd q).mono (fun d S1 h1 w1 H1 v l1 r1 p1 => by
    cases p1 with
    | lst q2 r2 =>
      refine ⟨_, rfl, ⟨_, .inl (.inl (r1.sub _ _ q2))⟩, ?_⟩
      rw [hK]
      exact h1 w1 H1 _ l1 r1 (itR_lst (.inl (.inl q2)) r2)
    | _ => exact (show False from h1).elim) fun _ _ _ x => x⟩
theorem ii_tup {tg : Expr} (hK : X.K = T.K) (h : IE T E X a f) : II T E X tg a (itTup f) :=
  PI.mono (pi_tup h) fun σ H Rr ⟨w, env, S, r, e, q⟩ => ⟨w, env, S, r, e, (RP.bnd q).mono (fun d S1 h1 w1 H1 v l1 r1 p1 => by
    cases p1 with
    | tup q2 r2 =>
      refine ⟨_, rfl, ⟨_, by rw [hK]; exact sqt_sub r1 q2⟩, ?_⟩
      rw [hK]
      exact h1 w1 H1 _ l1 r1 (itR_tup q2 r2)
    | _ => exact (show False from h1).elim) fun _ _ _ x => x⟩
/-- lo, lo + 1, .. -/
def rngL (lo : Int) (n : Nat) : List D := (List.range n).map fun i : Nat => D.int (lo + (i : Int))
def small62 (i : Int) : Bool := decide (-(2 ^ 62) ≤ i ∧ i < 2 ^ 62)
def itR1 (fa : AX) : AX := fun env S => (fa env S).bnd fun ds S1 => match ds with
  | [.int j] => if small62 j then .ok (rngL 0 j.toNat) S1 else .bad
  | _ => .bad
def itR2 (fa : AX) : AX := fun env S => (fa env S).bnd fun ds S1 => match ds with
  | [.int i, .int j] => if small62 i && small62 j then .ok (rngL i (j - i).toNat) S1 else .bad
  | _ => .bad
theorem itR_rng {w : Wd} {lo : Int} {n : Nat} : ItR T w (rngL lo n) (Itr lo n) where
  goS := fun i H w' S l1 r1 hi => by
    have e : (rngL lo n).length = n := by unfold rngL; simp
    rw [e] at hi
    exact hi
  stopS := fun i H w' S l1 r1 hi => by
    have e : (rngL lo n).length = n := by unfold rngL; simp
    rw [e] at hi
    exact hi
  yldS := fun i H x H' w' S d l1 r1 hd y => by
    obtain ⟨rfl, rfl⟩ := y
    unfold rngL at hd
    rw [List.getElem?_map] at hd
    cases z : (List.range n)[i]? with
    | none => rw [z] at hd; cases hd
    | some k =>
      rw [z] at hd
      obtain ⟨hl, e⟩ := List.getElem?_eq_some_iff.mp z
      rw [List.getElem_range] at e
      subst e
      cases hd
      exact ⟨w', Wd.le.refl _, r1, .int _⟩
theorem ii_r1 {tg : Expr} {p : Pos} (hg : Gl X "range") (hm : X.mg "range" = none) (ha : IA T E X [a] fa) (hs : starEach [a] X.env = [(false, eval a X.env)] := by rfl) : II T E X tg (.Call (.Name "range" p) [a] [] pos) (itR1 fa) :=
  PI.mono (pi_range1 hg hm ha hs) fun σ H Rr ⟨w, env, S, r, e, q⟩ => ⟨w, env, S, r, e, (RP.bnd q).mono (fun ds S1 h1 w1 H1 v l1 r1 p1 => by
    split at h1
    · rename_i j
      cases p1 with
      | cons p2 p3 =>
        cases p2; cases p3
        by_cases hj : small62 j
        · rw [if_pos hj] at h1
          have hj' := of_decide_eq_true hj
          exact ⟨j, rfl, hj'.1, hj'.2, h1 w1 H1 _ l1 r1 itR_rng⟩
        · rw [if_neg hj] at h1
          exact (show False from h1).elim
    · exact (show False from h1).elim) fun _ _ _ x => x⟩
def spI (T : Tb) (n : Nat) (m : Fn) : Sp := fun vs H Q E => vs.length = n ∧ ∃ w ds S, WR T w S H ∧ Reps T w ds vs ∧ RP (m ds S) (fun d S' => ∀ w' H' v, w.le w' → WR T w' S' H' → Rep T w' d v → Q v H') (XW T w E)
theorem er_start {w : Wd} {N : List Str} {ds : List D} {vs : List V} (r : Reps T w ds vs) : ER T w (ds.map some ++ List.replicate (N.length - ds.length) none) (L2.start N vs) := by
  refine ⟨by simp [L2.start, r.length], fun i d h => ?_⟩
  by_cases hi : i < ds.length
  · rw [List.getElem?_append_left (by simpa using hi), List.getElem?_map] at h
    cases z : ds[i]? with
    | none => rw [z] at h; cases h
    | some d2 =>
      rw [z] at h
      have e : d2 = d := by simpa using h
      subst e
      obtain ⟨v, h1, h2⟩ := r.get z
      refine ⟨v, ?_, h2⟩
      unfold L2.start
      rw [List.getElem?_append_left (by rw [List.length_map, ← r.length]; exact hi), List.getElem?_map, h1]
      rfl
  · rw [List.getElem?_append_right (by simpa using hi)] at h
    rw [List.getElem?_replicate] at h
    split at h <;> cases h
/-- room, and no repr under way -/
structure RG (k : Nat) (A : Around) : Prop where
  rm : Room k A
  gd : A.guards = some []
theorem RG.mono {j k : Nat} {A : Around} (r : RG k A) (h : j ≤ k) : RG j A := ⟨r.rm.mono h, r.gd⟩
theorem RG.deeper {k : Nat} {A : Around} (r : RG (k + 1) A) (env : PySem.Env) : RG k (A.deeper env) := ⟨r.rm.deeper env, r.gd⟩
theorem RG.in1 {k : Nat} {A : Around} (r : RG (k + 1) A) : RG k A.in1 := ⟨r.rm.in1, r.gd⟩
theorem RG.make {k : Nat} {A : Around} (r : RG (k + 1) A) (c : Addr) (us : List Value) (kw : List (Str × Value)) : RG k (A.under (.builtin "type.__call__" ⟨.ref c :: us, kw⟩)) :=
  ⟨r.rm.make c us kw, by
    have e := r.gd
    have g : Code.guards (.builtin "type.__call__" ⟨.ref c :: us, kw⟩) = [] := by
      unfold Code.guards
      rw [if_neg (by show ¬ (guardIds.contains "type.__call__" = true); decide)]
    show pushGuards (Code.guards (.builtin "type.__call__" ⟨.ref c :: us, kw⟩)) A.guards = some []
    rw [g]
    exact e⟩
/-- .. a def that runs wherever there is room and no repr is under way -/
structure FnG (P : Program) (w : World) (K : PySem.W.Frag) (mg : Str → Option Value) (base : Heap) (k : Nat) (fp : Addr) (fd : FuncData) (ps : List Str) (sp : Sp) : Prop where
  run : ∀ (A : Around) (below : List PySem.Env) (s : Shared) (H : Hp) (ar : Args) (us : List Value) (vs : List V) (Q : VK) (E : XK), RG k A → Env0 P w K mg base A below s H → BindsTo s fd ar (ps.zip us) → Vals vs us → sp vs H Q E →
    codeAny (model P w) A (.call (.ref fp) ar) (CR (L2.CX P w) below P w H s Q E) s
theorem FnG.mono {P : Program} {w : World} {K : PySem.W.Frag} {mg : Str → Option Value} {base : Heap} {j k : Nat} {fp : Addr} {fd : FuncData} {ps : List Str} {sp : Sp} (F : FnG P w K mg base j fp fd ps sp) (h : j ≤ k) : FnG P w K mg base k fp fd ps sp :=
  ⟨fun A below s H ar us vs Q E hr => F.run A below s H ar us vs Q E (hr.mono h)⟩
theorem fnG_of {P : Program} {w : World} {K : PySem.W.Frag} {mg : Str → Option Value} {base : Heap} {k : Nat} {fp : Addr} {nm ql : Str} {prm : Arguments} {bd : List Stmt} {scp : Scope} {dV kV doc pm cdv ct oc : Value} {an od : Option Addr}
    {osl : Array (Option Value)} {N ps : List Str} {sp : Sp} (look : K.lookup fp = some ⟨oc, od, .func (PySem.W.fnOf nm ql prm bd scp dV kV doc pm an cdv ct), osl⟩) (code : PySem.W.codeIn K cdv ql = true) (Sc : FnScope N ps scp)
    (len : ∀ vs H Q E, sp vs H Q E → vs.length = ps.length)
    (h : ∀ (A : Around) (below : List PySem.Env) (s : Shared) (H : Hp) (vs : List V) (Q : VK) (E : XK), RG k (A.deeper (envOfC ql scp s.heap.objs.size fp cdv)) → sp vs H Q E →
      ∃ t, PSs (cxOf (L2.CX P w) P w K mg base N ql scp fp cdv A below s H E) bd t ∧ t { nx := fun _ H' => Q .non H', rt := Q } (L2.start N vs) H) :
    FnG P w K mg base (k + 1) fp (PySem.W.fnOf nm ql prm bd scp dV kV doc pm an cdv ct) ps sp := by
  constructor
  intro A below s H ar us vs Q E hr env0 hbd rv hsp
  have hlen := len _ _ _ _ hsp
  have inK : K.In s.heap := env0.mod.kin.keeps fun b o q => (env0.bs b o q).1
  have noLim : s.heap.NoLimit := env0.mod.nolimit.keeps fun b o q => (env0.bs b o q).1
  have kinds : ∀ z ∈ ps.zip us, scp.names.lookup z.1 = some .local ∨ (scp.names.lookup z.1 = some .cell ∧ ((cellsFrom (s.heap.objs.size + 1) scp.names []).lookup z.1).isSome = true) := by
    rintro ⟨n, v⟩ hz
    rcases Sc.par n (List.of_mem_zip hz).1 with k1 | k1
    · exact Or.inl k1
    · exact Or.inr ⟨k1, PySem.W.cellsFrom_some _ _ _ (Or.inl k1)⟩
  refine codeAny_call_function hr.rm.depth (inK _ _ look) rfl Sc.co Sc.gen rfl (PySem.W.codeRec_of inK code) (hbd _ _ _ _ ?_)
  refine wpAny_newFunctionEnv_cells Sc.kind kinds fun en hen st hx => ?_
  subst hen
  obtain ⟨t, runs, ends⟩ := h A below s H vs Q E (hr.deeper _) hsp
  have J0 : Inv (cxOf (L2.CX P w) P w K mg base N ql scp fp cdv A below s H E) [] (L2.start N vs) H st := inv_start Sc hr.rm.hd env0 hlen rv hx
  refine ⟨noLim.keeps hx.toInCall.keep, codeAny_func (wpAny_mono (runs.run [] st (L2.start N vs) H _ J0 ends) (fun fl st' hs => ?_) fun e st' hs => hs)⟩
  cases fl with
  | ret u =>
    obtain ⟨v, _, H', J, r1, q⟩ := hs
    exact ⟨v, H', J.os, J.bare, J.base, J.hok, r1, q⟩
  | next =>
    obtain ⟨_, H', J, q⟩ := hs
    exact ⟨V.non, H', J.os, J.bare, J.base, J.hok, rfl, q⟩
  | brk => exact hs.elim fun _ z => z.elim fun _ z => z.2.elim
  | cont => exact hs.elim fun _ z => z.elim fun _ z => z.2.elim
/-- a call by it -/
theorem FnG.callBy {X : Cx} {n k : Nat} {fp : Addr} {fd : FuncData} {ps ks : List Str} {sp : Sp} {gg : List Value → List Value → List Value} {gV : List V → List V → List V} {E : XK} {pins : List (Addr × Obj)} {σ : St} {H : Hp} {s : Shared} {Q : VK} {us ws : List Value} {vs zs : List V}
    (F : FnG X.prog X.w X.K X.mg X.base k fp fd ps sp) (hr : RG k X.A) (hb : KBn X.K fd ps n ks gg gV) (hx : Passes (L2.CX X.prog X.w) X E) (I : Inv X pins σ H s) (rv : Vals vs us) (rz : Vals zs ws) (l1 : vs.length = n) (l2 : zs.length = ks.length) (h : sp (gV vs zs) H Q E) :
    wpAny (model X.prog X.w) X.A (call (.ref fp) us (ks.zip ws)) (EP X pins σ Q) X.xe s := by
  have all := hb.rel rv rz
  have run := F.run X.A X.stack s H ⟨us, ks.zip ws⟩ (gg us ws) (gV vs zs) Q E hr I.env0 (hb.to s us ws I.kIn (rv.length.symm.trans l1) (rz.length.symm.trans l2)) all h
  refine wpAny_call (codeAny_mono run fun r st hq => ?_)
  match r, hq with
  | .error e, hq => exact hx pins σ H s e st I hq
  | .ok (.ret u), hq => exact I.after hq
/-- a new thing by its __init__ -/
theorem FnG.makes {X : Cx} {n k : Nat} {C fp : Addr} {fd : FuncData} {ps ks : List Str} {sp : Sp} {gg : List Value → List Value → List Value} {gV : List V → List V → List V} {E : XK} {pins : List (Addr × Obj)} {σ : St} {H : Hp} {s : Shared} {Q : VK} {us ws : List Value} {vs zs : List V}
    (M : Mk X.K C fp) (F : FnG X.prog X.w X.K X.mg X.base k fp fd ps sp) (hr : RG (k + 1) X.A) (hb : KBn X.K fd ps (n + 1) ks gg gV) (hx : Passes (L2.CX X.prog X.w) X E) (I : Inv X pins σ H s) (rv : Vals vs us) (rz : Vals zs ws) (l1 : vs.length = n) (l2 : zs.length = ks.length)
    (h : ∀ x dx, H x = none → H dx = none → dx ≠ x → sp (gV (.ref x :: vs) zs) (upd (upd H dx (.own x)) x (.ins C dx [])) (fun v H2 => v = .non ∧ Q (.ref x) H2) E) :
    wpAny (model X.prog X.w) X.A (call (.ref C) us (ks.zip ws)) (EP X pins σ Q) X.xe s := by
  have start := h (s.heap.objs.size + 1) s.heap.objs.size (I.hok.fresh (by omega)) (I.hok.fresh (by omega)) (by intro z; exact absurd z (Nat.ne_of_lt (Nat.lt_succ_self _)))
  have J := Inv.made (C := C) I
  have rv1 : Vals (V.ref (s.heap.objs.size + 1) :: vs) (Value.ref (s.heap.objs.size + 1) :: us) := .cons rfl rv
  have n1 : (Value.ref (s.heap.objs.size + 1) :: us).length = n + 1 := by rw [← rv1.length, List.length_cons, l1]
  have run := F.run _ X.stack _ _ ⟨Value.ref (s.heap.objs.size + 1) :: us, ks.zip ws⟩ _ _ _ E (hr.make C us (ks.zip ws)) (J.env0.make C us (ks.zip ws)) (hb.to _ _ ws J.kIn n1 (rz.length.symm.trans l2)) (hb.rel rv1 rz) start
  refine wpAny_call (make_map (f := fp) I.kIn M.makes M.init (beq_iff_eq.mp M.fn) (codeAny_mono run fun r st hq => ?_))
  match r, hq with
  | .error e, hq => exact hx pins σ _ _ e st J hq
  | .ok (.ret u), hq =>
    obtain ⟨v, H', J3, r3, e3, q3⟩ := J.after hq
    subst e3
    exact ⟨r3, V.ref (s.heap.objs.size + 1), H', J3, rfl, q3⟩
/-- a def of the text keeps what its mirror says -/
structure OkF (T : Tb) (P : Program) (w : World) (mg : Str → Option Value) (base : Heap) (k : Nat) (d : He.DefD) (ps : List Str) (m : Fn) : Prop where
  ex : ∃ fd, FunD T.K d.name d.qual d.params d.body d.scope (d.dvs T.K) [] (He.fAd T.K d.at_) fd ∧ FnG P w T.K mg base k (He.fAd T.K d.at_) fd ps (spI T ps.length m)
theorem OkF.mono {T : Tb} {P : Program} {w : World} {mg : Str → Option Value} {base : Heap} {j k : Nat} {d : He.DefD} {ps : List Str} {m : Fn} (F : OkF T P w mg base j d ps m) (h : j ≤ k) : OkF T P w mg base k d ps m := by
  obtain ⟨fd, F1, F2⟩ := F.ex
  exact ⟨fd, F1, F2.mono h⟩
theorem OkF.mk' {P : Program} {w : World} {mg : Str → Option Value} {base : Heap} {k : Nat} {d : He.DefD} {ps N : List Str} {body : ES} {fd : FuncData}
    (F : FunD T.K d.name d.qual d.params d.body d.scope (d.dvs T.K) [] (He.fAd T.K d.at_) fd) (Sc : FnScope N ps d.scope)
    (h : ∀ (cdv : Value) (A : Around) (outer : List PySem.Env) (s : Shared) (H : Hp) (E : XK), RG k (A.deeper (envOfC d.qual d.scope s.heap.objs.size (He.fAd T.K d.at_) cdv)) →
      ISs T E (cxOf (L2.CX P w) P w T.K mg base N d.qual d.scope (He.fAd T.K d.at_) cdv A outer s H E) d.body body) : OkF T P w mg base (k + 1) d ps (fnM N.length body) := by
  refine ⟨fd, F, ?_⟩
  obtain ⟨oc, od, dV, kV, doc, pm, an, cdv, ct, osl, rfl, lk, hcd, _, _⟩ := F.ex
  refine fnG_of lk hcd Sc (fun vs H Q E h => h.1) fun A outer s H vs Q E hr hsp => ⟨_, h cdv A outer s H E hr, ?_⟩
  obtain ⟨hl, w0, ds, S, r, q, hm⟩ := hsp
  refine ⟨w0, _, S, r, er_start q, (RP.bnd hm).mono (fun c S1 h1 => ?_) fun _ _ _ x => x⟩
  cases c with
  | rt d => exact h1
  | nx e => exact fun w' H' σ' l r' q' => h1 w' H' .non l r' .non
  | bk e => exact (show False from h1).elim
  | ct e => exact (show False from h1).elim
end Ro
end
section
set_option Elab.async false
set_option linter.all false
set_option maxRecDepth 100000
set_option maxHeartbeats 4000000
namespace Ro
open PySem PySem.Spec PyProof.Rows L2
variable {T : Tb} {E : XK} {X : Cx} {a b c : Expr} {es : List Expr} {f g h : EX} {fa ga fk : AX} {fb gb : BX} {pos : Pos} {st : Stmt} {sts rest : List Stmt} {s t : ES}
theorem reps_get_none {w : Wd} {xs : List D} {us : List V} (r : Reps T w xs us) {i : Nat} (h : xs[i]? = none) : us[i]? = none := by
  have e := List.getElem?_eq_none_iff.mp h
  exact List.getElem?_eq_none_iff.mpr (by rw [← r.length]; exact e)
theorem vals_pick : ∀ (pk : List (Nat × Nat)) {vs ds zs : List V} {us its ws : List Value}, Vals vs us → Vals ds its → Vals zs ws → Vals (pick pk vs ds zs) (pick pk us its ws)
  | [], _, _, _, _, _, _, _, _, _ => .nil
  | q :: pk, vs, ds, zs, us, its, ws, h1, h2, h3 => by
    have ih := vals_pick pk h1 h2 h3
    have key : ∀ {xs : List V} {ys : List Value}, Vals xs ys → Vals (xs[q.2]?).toList (ys[q.2]?).toList := fun {xs ys} r => by
      cases e : xs[q.2]? with
      | none => rw [r.none_of e]; exact .nil
      | some x =>
        obtain ⟨y, e1, e2⟩ := r.get e
        rw [e1]
        exact .cons e2 .nil
    show Vals (((if q.1 = 0 then vs else if q.1 = 1 then ds else zs)[q.2]?).toList ++ pick pk vs ds zs) (((if q.1 = 0 then us else if q.1 = 1 then its else ws)[q.2]?).toList ++ pick pk us its ws)
    refine Vals.append ?_ ih
    by_cases c1 : q.1 = 0
    · rw [if_pos c1, if_pos c1]; exact key h1
    · rw [if_neg c1, if_neg c1]
      by_cases c2 : q.1 = 1
      · rw [if_pos c2, if_pos c2]; exact key h2
      · rw [if_neg c2, if_neg c2]; exact key h3
theorem reps_pick {w : Wd} : ∀ (pk : List (Nat × Nat)) {vs ds zs : List D} {us its ws : List V}, Reps T w vs us → Reps T w ds its → Reps T w zs ws → Reps T w (pick pk vs ds zs) (pick pk us its ws)
  | [], _, _, _, _, _, _, _, _, _ => .nil
  | q :: pk, vs, ds, zs, us, its, ws, h1, h2, h3 => by
    have ih := reps_pick pk h1 h2 h3
    have key : ∀ {xs : List D} {ys : List V}, Reps T w xs ys → Reps T w (xs[q.2]?).toList (ys[q.2]?).toList := fun {xs ys} r => by
      cases e : xs[q.2]? with
      | none => rw [reps_get_none r e]; exact .nil
      | some x =>
        obtain ⟨y, e1, e2⟩ := r.get e
        rw [e1]
        exact .cons e2 .nil
    show Reps T w (((if q.1 = 0 then vs else if q.1 = 1 then ds else zs)[q.2]?).toList ++ pick pk vs ds zs) (((if q.1 = 0 then us else if q.1 = 1 then its else ws)[q.2]?).toList ++ pick pk us its ws)
    refine Reps.append ?_ ih
    by_cases c1 : q.1 = 0
    · rw [if_pos c1, if_pos c1]; exact key h1
    · rw [if_neg c1, if_neg c1]
      by_cases c2 : q.1 = 1
      · rw [if_pos c2, if_pos c2]; exact key h2
      · rw [if_neg c2, if_neg c2]; exact key h3
/-- a call's binding -/
structure KBD (T : Tb) (fd : FuncData) (ps : List Str) (n : Nat) (ks : List Str) (pk : List (Nat × Nat)) (dfs : List D) : Prop where
  ex : ∃ its dvs, KBn T.K fd ps n ks (fun us ws => pick pk us its ws) (fun vs zs => pick pk vs dvs zs) ∧ ∀ w, Reps T w dfs dvs
def dvD : He.Dv → D
  | .bl b => .bl b
  | .int i => .int i
  | .str s => .str s
  | _ => .non
def dvOk : He.Dv → Bool
  | .non => true
  | .bl _ => true
  | .int _ => true
  | .str _ => true
  | _ => false
theorem reps_dfl {K : PySem.W.Frag} {w : Wd} : ∀ {l : List He.Dv}, l.all dvOk = true → Reps T w (l.map dvD) (l.map (He.Dv.v K))
  | [], _ => .nil
  | d :: l, h => by
    obtain ⟨h1, h2⟩ := Bool.and_eq_true_iff.mp (show (dvOk d && l.all dvOk) = true from h)
    refine .cons ?_ (reps_dfl h2)
    cases d <;> first | exact .non | exact .bl _ | exact .int _ | exact .str _ | cases h1
/-- no default is asked -/
theorem kbd_n {x qual : Str} {params : Arguments} {body : List Stmt} {scope : Scope} {f : Addr} {fd : FuncData} {ps ks : List Str} {n : Nat} {pk : List (Nat × Nat)} (F : FunD T.K x qual params body scope [] [] f fd)
    (h : ∀ (kV doc pm : Value) (an : Option Addr) (cdv ct : Value) (us ws : List Value), us.length = n → ws.length = ks.length → bindArgs (PySem.W.fnOf x qual params body scope .none kV doc pm an cdv ct) ⟨us, ks.zip ws⟩ = pure (ps.zip (pick pk us [] ws))) : KBD T fd ps n ks pk [] := by
  obtain ⟨oc, od, dV, kV, doc, pm, an, cdv, ct, osl, rfl, lk, hcd, hD, hK⟩ := F.ex
  rcases hD with ⟨_, rfl⟩ | ⟨e, _⟩
  · exact ⟨[], [], ⟨fun s us ws X l1 l2 => .of_eq (h kV doc pm an cdv ct us ws l1 l2), fun r1 r2 => vals_pick pk r1 .nil r2⟩, fun _ => .nil⟩
  · exact absurd rfl e
theorem kbd_d {x qual : Str} {params : Arguments} {body : List Stmt} {scope : Scope} {f : Addr} {fd : FuncData} {ps ks : List Str} {n : Nat} {pk : List (Nat × Nat)} {l : List He.Dv} (F : FunD T.K x qual params body scope (l.map (He.Dv.v T.K)) [] f fd) (hl : l.all dvOk = true) (hd : l ≠ [])
    (h : ∀ (T : Addr) (kV doc pm : Value) (an : Option Addr) (cdv ct : Value) (us its ws : List Value), us.length = n → its.length = l.length → ws.length = ks.length →
      ∃ k, bindArgs (PySem.W.fnOf x qual params body scope (.ref T) kV doc pm an cdv ct) ⟨us, ks.zip ws⟩ = seqItems? (.ref T) >>= k ∧ k (some its.toArray) = pure (ps.zip (pick pk us its ws))) : KBD T fd ps n ks pk (l.map dvD) := by
  obtain ⟨its, hb⟩ := F.kbindsD (ps := ps) n ks (fun us its ws => pick pk us its ws) (by simpa using hd) (fun r1 r2 r3 => vals_pick pk r1 r2 r3) (fun T kV doc pm an cdv ct us its ws h1 h2 h3 => h T kV doc pm an cdv ct us its ws h1 (by simpa using h2) h3)
  exact ⟨its, _, hb, fun w => reps_dfl hl⟩
def IK (T : Tb) (E : XK) (X : Cx) (kws : List Keyword) (fa : AX) : Prop := PK X kws (tIa T E fa)
theorem PK.mono {X : Cx} {es : List Keyword} {t t' : TA} (h : PK X es t) (k : ∀ σ H Q, t' σ H Q → t σ H Q) : PK X es t' := ⟨fun pos pins s σ H Q I q => h.run pos pins s σ H Q I (k _ _ _ q)⟩
theorem ik_nil : IK T E X [] aNil := PK.mono pk_nil fun σ H Q ⟨w, env, S, r, e, q⟩ => q w H [] (Wd.le.refl _) r .nil
theorem ik_cons {kws : List Keyword} {nm : Option Str} {kpos : Pos} (ha : IE T E X a f) (hr : IK T E X kws fa) : IK T E X (⟨nm, a, kpos⟩ :: kws) (aCons f fa) :=
  PK.mono (pk_cons ha hr) fun σ H Q ⟨w, env, S, r, e, q⟩ => ⟨w, env, S, r, e, (RP.bnd q).mono (fun d S1 h1 w1 H1 x l1 r1 p1 => ⟨w1, env, S1, r1, e.mono l1, (RP.bnd h1).mono (fun ds S2 h2 w2 H2 xs l2 r2 p2 => h2 w2 H2 _ (l1.trans l2) r2 (.cons (p1.mono l2) p2)) fun _ _ _ x => x.le l1⟩) fun _ _ _ x => x⟩
abbrev Pk (T : Tb) (w : Wd) (Q : VK) : D → Store → Prop := fun d S' => ∀ w' H' v, w.le w' → WR T w' S' H' → Rep T w' d v → Q v H'
def AK (T : Tb) (E : XK) (X : Cx) (es : List Expr) (kws : List Keyword) (pos : Pos) (ks : List Str) (fa fk : AX) : Prop :=
  ∀ (pins : List (Addr × Obj)) (s : Shared) (σ : St) (H : Hp) (w : Wd) (env : Env) (S : Store) (m : List D → List D → Store → R D) (Q : VK) (fv : Value) (first : List Value) (Qf : Value → Shared → Prop),
    Inv X pins σ H s → WR T w S H → ER T w env σ → PySem.W.keepIn X.K fv = true → RP ((fa env S).bnd fun xs S1 => (fk env S1).bnd fun zs S2 => m xs zs S2) (Pk T w Q) (XW T w E) →
    (∀ s2 H2 us ws vs zs w2 xs ys S2, Inv X pins σ H2 s2 → w.le w2 → WR T w2 S2 H2 → Vals vs us → Vals zs ws → Reps T w2 xs vs → Reps T w2 ys zs → RP (m xs ys S2) (Pk T w2 Q) (XW T w2 E) → wpAny (model X.prog X.w) X.A (call fv (first ++ us) (ks.zip ws)) Qf X.xe s2) →
    wpAny (model X.prog X.w) X.A (callWith pos fv first (backTo pos (starEach es X.env)) (backToKw pos (keywordEach kws X.env))) Qf X.xe s
theorem ak_cons {kws : List Keyword} {ks : List Str} (ha : IA T E X (a :: es) fa) (hkw : IK T E X kws fk) (hall : (backToKw pos (keywordEach kws X.env)).all (·.1.isSome) = true := by rfl) (hks : (backToKw pos (keywordEach kws X.env)).filterMap (·.1) = ks := by rfl)
    (he : starEach (a :: es) X.env = (false, eval a X.env) :: starEach es X.env := by rfl) (hpl : ((backTo pos (starEach (a :: es) X.env)).any (·.1) || (backToKw pos (keywordEach kws X.env)).any (·.1.isNone)) = false := by rfl) : AK T E X (a :: es) kws pos ks fa fk := by
  intro pins s σ H w env S m Q fv first Qf I r e hk q k
  refine PySem.W.callWith_KW (h₀ := X.base) I.ok.mod.kin hk hall (thn (ha.run pos pins s σ H (fun vs2 H2 => ∃ w1 xs S1, w.le w1 ∧ WR T w1 S1 H2 ∧ Reps T w1 xs vs2 ∧ RP ((fk env S1).bnd fun zs S2 => m xs zs S2) (Pk T w Q) (XW T w E)) I ⟨w, env, S, r, e, (RP.bnd q).mono (fun xs S1 h1 w1 H1 vs l1 r1 p1 => ⟨w1, xs, S1, l1, r1, p1, h1⟩) fun _ _ _ x => x⟩) fun us s1 ⟨vs, H1, I1, rv, q1⟩ => ?_) hpl he
  · obtain ⟨w1, xs, S1, l1, r1, p1, h1⟩ := q1
    refine thn (hkw.run pos pins s1 σ H1 (fun zs H2 => ∃ w2 ys S2, w1.le w2 ∧ WR T w2 S2 H2 ∧ Reps T w2 ys zs ∧ RP (m xs ys S2) (Pk T w Q) (XW T w E)) I1 ⟨w1, env, S1, r1, e.mono l1, (RP.bnd h1).mono (fun ys S2 h2 w2 H2 zs l2 r2 p2 => ⟨w2, ys, S2, l2, r2, p2, h2⟩) fun _ _ _ x => x.le l1⟩) fun ws s2 ⟨zs, H2, I2, rz, w2, ys, S2, l2, r2, p2, h2⟩ => ⟨I2.kIn, ?_⟩
    rw [hks]
    exact k s2 H2 us ws vs zs w2 xs ys S2 I2 (l1.trans l2) r2 rv rz (p1.mono l2) p2 (RP.mono h2 (fun d S' q w' H' v l => q w' H' v ((l1.trans l2).trans l)) fun _ _ _ x => x.le (l1.trans l2))
theorem ak_nil {kws : List Keyword} {ks : List Str} (hkw : IK T E X kws fk) (hall : (backToKw pos (keywordEach kws X.env)).all (·.1.isSome) = true := by rfl) (hks : (backToKw pos (keywordEach kws X.env)).filterMap (·.1) = ks := by rfl)
    (hpl : ((backTo pos (starEach [] X.env)).any (·.1) || (backToKw pos (keywordEach kws X.env)).any (·.1.isNone)) = false := by rfl) : AK T E X [] kws pos ks aNil fk := by
  intro pins s σ H w env S m Q fv first Qf I r e hk q k
  refine PySem.W.callWith_KW0 (h₀ := X.base) I.ok.mod.kin hk hall (thn (hkw.run pos pins s σ H (fun zs H2 => ∃ w2 ys S2, w.le w2 ∧ WR T w2 S2 H2 ∧ Reps T w2 ys zs ∧ RP (m [] ys S2) (Pk T w Q) (XW T w E)) I ⟨w, env, S, r, e, (RP.bnd (show RP ((fk env S).bnd fun ys S2 => m [] ys S2) (Pk T w Q) (XW T w E) from q)).mono (fun ys S2 h2 w2 H2 zs l2 r2 p2 => ⟨w2, ys, S2, l2, r2, p2, h2⟩) fun _ _ _ x => x⟩) fun ws s2 ⟨zs, H2, I2, rz, w2, ys, S2, l2, r2, p2, h2⟩ => ⟨I2.kIn, ?_⟩) hpl
  rw [hks]
  exact k s2 H2 [] ws [] zs w2 [] ys S2 I2 l2 r2 .nil rz .nil p2 (RP.mono h2 (fun d S' q w' H' v l => q w' H' v (l2.trans l)) fun _ _ _ x => x.le l2)
theorem fn_core {k n : Nat} {fd : FuncData} {fp : Addr} {ps ks : List Str} {m : Fn} {pk : List (Nat × Nat)} {dfs : List D} (F : FnG X.prog X.w T.K X.mg X.base k fp fd ps (spI T ps.length m)) (hK : X.K = T.K) (hr : RG k X.A) (hb : KBD T fd ps n ks pk dfs) (tk : Takes X fun c d _ H => E c d H)
    {pins : List (Addr × Obj)} {s : Shared} {σ : St} {H : Hp} {w : Wd} {S : Store} {us ws : List Value} {vs zs : List V} {xs ys : List D} {Q : VK} (I : Inv X pins σ H s) (r : WR T w S H) (rv : Vals vs us) (rz : Vals zs ws) (px : Reps T w xs vs) (py : Reps T w ys zs)
    (l1 : xs.length = n) (l2 : ys.length = ks.length) (l3 : (pick pk xs dfs ys).length = ps.length) (q : RP (m (pick pk xs dfs ys) S) (Pk T w Q) (XW T w E)) : wpAny (model X.prog X.w) X.A (call (.ref fp) us (ks.zip ws)) (EP X pins σ Q) X.xe s := by
  obtain ⟨its, dvs, kb, rd⟩ := hb.ex
  have F' : FnG X.prog X.w X.K X.mg X.base k fp fd ps (spI T ps.length m) := by rw [hK]; exact F
  have kb' : KBn X.K fd ps n ks (fun us ws => pick pk us its ws) (fun vs zs => pick pk vs dvs zs) := by rw [hK]; exact kb
  have pp := reps_pick pk px (rd w) py
  exact FnG.callBy F' hr kb' (passes_call tk fun _ _ _ _ h => h) I rv rz (by rw [← px.length]; exact l1) (by rw [← py.length]; exact l2) ⟨by rw [← pp.length]; exact l3, w, _, S, r, pp, q⟩
/-- how many, and put -/
def callM (m : Fn) (n kn pn : Nat) (pk : List (Nat × Nat)) (dfs : List D) : List D → List D → Store → R D := fun xs ys S => if xs.length = n ∧ ys.length = kn ∧ (pick pk xs dfs ys).length = pn then m (pick pk xs dfs ys) S else .bad
def eFn (m : List D → List D → Store → R D) (fa fk : AX) : EX := fun env S => (fa env S).bnd fun xs S1 => (fk env S1).bnd fun zs S2 => m xs zs S2
theorem callM_ok {m : Fn} {n kn pn : Nat} {pk : List (Nat × Nat)} {dfs xs ys : List D} {S : Store} {Pk : D → Store → Prop} {Pe : String → List D → Store → Prop} (h : RP (callM m n kn pn pk dfs xs ys S) Pk Pe) :
    xs.length = n ∧ ys.length = kn ∧ (pick pk xs dfs ys).length = pn ∧ RP (m (pick pk xs dfs ys) S) Pk Pe := by
  unfold callM at h
  by_cases c : xs.length = n ∧ ys.length = kn ∧ (pick pk xs dfs ys).length = pn
  · rw [if_pos c] at h
    exact ⟨c.1, c.2.1, c.2.2, h⟩
  · rw [if_neg c] at h
    exact (show False from h).elim
/-- f(.., k = ..) -/
theorem ie_fn {k n : Nat} {d : He.DefD} {x : Str} {p : Pos} {kws : List Keyword} {ps ks : List Str} {m : Fn} {pk : List (Nat × Nat)} {dfs : List D} (F : OkF T X.prog X.w X.mg X.base k d ps m) (hK : X.K = T.K) (hr : RG k X.A) (hg : Gl X x) (hm : X.mg x = some (.ref (He.fAd T.K d.at_)))
    (hb : ∀ fd, FunD T.K d.name d.qual d.params d.body d.scope (d.dvs T.K) [] (He.fAd T.K d.at_) fd → KBD T fd ps n ks pk dfs) (tk : Takes X fun c d _ H => E c d H) (ha : AK T E X es kws pos ks fa fk) (hdb : (x == ("__debug__" : Str)) = false := by decide +kernel) :
    IE T E X (.Call (.Name x p) es kws pos) (eFn (callM m n ks.length ps.length pk dfs) fa fk) := by
  obtain ⟨fd, FD, FO⟩ := F.ex
  refine ⟨fun pins s σ H Q I h => ?_⟩
  obtain ⟨w, env, S, r, e, q⟩ := h
  refine wpAny_Call_Name_kw (ld_glob I hg hm ?_ hdb)
  refine ha pins s σ H w env S _ Q _ [] _ I r e (by rw [hK]; exact FD.kp) q fun s2 H2 us ws vs zs w2 xs ys S2 I2 l2 r2 rv rz px py q2 => ?_
  obtain ⟨c1, c2, c3, q3⟩ := callM_ok q2
  exact fn_core FO hK hr (hb fd FD) tk I2 r2 rv rz px py c1 c2 c3 q3
end Ro
end
section
set_option Elab.async false
set_option linter.all false
set_option maxRecDepth 100000
set_option maxHeartbeats 4000000
namespace Ro
open PySem PySem.Spec PyProof.Rows L2
variable {T : Tb} {E : XK} {X : Cx} {a b c : Expr} {es : List Expr} {f g h : EX} {fa ga fk : AX} {fb gb : BX} {pos : Pos} {st : Stmt} {sts rest : List Stmt} {s t : ES}
theorem lookup_rep {w : Wd} {f : String} {d : D} : ∀ {fs : List (String × D)} {gs : List (Str × V)}, gs.map (·.1) = fs.map (fun p => Str.ofString p.1) → Reps T w (fs.map (·.2)) (gs.map (·.2)) → fs.lookup f = some d → ∃ v, gs.lookup (Str.ofString f) = some v ∧ Rep T w d v
  | [], _, _, _, h => by cases h
  | (k, e) :: fs, [], h1, _, _ => by cases h1
  | (k, e) :: fs, (k2, v) :: gs, h1, h2, h3 => by
    have h1' : k2 :: gs.map (·.1) = Str.ofString k :: fs.map (fun p => Str.ofString p.1) := h1
    injection h1' with e1 e2
    have h2' : Reps T w (e :: fs.map (·.2)) (v :: gs.map (·.2)) := h2
    cases h2' with
    | cons r1 r2 =>
      rw [List.lookup_cons] at h3 ⊢
      by_cases hk : f = k
      · subst hk
        rw [beq_self_eq_true] at h3
        have e3 : e = d := Option.some.inj h3
        subst e3
        rw [e1, beq_self_eq_true]
        exact ⟨v, rfl, r1⟩
      · rw [beq_eq_false_iff_ne.mpr hk] at h3
        have hk2 : Str.ofString f ≠ k2 := fun z => hk (ofString_inj.mp (z.trans e1))
        rw [beq_eq_false_iff_ne.mpr hk2]
        exact lookup_rep e2 r2 h3
theorem put_rep {w : Wd} {f : String} {d : D} {v : V} (q : Rep T w d v) : ∀ {fs : List (String × D)} {gs : List (Str × V)}, gs.map (·.1) = fs.map (fun p => Str.ofString p.1) → Reps T w (fs.map (·.2)) (gs.map (·.2)) →
    (putF (Str.ofString f) v gs).map (·.1) = (setF f d fs).map (fun p => Str.ofString p.1) ∧ Reps T w ((setF f d fs).map (·.2)) ((putF (Str.ofString f) v gs).map (·.2))
  | [], [], _, _ => ⟨rfl, .cons q .nil⟩
  | [], _ :: _, h, _ => by cases h
  | (k, e) :: fs, [], h1, _ => by cases h1
  | (k, e) :: fs, (k2, u) :: gs, h1, h2 => by
    have h1' : k2 :: gs.map (·.1) = Str.ofString k :: fs.map (fun p => Str.ofString p.1) := h1
    injection h1' with e1 e2
    have h2' : Reps T w (e :: fs.map (·.2)) (u :: gs.map (·.2)) := h2
    cases h2' with
    | cons r1 r2 =>
      show (if k2 = Str.ofString f then (k2, v) :: gs else (k2, u) :: putF (Str.ofString f) v gs).map (·.1) = (if k = f then (f, d) :: fs else (k, e) :: setF f d fs).map (fun p => Str.ofString p.1) ∧ Reps T w ((if k = f then (f, d) :: fs else (k, e) :: setF f d fs).map (·.2)) ((if k2 = Str.ofString f then (k2, v) :: gs else (k2, u) :: putF (Str.ofString f) v gs).map (·.2))
      by_cases hk : k = f
      · subst hk
        rw [if_pos e1, if_pos rfl]
        exact ⟨by rw [List.map_cons, List.map_cons, e2, e1], .cons q r2⟩
      · rw [if_neg hk, if_neg (fun z => hk (ofString_inj.mp (e1.symm.trans z)))]
        obtain ⟨h3, h4⟩ := put_rep q e2 r2
        exact ⟨by rw [List.map_cons, List.map_cons, e1, h3], .cons r1 h4⟩
theorem zip_fst : ∀ {ns : List String} {ds : List D}, ns.length = ds.length → (ns.zip ds).map (fun p => Str.ofString p.1) = ns.map Str.ofString ∧ (ns.zip ds).map (·.2) = ds
  | [], [], _ => ⟨rfl, rfl⟩
  | [], _ :: _, h => by cases h
  | _ :: _, [], h => by cases h
  | n :: ns, d :: ds, h => by
    obtain ⟨h1, h2⟩ := zip_fst (ns := ns) (ds := ds) (Nat.succ.inj h)
    exact ⟨by rw [List.zip_cons_cons, List.map_cons, List.map_cons, h1], by rw [List.zip_cons_cons, List.map_cons, h2]⟩
/-- a thing with fields, as it lies -/
theorem inst_of {w : Wd} {S : Store} {H : Hp} {x : V} {cf : String → List String} (hcf : T.cf = cf) (r : WR T w S H) {d : D} (p : Rep T w d x) :
    (∀ c ds, d = .obj c ds → ∃ a dx gs, x = .ref a ∧ H a = some (.ins (He.ga T.K (c : Str)) dx gs) ∧ gs.map (·.1) = ((cf c).zip ds).map (fun p => Str.ofString p.1) ∧ Reps T w (((cf c).zip ds).map (·.2)) (gs.map (·.2))) ∧
    (∀ n c fs, d = .ref n → S[n]? = some (.ins c fs) → ∃ a dx gs, x = .ref a ∧ w.am[n]? = some a ∧ H a = some (.ins (He.ga T.K (c : Str)) dx gs) ∧ gs.map (·.1) = fs.map (fun p => Str.ofString p.1) ∧ Reps T w (fs.map (·.2)) (gs.map (·.2))) := by
  constructor
  · rintro c ds rfl
    cases p with
    | obj h n q =>
      rename_i a dx fs
      have hl : (cf c).length = ds.length := by
        rw [hcf] at n
        have e := congrArg List.length n
        rw [List.length_map, List.length_map] at e
        rw [q.length, List.length_map]
        exact e.symm
      obtain ⟨z1, z2⟩ := zip_fst hl
      exact ⟨a, dx, fs, rfl, r.sub _ _ h, by rw [z1, n, hcf], by rw [z2]; exact q⟩
  · rintro n c fs rfl hS
    cases p with
    | ref h =>
      obtain ⟨dx, gs, h1, h2, h3⟩ := r.cell n _ _ hS h
      exact ⟨_, dx, gs, rfl, h, h1, h2, h3⟩
theorem ie_attr {cf : String → List String} {cs : List String} {fn : String} (hcf : T.cf = cf) (hK : X.K = T.K) (hc : ∀ c ∈ cs, Cls T.K (He.ga T.K (c : Str)) ∧ NoAttr T.K (He.ga T.K (c : Str)) (fn : Str)) (ha : IE T E X a f) (hb : attributeBase a (fn : Str) X.env (eval a X.env) = eval a X.env := by rfl) :
    IE T E X (.Attribute a (fn : Str) pos) (eAttr cf cs fn f) :=
  PE.mono (pe_fld ha hb) fun σ H Q ⟨w, env, S, r, e, q⟩ => ⟨w, env, S, r, e, (RP.bnd q).mono (fun d S1 h1 w1 H1 x l1 r1 p1 => by
    cases z : attrD cf cs fn d S1 with
    | none => rw [z] at h1; exact (show False from h1).elim
    | some y =>
      rw [z] at h1
      obtain ⟨i1, i2⟩ := inst_of hcf r1 p1
      unfold attrD at z
      split at z
      · rename_i c ds
        by_cases hcs : cs.contains c = true
        · rw [if_pos hcs] at z
          obtain ⟨p, dx, gs, rfl, h3, h4, h5⟩ := i1 c ds rfl
          obtain ⟨v, h6, h7⟩ := lookup_rep h4 h5 z
          obtain ⟨c1, c2⟩ := hc c (by simpa using hcs)
          rw [hK]
          exact ⟨p, _, dx, gs, v, rfl, h3, c1, c2, h6, h1 w1 H1 v l1 r1 h7⟩
        · rw [if_neg hcs] at z; cases z
      · rename_i n
        split at z
        · rename_i c fs hS
          by_cases hcs : cs.contains c = true
          · rw [if_pos hcs] at z
            obtain ⟨p, dx, gs, rfl, _, h3, h4, h5⟩ := i2 n c fs rfl hS
            obtain ⟨v, h6, h7⟩ := lookup_rep h4 h5 z
            obtain ⟨c1, c2⟩ := hc c (by simpa using hcs)
            rw [hK]
            exact ⟨p, _, dx, gs, v, rfl, h3, c1, c2, h6, h1 w1 H1 v l1 r1 h7⟩
          · rw [if_neg hcs] at z; cases z
        · cases z
      · cases z) fun _ _ _ x => x⟩
theorem is_setattr {cs : List String} {fn : String} {pos' : Pos} (hK : X.K = T.K) (hc : ∀ c ∈ cs, Cls T.K (He.ga T.K (c : Str)) ∧ NoAttr T.K (He.ga T.K (c : Str)) (fn : Str)) (ho : IE T E X a f) (hv : IE T E X b g) (hs : swapsWith b (some (.Attribute a (fn : Str) pos')) pos.line X.env = pure false := by rfl) :
    IS T E X (.Assign [.Attribute a (fn : Str) pos'] b pos) (sSetAttr cs fn f g) :=
  PS.mono (ps_fld ho hv hs) fun D σ H ⟨w, env, S, r, e, q⟩ => ⟨w, env, S, r, e, (RP.bnd q).mono (fun y S1 h1 w1 H1 yv l1 r1 p1 => ⟨w1, env, S1, r1, e.mono l1, (RP.bnd h1).mono (fun x S2 h2 w2 H2 xv l2 r2 p2 => by
    split at h2
    · rename_i n
      split at h2
      · rename_i c fs hS
        by_cases hcs : (cs.contains c && decide (fs.length < 1000)) = true
        · rw [if_pos hcs] at h2
          obtain ⟨k1, k2⟩ := Bool.and_eq_true_iff.mp hcs
          obtain ⟨p, dx, gs, rfl, hn, h3, h4, h5⟩ := (inst_of rfl r2 p2).2 n c fs rfl hS
          obtain ⟨c1, c2⟩ := hc c (by simpa using k1)
          have hlen : gs.length < 1000 := by
            have e1 := congrArg List.length h4
            rw [List.length_map, List.length_map] at e1
            rw [e1]
            exact of_decide_eq_true k2
          obtain ⟨h6, h7⟩ := put_rep (T := T) (w := w2) (f := fn) (p1.mono l2) h4 h5
          have r3 := r2.write hS hn (by intro z; cases z) (o' := .ins (He.ga T.K (c : Str)) dx (putF (Str.ofString fn) yv gs)) (c' := .ins c (setF fn y fs)) ⟨dx, _, upd_same, h6, h7⟩
          rw [hK]
          exact ⟨p, _, dx, gs, rfl, h3, c1, c2, hlen, h2 w2 _ σ (l1.trans l2) r3 (e.mono (l1.trans l2))⟩
        · rw [if_neg hcs] at h2; exact (show False from h2).elim
      · exact (show False from h2).elim
    · exact (show False from h2).elim) fun _ _ _ x => x.le l1⟩) fun _ _ _ x => x⟩
end Ro
end
section
set_option Elab.async false
set_option linter.all false
set_option maxRecDepth 100000
set_option maxHeartbeats 4000000
namespace Ro
open PySem PySem.Spec PyProof.Rows L2
variable {T : Tb} {E : XK} {X : Cx} {a b c : Expr} {es : List Expr} {f g h : EX} {fa ga fk : AX} {fb gb : BX} {pos : Pos} {st : Stmt} {sts rest : List Stmt} {s t : ES}
theorem orOp2 {fn : Value → Value → Sem Value} {op : D → D → Option D} (h : ∀ w d e r S x y H Q, WR T w S H → Rep T w d x → Rep T w e y → op d e = some r → (∀ w' H' z, w.le w' → WR T w' S H' → Rep T w' r z → Q z H') → ∃ r, OpR X fn r ∧ r x y H Q) : OpR X fn (rOp T op) := fun pins s σ H x y v u Q I rx ry q => by
  obtain ⟨w, d, e, r, S, h1, h2, h3, h4, h5⟩ := q
  obtain ⟨r', ho, q'⟩ := h w d e r S x y H Q h1 h2 h3 h4 h5
  exact ho pins s σ H x y v u Q I rx ry q'
theorem oi_add (hK : X.K = T.K) : OpR X (binaryOp .Add) (rOp T addD) := orOp2 fun w d e r S x y H Q h1 h2 h3 h4 h5 => by
  unfold addD at h4
  split at h4
  · cases h2; cases h3; cases h4
    exact ⟨_, op_add, _, _, rfl, rfl, h5 w H _ (Wd.le.refl _) h1 (.int _)⟩
  · cases h2; cases h3
    split at h4
    · rename_i hl
      cases h4
      exact ⟨_, op_add_str, _, _, rfl, rfl, by rw [sizeLine_eq]; exact hl, h5 w H _ (Wd.le.refl _) h1 (.str _)⟩
    · cases h4
  · rename_i l m
    cases h2 with
    | tup q2 r2 =>
    cases h3 with
    | tup q3 r3 =>
    split at h4
    · rename_i hl
      cases h4
      refine ⟨_, op_catA, _, _, _, _, rfl, rfl, by rw [hK]; exact sqt_sub h1 q2, by rw [hK]; exact sqt_sub h1 q3, by rw [sizeLine_eq, ← r2.length, ← r3.length]; exact hl, fun e => ?_, fun e1 e2 => ?_, fun e1 e2 p hp => ?_⟩
      · subst e
        cases r2
        exact h5 w H _ (Wd.le.refl _) h1 (.tup q3 r3)
      · subst e2
        cases r3
        rw [List.append_nil] at h5
        exact h5 w H _ (Wd.le.refl _) h1 (.tup q2 r2)
      · obtain ⟨l1, r1⟩ := h1.new hp (.tup _)
        exact h5 _ _ _ l1 r1 (.tup (.inl (.inl upd_same)) ((r2.append r3).mono l1))
    · cases h4
  · rename_i l m
    cases h2 with
    | lst q2 r2 =>
    cases h3 with
    | lst q3 r3 =>
    split at h4
    · rename_i hl
      cases h4
      refine ⟨_, op_cat, _, _, _, _, rfl, rfl, h1.sub _ _ q2, h1.sub _ _ q3, by rw [sizeLine_eq, ← r2.length, ← r3.length]; exact hl, fun p hp => ?_⟩
      obtain ⟨l1, r1⟩ := h1.new hp (.lst _)
      exact h5 _ _ _ l1 r1 (.lst upd_same ((r2.append r3).mono l1))
    · cases h4
  · cases h4
theorem oi_sub : OpR X (binaryOp .Sub) (rOp T subD) := orOp2 fun w d e r S x y H Q h1 h2 h3 h4 h5 => by
  unfold subD at h4
  split at h4
  · cases h2; cases h3; cases h4
    exact ⟨_, op_sub, _, _, rfl, rfl, h5 w H _ (Wd.le.refl _) h1 (.int _)⟩
  · cases h4
theorem oi_mul : OpR X (binaryOp .Mult) (rOp T mulD) := orOp2 fun w d e r S x y H Q h1 h2 h3 h4 h5 => by
  unfold mulD at h4
  split at h4
  · cases h2; cases h3
    split at h4
    · rename_i hl
      cases h4
      exact ⟨_, op_mulW, _, _, rfl, rfl, (by unfold CMulW; simpa [mulOk] using hl), h5 w H _ (Wd.le.refl _) h1 (.int _)⟩
    · cases h4
  · cases h4
theorem oi_fdiv : OpR X (binaryOp .FloorDiv) (rOp T fdivD) := orOp2 fun w d e r S x y H Q h1 h2 h3 h4 h5 => by
  unfold fdivD at h4
  split at h4
  · cases h2; cases h3
    split at h4
    · rename_i hl
      cases h4
      exact ⟨_, op_fdivW, _, _, rfl, rfl, hl, h5 w H _ (Wd.le.refl _) h1 (.int _)⟩
    · cases h4
  · cases h4
theorem oi_mod : OpR X (binaryOp .Mod) (rOp T modD) := orOp2 fun w d e r S x y H Q h1 h2 h3 h4 h5 => by
  unfold modD at h4
  split at h4
  · cases h2; cases h3
    split at h4
    · rename_i hl
      cases h4
      exact ⟨_, op_mod, _, _, rfl, rfl, hl, h5 w H _ (Wd.le.refl _) h1 (.int _)⟩
    · cases h4
  · cases h4
theorem oi_pow : OpR X (binaryOp .Pow) (rOp T powD) := orOp2 fun w d e r S x y H Q h1 h2 h3 h4 h5 => by
  unfold powD at h4
  split at h4
  · cases h2; cases h3
    split at h4
    · rename_i hl
      cases h4
      exact ⟨_, op_pow, _, _, rfl, rfl, hl, h5 w H _ (Wd.le.refl _) h1 (.int _)⟩
    · cases h4
  · cases h4
theorem oi_le : OpR X (compareOp .LtE) (rOp T leD) := orOp2 fun w d e r S x y H Q h1 h2 h3 h4 h5 => by
  unfold leD at h4
  split at h4
  · cases h2; cases h3; cases h4
    exact ⟨_, op_le, _, _, rfl, rfl, h5 w H _ (Wd.le.refl _) h1 (.bl _)⟩
  · cases h4
theorem oi_gt : OpR X (compareOp .Gt) (rOp T gtD) := orOp2 fun w d e r S x y H Q h1 h2 h3 h4 h5 => by
  unfold gtD at h4
  split at h4
  · cases h2; cases h3; cases h4
    exact ⟨_, op_gt, _, _, rfl, rfl, h5 w H _ (Wd.le.refl _) h1 (.bl _)⟩
  · cases h4
theorem rep_non {w : Wd} {d : D} {x : V} (p : Rep T w d x) : decide (x = .non) = isNonD d := by
  cases p <;> first | rfl | exact decide_eq_false (fun z => by cases z)
theorem oi_is : OpR X (compareOp .Is) (rOp T isND) := orOp2 fun w d e r S x y H Q h1 h2 h3 h4 h5 => by
  unfold isND at h4
  split at h4
  · rename_i hn
    cases h4
    have he : y = .non := of_decide_eq_true ((rep_non h3).trans hn)
    refine ⟨_, op_isN, he, ?_⟩
    rw [rep_non h2]
    exact h5 w H _ (Wd.le.refl _) h1 (.bl _)
  · cases h4
theorem oi_isnot : OpR X (compareOp .IsNot) (rOp T notND) := orOp2 fun w d e r S x y H Q h1 h2 h3 h4 h5 => by
  unfold notND at h4
  split at h4
  · rename_i hn
    cases h4
    have he : y = .non := of_decide_eq_true ((rep_non h3).trans hn)
    refine ⟨_, op_notN, he, ?_⟩
    rw [rep_non h2]
    exact h5 w H _ (Wd.le.refl _) h1 (.bl _)
  · cases h4
theorem ie_neg (h : IE T E X a f) : IE T E X (.UnaryOp .USub a pos) (eUn negD f) :=
  PE.mono (pe_un un_neg h) fun σ H Q ⟨w, env, S, r, e, q⟩ => ⟨w, env, S, r, e, (RP.bnd q).mono (fun d S1 h1 w1 H1 x l1 r1 p1 => by
    cases p1 with
    | int i => exact ⟨i, rfl, h1 w1 H1 _ l1 r1 (.int _)⟩
    | _ => exact (show False from h1).elim) fun _ _ _ x => x⟩
theorem reps_atP {w : Wd} {l : List D} {vs : List V} {i : Int} {d : D} (r : Reps T w l vs) (h : atP l i = some d) : ∃ v, atI vs i = some v ∧ Rep T w d v := by
  unfold atP at h
  cases z : pyIx l.length i with
  | none => rw [z] at h; cases h
  | some j =>
    rw [z] at h
    obtain ⟨v, h1, h2⟩ := r.get (show l[j]? = some d from h)
    refine ⟨v, ?_, h2⟩
    unfold atI
    rw [show ixN vs.length i = some j from by rw [← r.length]; exact z]
    exact h1
theorem ie_idx (hK : X.K = T.K) (ha : IE T E X a f) (hb : IE T E X b g) (hs : PlainIx b := by exact fun _ _ => rfl) : IE T E X (.Subscript a b pos) (eIdx f g) :=
  PE.mono (pe_ix ix_seq ha hb hs) fun σ H Q q => by
    have q2 := tI_two (k := fun x y S => lift (idxD x y) S) q
    obtain ⟨w, env, S, r, e, h⟩ := q2
    refine ⟨w, env, S, r, e, h.mono (fun d S1 h1 w1 H1 x l1 r1 p1 => ?_) fun _ _ _ x => x⟩
    obtain ⟨w2, env2, S2, r2, e2, h2⟩ := h1 w1 H1 x l1 r1 p1
    refine ⟨w2, env2, S2, r2, e2, h2.mono (fun d S1 h1 w1 H1 x l1 r1 p1 => ?_) fun _ _ _ x => x⟩
    obtain ⟨w3, d3, e3, S3, r3, p3, q3, h3⟩ := h1 w1 H1 x l1 r1 p1
    obtain ⟨w3, d3, e3, rr, S3, r3, p3, q3, hh, h3⟩ := rOp_of r3 p3 q3 h3
    unfold idxD at hh
    rw [hK]
    split at hh
    · cases q3
      cases p3 with
      | tup qq rq =>
        obtain ⟨v, a1, a2⟩ := reps_atP rq hh
        exact .inr (.inl ⟨_, _, _, v, rfl, rfl, sqt_sub r3 qq, a1, h3 w3 _ _ (Wd.le.refl _) r3 a2⟩)
    · cases q3
      cases p3 with
      | lst qq rq =>
        obtain ⟨v, a1, a2⟩ := reps_atP rq hh
        exact .inl ⟨_, _, _, v, rfl, rfl, .inl (.inl (r3.sub _ _ qq)), a1, h3 w3 _ _ (Wd.le.refl _) r3 a2⟩
    · rename_i l i
      cases q3
      cases p3 with
      | scr qq =>
        cases z : atP l i with
        | none => rw [z] at hh; cases hh
        | some k =>
          rw [z] at hh
          cases hh
          refine .inl ⟨_, _, _, .int k, rfl, rfl, sql_sub r3 qq, ?_, h3 w3 _ _ (Wd.le.refl _) r3 (.int _)⟩
          unfold atP at z
          unfold atI
          rw [List.length_map]
          cases z2 : pyIx l.length i with
          | none => rw [z2] at z; cases z
          | some j =>
            rw [z2] at z
            rw [show ixN l.length i = some j from z2]
            show (l.map V.int)[j]? = _
            rw [List.getElem?_map, show l[j]? = some k from z]
            rfl
    · rename_i s i
      cases q3
      cases p3
      split at hh
      · rename_i hl
        cases z : atP s.cps.toList i with
        | none => rw [z] at hh; cases hh
        | some c =>
          rw [z] at hh
          cases hh
          exact .inr (.inr ⟨s, i, c, rfl, rfl, by rw [sizeLine_eq]; exact hl, z, h3 w3 _ _ (Wd.le.refl _) r3 (.str _)⟩)
      · cases hh
    · cases hh
theorem ie_idxM (hK : X.K = T.K) (ha : IE T E X a f) (hb : IE T E X b g) (hs : PlainIx b := by exact fun _ _ => rfl) : IE T E X (.Subscript a b pos) (eIdxM f g) :=
  PE.mono (pe_ix ix_list ha hb hs) fun σ H Q q => by
    have q2 := tI_two (k := fun x y S => lift (idxM x y S) S) q
    obtain ⟨w, env, S, r, e, h⟩ := q2
    refine ⟨w, env, S, r, e, h.mono (fun d S1 h1 w1 H1 x l1 r1 p1 => ?_) fun _ _ _ x => x⟩
    obtain ⟨w2, env2, S2, r2, e2, h2⟩ := h1 w1 H1 x l1 r1 p1
    refine ⟨w2, env2, S2, r2, e2, h2.mono (fun d S1 h1 w1 H1 x l1 r1 p1 => ?_) fun _ _ _ x => x⟩
    obtain ⟨w3, d3, e3, S3, r3, p3, q3, h3⟩ := h1 w1 H1 x l1 r1 p1
    cases z : idxM d3 e3 S3 with
    | none => rw [z] at h3; exact (show False from h3).elim
    | some y =>
      rw [z] at h3
      unfold idxM at z
      split at z
      · rename_i n i
        split at z
        · rename_i l hS
          cases q3
          cases p3 with
          | ref hn =>
            obtain ⟨vs, c1, c2⟩ := r3.cell n _ _ hS hn
            obtain ⟨v, a1, a2⟩ := reps_atP c2 z
            exact ⟨_, _, _, v, rfl, rfl, .inl (.inl c1), a1, h3 w3 _ _ (Wd.le.refl _) r3 a2⟩
        · cases z
      · cases z
theorem is_setit {pos' : Pos} (hv : IE T E X c h) (ho : IE T E X a f) (hi : IE T E X b g) (hs : swapsWithSole [.Subscript a b pos'] c pos.line X.env = pure false := by rfl) (hw : swappedStores [.Subscript a b pos'] c X.env = pure none := by rfl)
    (h1 : (assignEach [.Subscript a b pos'] X.env).map (·.2) = [assign (.Subscript a b pos') X.env] := by rfl)
    (hasg : ∀ v, assign (.Subscript a b pos') X.env v = (do
      let ov ← holding [v] (eval a X.env)
      let iv ← holding [v, ov] (eval b X.env)
      standAt pos'
      holding [v, ov, iv] (setItem ov iv v)
      release [v, ov, iv] []) := by intro _; rfl) : IS T E X (.Assign [.Subscript a b pos'] c pos) (sSetIt f g h) :=
  PS.mono (ps_asg hv (pg_sub ho hi set_list hasg) hs hw h1) fun D σ H ⟨w, env, S, r, e, q⟩ => ⟨w, env, S, r, e, (RP.bnd q).mono (fun z S1 h1 w1 H1 zv l1 r1 p1 => ⟨w1, env, S1, r1, e.mono l1, (RP.bnd h1).mono (fun x S2 h2 w2 H2 xv l2 r2 p2 => ⟨w2, env, S2, r2, (e.mono l1).mono l2, (RP.bnd h2).mono (fun y S3 h3 w3 H3 yv l3 r3 p3 => by
    cases z2 : setM x y z S3 with
    | none => rw [z2] at h3; exact (show False from h3).elim
    | some S4 =>
      rw [z2] at h3
      unfold setM at z2
      split at z2
      · rename_i n i
        split at z2
        · rename_i l hS
          cases zj : pyIx l.length i with
          | none => rw [zj] at z2; cases z2
          | some j =>
            rw [zj] at z2
            cases z2
            cases p3
            cases (p2.mono l3) with
            | ref hn =>
              obtain ⟨vs, c1, c2⟩ := r3.cell n _ _ hS hn
              have lt := (l1.trans l2).trans l3
              refine ⟨_, vs, i, j, rfl, rfl, c1, by rw [← c2.length]; exact zj, ?_⟩
              exact h3 w3 _ σ lt (r3.write hS hn (by intro z; cases z) ⟨_, upd_same, c2.set ((p1.mono l2).mono l3) j⟩) (e.mono lt)
        · cases z2
      · cases z2) fun _ _ _ x => x.le (l1.trans l2)⟩) fun _ _ _ x => x.le l1⟩) fun _ _ _ x => x⟩
end Ro
end
section
set_option Elab.async false
set_option linter.all false
set_option maxRecDepth 100000
set_option maxHeartbeats 4000000
namespace Ro
open PySem PySem.Spec PyProof.Rows L2
variable {T : Tb} {E : XK} {X : Cx} {a b c : Expr} {es : List Expr} {f g h : EX} {fa ga fk : AX} {fb gb : BX} {pos : Pos} {st : Stmt} {sts rest : List Stmt} {s t : ES}
theorem frzM_ok {cf : String → List String} (hcf : T.cf = cf) {w : Wd} {S : Store} {H : Hp} {x : V} {d : D} {Pk : D → Store → Prop} {Pe : String → List D → Store → Prop} (r : WR T w S H) (p : Rep T w d x) (h : RP (frzM cf (.ok d S)) Pk Pe) :
    ∃ w' d' S', w.le w' ∧ WR T w' S' H ∧ Rep T w' d' x ∧ Pk d' S' := by
  unfold frzM at h
  rw [bnd_ok] at h
  split at h
  · rename_i n
    cases p with
    | ref hn =>
    split at h
    · rename_i c fs hS
      split at h
      · rename_i he
        obtain ⟨dx, gs, h1, h2, h3⟩ := r.cell n _ _ hS hn
        obtain ⟨l, r'⟩ := r.freeze hS hn (by intro z; cases z) h1
        refine ⟨_, _, _, l, r', .obj (dx := dx) (fs := gs) upd_same ?_ (h3.mono l), h⟩
        rw [h2, hcf, ← he, List.map_map]
        rfl
      · exact (show False from h).elim
    · rename_i l0 hS
      obtain ⟨vs, h1, h2⟩ := r.cell n _ _ hS hn
      obtain ⟨l, r'⟩ := r.freeze hS hn (by intro z; cases z) h1
      exact ⟨_, _, _, l, r', .lst upd_same (h2.mono l), h⟩
    · rename_i l0 hS
      obtain ⟨vs, h1, h2⟩ := r.cell n _ _ hS hn
      obtain ⟨l, r'⟩ := r.freeze hS hn (by intro z; cases z) h1
      exact ⟨_, _, _, l, r', .dct upd_same (h2.mono l), h⟩
    · exact (show False from h).elim
  · exact (show False from h).elim
theorem frzM_bnd {cf : String → List String} {r : R D} {Pk : D → Store → Prop} {Pe : String → List D → Store → Prop} (h : RP (frzM cf r) Pk Pe) : RP r (fun d S => RP (frzM cf (.ok d S)) Pk Pe) Pe := by
  cases r with
  | ok d S => exact h
  | err c fs S => exact h
  | bad => exact h
theorem ie_frz {cf : String → List String} (hcf : T.cf = cf) (ha : IE T E X a f) : IE T E X a (eFrz cf f) :=
  PE.mono ha fun σ H Q ⟨w, env, S, r, e, q⟩ => ⟨w, env, S, r, e, (frzM_bnd q).mono (fun d S1 h1 w1 H1 x l1 r1 p1 => by
    obtain ⟨w2, d2, S2, l2, r2, p2, h2⟩ := frzM_ok hcf r1 p1 h1
    exact h2 w2 H1 x (l1.trans l2) r2 p2) fun _ _ _ x => x⟩
theorem make_core {k n : Nat} {cn : String} {fd : FuncData} {fp : Addr} {ps ks : List Str} {m : Fn} {pk : List (Nat × Nat)} {dfs : List D} (F : FnG X.prog X.w T.K X.mg X.base k fp fd ps (spI T ps.length m)) (M : Mk T.K (He.ga T.K (cn : Str)) fp) (hK : X.K = T.K) (hr : RG (k + 1) X.A) (hb : KBD T fd ps (n + 1) ks pk dfs) (tk : Takes X fun c d _ H => E c d H)
    {pins : List (Addr × Obj)} {s : Shared} {σ : St} {H : Hp} {w : Wd} {S : Store} {us ws : List Value} {vs zs : List V} {xs ys : List D} {Q : VK} (I : Inv X pins σ H s) (r : WR T w S H) (rv : Vals vs us) (rz : Vals zs ws) (px : Reps T w xs vs) (py : Reps T w ys zs)
    (q : RP (newM cn (callM m (n + 1) ks.length ps.length pk dfs) xs ys S) (Pk T w Q) (XW T w E)) : wpAny (model X.prog X.w) X.A (call (.ref (He.ga T.K (cn : Str))) us (ks.zip ws)) (EP X pins σ Q) X.xe s := by
  obtain ⟨its, dvs, kb, rd⟩ := hb.ex
  have F' : FnG X.prog X.w X.K X.mg X.base k fp fd ps (spI T ps.length m) := by rw [hK]; exact F
  have M' : Mk X.K (He.ga T.K (cn : Str)) fp := by rw [hK]; exact M
  have kb' : KBn X.K fd ps (n + 1) ks (fun us ws => pick pk us its ws) (fun vs zs => pick pk vs dvs zs) := by rw [hK]; exact kb
  have q1 := RP.bnd (show RP (newM cn (callM m (n + 1) ks.length ps.length pk dfs) xs ys S) _ _ from q)
  obtain ⟨c1, c2, c3, q2⟩ := callM_ok q1
  have l1 : xs.length = n := by simpa using c1
  refine FnG.makes M' F' hr kb' (passes_call tk fun _ _ _ _ h => h) I rv rz (by rw [← px.length]; exact l1) (by rw [← py.length]; exact c2) fun x dx hx hdx hne => ?_
  have hx2 : upd H dx (.own x) x = none := by rw [upd_ne hne.symm]; exact hx
  have r0 : WR T w S (upd H dx (.own x)) := r.grow fun a u e => by rw [upd_ne (ne_of_none e hdx)]; exact e
  obtain ⟨l2, r2, at_⟩ := r0.alloc (o := .ins (He.ga T.K (cn : Str)) dx []) (c := .ins cn []) hx2 ⟨dx, [], upd_same, rfl, .nil⟩
  have pp := reps_pick pk (T := T) (w := ⟨w.G, w.am ++ [x], w.hid⟩) (.cons (.ref at_) (px.mono l2)) (rd _) (py.mono l2)
  refine ⟨by rw [← pp.length]; exact c3, _, _, _, r2, pp, q2.mono (fun d S1 h1 w1 H1 v l3 r3 p3 => ?_) fun _ _ _ x => x.le l2⟩
  cases p3 with
  | non => exact ⟨rfl, h1 w1 H1 _ (l2.trans l3) r3 (.ref (l3.tosb.at at_))⟩
  | _ => exact (show False from h1).elim
/-- C(.., k = ..) -/
theorem ie_new {k n : Nat} {cn : String} {d : He.DefD} {p : Pos} {kws : List Keyword} {ps ks : List Str} {m : Fn} {pk : List (Nat × Nat)} {dfs : List D} (F : OkF T X.prog X.w X.mg X.base k d ps m) (M : Mk T.K (He.ga T.K (cn : Str)) (He.fAd T.K d.at_)) (hK : X.K = T.K) (hr : RG (k + 1) X.A) (hg : Gl X (cn : Str)) (hm : X.mg (cn : Str) = some (.ref (He.ga T.K (cn : Str))))
    (hb : ∀ fd, FunD T.K d.name d.qual d.params d.body d.scope (d.dvs T.K) [] (He.fAd T.K d.at_) fd → KBD T fd ps (n + 1) ks pk dfs) (tk : Takes X fun c d _ H => E c d H) (ha : AK T E X es kws pos ks fa fk) (hdb : ((cn : Str) == ("__debug__" : Str)) = false := by decide +kernel) :
    IE T E X (.Call (.Name (cn : Str) p) es kws pos) (eFn (newM cn (callM m (n + 1) ks.length ps.length pk dfs)) fa fk) := by
  obtain ⟨fd, FD, FO⟩ := F.ex
  refine ⟨fun pins s σ H Q I h => ?_⟩
  obtain ⟨w, env, S, r, e, q⟩ := h
  refine wpAny_Call_Name_kw (ld_glob I hg hm ?_ hdb)
  refine ha pins s σ H w env S _ Q _ [] _ I r e (by rw [hK]; exact M.kp) q fun s2 H2 us ws vs zs w2 xs ys S2 I2 l2 r2 rv rz px py q2 => ?_
  exact make_core FO M hK hr (hb fd FD) tk I2 r2 rv rz px py q2
theorem er_wipe {w : Wd} {env : Env} {σ : St} (r : ER T w env σ) : ∀ vs : List Nat, ER T w (wipeE env vs) (wipe σ vs)
  | [] => r
  | v :: vs => by
    have ih := er_wipe r vs
    refine ⟨by show ((wipeE env vs).set v none).length = ((wipe σ vs).set v none).length; rw [List.length_set, List.length_set, ih.1], fun i d h => ?_⟩
    have h : ((wipeE env vs).set v none)[i]? = some (some d) := h
    show ∃ x, ((wipe σ vs).set v none)[i]? = some (some x) ∧ _
    by_cases hv : v = i
    · subst hv
      rw [List.getElem?_set] at h
      simp only [if_true] at h
      split at h <;> cases h
    · rw [List.getElem?_set_ne hv] at h ⊢
      exact ih.2 i d h
theorem RP.nox {α : Type} {r : R α} {Pk : α → Store → Prop} {Pe : String → List D → Store → Prop} (h : RP r.nox Pk Pe) (Pe' : String → List D → Store → Prop) : RP r Pk Pe' := by
  cases r with
  | ok a S => exact h
  | err c fs S => exact (show False from h).elim
  | bad => exact h
def ITs (T : Tb) (E : XK) (X : Cx) (ifs : List Expr) (fb : BX) : Prop := PTs X ifs (tIb T E fb)
theorem PTs.mono {X : Cx} {e : List Expr} {t t' : TT} (h : PTs X e t) (k : ∀ σ H Q, t' σ H Q → t σ H Q) : PTs X e t' := ⟨fun pins s σ H Q I q => h.run pins s σ H Q I (k _ _ _ q)⟩
theorem its_nil : ITs T E X [] bYes := PTs.mono pts_nil fun σ H Q ⟨w, env, S, r, e, q⟩ => q w H (Wd.le.refl _) r
theorem its_one (h : IB T E X c fb) : ITs T E X [c] fb := pts_one h
abbrev E00 : XK := fun _ _ _ => False
/-- a list that is being made -/
theorem WR.hide {w : Wd} {S : Store} {H : Hp} {p : Addr} (r : WR T w S H) (hp : H p = none) : WR T ⟨w.G, w.am, (p, []) :: w.hid⟩ S (upd H p (.lst [])) := by
  have k : ∀ a u, H a = some u → upd H p (.lst []) a = some u := fun a u e => by rw [upd_ne (ne_of_none e hp)]; exact e
  have sb : Wd.sb w ⟨w.G, w.am, (p, []) :: w.hid⟩ := ⟨fun _ _ h => h, [], by simp⟩
  refine ⟨fun a u e => k _ _ (r.sub _ _ e), r.len, r.nd, fun a ha => (r.has a ha).elim fun u e => ⟨u, k _ _ e.1, e.2⟩, r.out, fun n c a h1 h2 => (r.cell n c a h1 h2).keep sb fun u e => k _ _ e, tabs_new r.tabs hp, ?_, fun q hq => ?_, r.nt⟩
  · show (p :: w.hid.map (·.1)).Nodup
    refine List.nodup_cons.mpr ⟨fun z => ?_, r.hn⟩
    obtain ⟨q, hq, e⟩ := List.mem_map.mp z
    obtain ⟨_, _, vs, z3, _⟩ := r.hd q hq
    rw [e, hp] at z3
    cases z3
  · rcases List.mem_cons.mp hq with e | hq
    · subst e
      refine ⟨r.free hp, fun z => ?_, [], upd_same, .nil⟩
      obtain ⟨u, e, _⟩ := r.has p z
      rw [hp] at e
      cases e
    · obtain ⟨z1, z2, vs, z3, z4⟩ := r.hd q hq
      exact ⟨z1, z2, vs, k _ _ z3, z4.monoS sb⟩
theorem WR.hidPut {w : Wd} {S : Store} {H : Hp} {p : Addr} {l : List D} {hs : List (Addr × List D)} {d : D} {v : V} (r : WR T w S H) (hh : w.hid = (p, l) :: hs) (q : Rep T w d v) : ∃ vs, H p = some (.lst vs) ∧ vs.length = l.length ∧ WR T ⟨w.G, w.am, (p, l ++ [d]) :: hs⟩ S (upd H p (.lst (vs ++ [v]))) := by
  obtain ⟨z1, z2, vs, z3, z4⟩ := r.hd (p, l) (by rw [hh]; exact List.mem_cons_self ..)
  have hn := r.hn
  rw [hh] at hn
  have hn' : p ∉ hs.map (·.1) := (List.nodup_cons.mp (show (p :: hs.map (·.1)).Nodup from hn)).1
  have sb : Wd.sb w ⟨w.G, w.am, (p, l ++ [d]) :: hs⟩ := ⟨fun _ _ h => h, [], by simp⟩
  have k : ∀ a u, a ≠ p → H a = some u → upd H p (.lst (vs ++ [v])) a = some u := fun a u hne e => by rw [upd_ne hne]; exact e
  refine ⟨vs, z3, z4.length.symm, fun a u e => k _ _ (fun z => by rw [z] at e; rw [show w.G p = none from z1] at e; cases e) (r.sub _ _ e), r.len, r.nd, fun a ha => ?_, r.out, fun n c a h1 h2 => (r.cell n c a h1 h2).keep sb fun u e => k _ _ (fun z => z2 (by show p ∈ w.am; rw [← z]; exact List.mem_of_getElem? h2)) e, tabs_upd r.tabs z3 noTab_lst, hn, fun q2 hq => ?_, r.nt⟩
  · obtain ⟨u, e, nt⟩ := r.has a ha
    exact ⟨u, k _ _ (fun z => z2 (by show p ∈ w.am; rw [← z]; exact ha)) e, nt⟩
  · rcases List.mem_cons.mp hq with e | hq
    · subst e
      exact ⟨z1, z2, _, upd_same, (z4.append (.cons q .nil)).monoS sb⟩
    · obtain ⟨y1, y2, us, y3, y4⟩ := r.hd q2 (by rw [hh]; exact List.mem_cons_of_mem _ hq)
      exact ⟨y1, y2, us, k _ _ (fun z => hn' (by rw [← z]; exact List.mem_map_of_mem hq)) y3, y4.monoS sb⟩
theorem WR.shown {w : Wd} {S : Store} {H : Hp} {p : Addr} {l : List D} {hs : List (Addr × List D)} (r : WR T w S H) (hh : w.hid = (p, l) :: hs) : ∃ vs, Wd.sb w ⟨upd w.G p (.lst vs), w.am, hs⟩ ∧ WR T ⟨upd w.G p (.lst vs), w.am, hs⟩ S H ∧ Rep T ⟨upd w.G p (.lst vs), w.am, hs⟩ (.lst l) (.ref p) := by
  obtain ⟨z1, z2, vs, z3, z4⟩ := r.hd (p, l) (by rw [hh]; exact List.mem_cons_self ..)
  have z1 : w.G p = none := z1
  have hn := r.hn
  rw [hh] at hn
  have hn2 := List.nodup_cons.mp (show (p :: hs.map (·.1)).Nodup from hn)
  have sb : Wd.sb w ⟨upd w.G p (.lst vs), w.am, hs⟩ := ⟨fun a u e => by show upd w.G p (.lst vs) a = some u; rw [upd_ne (ne_of_none e z1)]; exact e, [], by simp⟩
  refine ⟨vs, sb, ⟨fun a u e => ?_, r.len, r.nd, r.has, fun n c a h1 h2 h3 => ?_, fun n c a h1 h2 => (r.cell n c a h1 h2).keep sb fun _ e => e, r.tabs, hn2.2, fun q hq => ?_, fun a ps e => ?_⟩, .lst upd_same (z4.monoS sb)⟩
  · have e : upd w.G p (.lst vs) a = some u := e
    by_cases h : a = p
    · subst h
      rw [upd_same] at e
      rw [← e]
      exact z3
    · rw [upd_ne h] at e
      exact r.sub _ _ e
  · show upd w.G p (.lst vs) a = none
    rw [upd_ne (fun z => z2 (by show p ∈ w.am; rw [← z]; exact List.mem_of_getElem? h2))]
    exact r.out n c a h1 h2 h3
  · obtain ⟨y1, y2, us, y3, y4⟩ := r.hd q (by rw [hh]; exact List.mem_cons_of_mem _ hq)
    refine ⟨?_, y2, us, y3, y4.monoS sb⟩
    show upd w.G p (.lst vs) q.1 = none
    rw [upd_ne (fun z => hn2.1 (by rw [← z]; exact List.mem_map_of_mem hq))]
    exact y1
  · have e : upd w.G p (.lst vs) a = some (.tbl ps) := e
    by_cases h : a = p
    · rw [h, upd_same] at e
      cases e
    · rw [upd_ne h] at e
      exact r.nt a ps e
theorem lc_noerr {p : Pat} {fb : BX} {el : EX} {env : Env} : ∀ {ds acc : List D} {S : Store} {c : String} {fs : List D} {S' : Store}, lcLoop p fb el env ds acc S = .err c fs S' → False
  | [], _, _, _, _, _, h => by cases h
  | d :: ds, acc, S, c, fs, S', h => by
    unfold lcLoop at h
    cases z : p d env with
    | none => rw [z] at h; cases h
    | some e1 =>
      rw [z] at h
      have h : ((fb e1 S).nox.bnd fun k S1 => if k then (el e1 S1).nox.bnd fun y S2 => if acc.length < LINE then lcLoop p fb el env ds (acc ++ [y]) S2 else .bad else lcLoop p fb el env ds acc S1) = .err c fs S' := h
      cases z1 : fb e1 S with
      | ok k S1 =>
        rw [z1, nox_ok, bnd_ok] at h
        cases k with
        | true =>
          rw [if_pos rfl] at h
          cases z2 : el e1 S1 with
          | ok y S2 =>
            rw [z2, nox_ok, bnd_ok] at h
            split at h
            · exact lc_noerr h
            · cases h
          | err _ _ _ => rw [z2] at h; cases h
          | bad => rw [z2] at h; cases h
        | false =>
          rw [if_neg Bool.false_ne_true] at h
          exact lc_noerr h
      | err _ _ _ => rw [z1] at h; cases h
      | bad => rw [z1] at h; cases h
theorem lc_read {p : Pat} {vs : List Nat} {fb : BX} {el : EX} {it : AX} {σ : St} {H : Hp} {Q : VK} (q : tI T E (eLC vs it p fb el) σ H Q) : tLc (tII T E it) (gI T vs p) (tIb T E00 fb) (tI T E00 el) vs σ H Q := by
  obtain ⟨w, env, S, r, e, q⟩ := q
  refine ⟨w, env, S, r, e, (RP.bnd q).mono (fun ds S1 h1 w1 H1 J l1 r1 it => ?_) fun _ _ _ x => x⟩
  intro Dp hD
  have h1 := RP.bnd h1
  have r0 := r1.hide hD
  have e1 := er_wipe (e.mono l1) vs
  refine ⟨fun i m H => m = ds.length - i ∧ i ≤ ds.length ∧ ∃ w2 acc S2, w1.sb w2 ∧ w2.hid = (Dp, acc) :: w1.hid ∧ WR T w2 S2 H ∧ RP (lcLoop p fb el (wipeE env vs) (ds.drop i) acc S2) (fun ys S' => ∀ w' H' v, w1.le w' → WR T w' S' H' → Rep T w' (.lst ys) v → Q v H') (fun _ _ _ => False), ⟨ds.length, by simp, Nat.zero_le _, ⟨w1.G, w1.am, (Dp, []) :: w1.hid⟩, [], S1, ⟨fun _ _ h => h, [], by simp⟩, rfl, r0, ?_⟩, ?_⟩
  · have h2 : RP (lcLoop p fb el (wipeE env vs) ds [] S1) (fun ys S' => ∀ w' H' v, w.le w' → WR T w' S' H' → Rep T w' (.lst ys) v → Q v H') (XW T w E) := h1
    cases z : lcLoop p fb el (wipeE env vs) ds [] S1 with
    | ok ys S2 =>
      rw [z] at h2
      show RP (lcLoop p fb el (wipeE env vs) (ds.drop 0) [] S1) _ _
      rw [List.drop_zero, z]
      exact fun w' H' v l => h2 w' H' v (l1.trans l)
    | err c fs S2 => exact (lc_noerr z).elim
    | bad => rw [z] at h2; exact h2.elim
  · rintro i m H ⟨rfl, hi, w2, acc, S2, sb, hh, r2, h2⟩
    by_cases hlt : i < ds.length
    · rw [List.drop_eq_getElem_cons hlt] at h2
      have it' : ∀ (i : Nat), True := fun _ => trivial
      refine .inr ⟨it.goS i H w2 S2 sb r2 hlt, fun H' => i + 1 ≤ ds.length ∧ ∃ w2 acc S2, w1.sb w2 ∧ w2.hid = (Dp, acc) :: w1.hid ∧ WR T w2 S2 H' ∧ RP (lcLoop p fb el (wipeE env vs) (ds.drop (i + 1)) acc S2) (fun ys S' => ∀ w' H' v, w1.le w' → WR T w' S' H' → Rep T w' (.lst ys) v → Q v H') (fun _ _ _ => False), fun H' h => ⟨ds.length - (i + 1), by omega, rfl, h⟩, fun x H' y => ?_⟩
      obtain ⟨w3, l3, r3, p3⟩ := it.yldS i H x H' w2 S2 ds[i] sb r2 (List.getElem?_eq_getElem hlt) y
      unfold lcLoop at h2
      cases z : p ds[i] (wipeE env vs) with
      | none => rw [z] at h2; exact (show False from h2).elim
      | some env1 =>
        rw [z] at h2
        have h2 := RP.nox (RP.bnd h2) (XW T w3 E00)
        refine ⟨w3, wipeE env vs, S2, ds[i], env1, r3, e1.monoS (sb.trans l3.tosb), p3, z, fun σ2 q2 z2 => ⟨z2.trans (wipe_wipe σ vs), w3, env1, S2, r3, q2, h2.mono (fun k S3 h3 w4 H4 l4 r4 => ?_) fun _ _ _ x => x⟩⟩
        have hh4 : w4.hid = (Dp, acc) :: w1.hid := by rw [l4.hid, l3.hid, hh]
        cases k with
        | false =>
          rw [if_neg Bool.false_ne_true] at h3
          dsimp only
          rw [if_neg Bool.false_ne_true]
          exact ⟨hlt, w4, acc, S3, (sb.trans l3.tosb).trans l4.tosb, hh4, r4, h3⟩
        | true =>
          rw [if_pos rfl] at h3
          dsimp only
          rw [if_pos rfl]
          have h3 := RP.nox (RP.bnd h3) (XW T w4 E00)
          refine ⟨w4, env1, S3, r4, q2.mono l4, h3.mono (fun y S5 h5 w5 H5 v l5 r5 p5 => ?_) fun _ _ _ x => x⟩
          by_cases hl : acc.length < LINE
          · rw [if_pos hl] at h5
            have hh5 : w5.hid = (Dp, acc) :: w1.hid := by rw [l5.hid, hh4]
            obtain ⟨us, k1, k2, k3⟩ := r5.hidPut hh5 p5
            have sb5 : w1.sb w5 := ((sb.trans l3.tosb).trans l4.tosb).trans l5.tosb
            exact ⟨us, k1, by rw [k2, sizeLine_eq]; exact hl, hlt, ⟨w5.G, w5.am, (Dp, acc ++ [y]) :: w1.hid⟩, acc ++ [y], S5, ⟨sb5.G, sb5.am⟩, rfl, k3, h5⟩
          · rw [if_neg hl] at h5
            exact (show False from h5).elim
    · have e0 : ds.drop i = [] := List.drop_of_length_le (by omega)
      rw [e0] at h2
      obtain ⟨us, k1, k2, k3⟩ := r2.shown hh
      exact .inl ⟨it.stopS i H w2 S2 sb r2 (by omega), h2 _ H _ ⟨sb.trans k1, rfl⟩ k2 k3⟩
theorem ie_lc {tg iter elt : Expr} {ifs : List Expr} {scope : Scope} {own : List (Str × Nat)} {p : Pat} {el : EX} {it : AX} (hc : X.calm = true) (hN : X.N.Nodup) (hi : II T E X tg iter it) (ok : BlkOk X.N X.env.scope scope own)
    (hg : ∀ (s : Shared) (H : Hp) (C : Addr) (cl : List (Str × Addr)) (fp : List Addr), IG T (X.blk s H scope (compEnvC scope cl C X.env) fp) (own.map (·.2)) tg p) (ht : ∀ (s : Shared) (H : Hp) (C : Addr) (cl : List (Str × Addr)) (fp : List Addr), ITs T E00 (X.blk s H scope (compEnvC scope cl C X.env) fp) ifs fb)
    (he : ∀ (s : Shared) (H : Hp) (C : Addr) (cl : List (Str × Addr)) (fp : List Addr), IE T E00 (X.blk s H scope (compEnvC scope cl C X.env) fp) elt el) (hs : ∀ x, foldedSetIterable iter X.env x = pure x := by intro _; rfl) :
    IE T E X (.ListComp elt [⟨tg, iter, ifs, 0⟩] scope pos) (eLC (own.map (·.2)) it p fb el) :=
  PE.mono (pe_lc hc hN hi ok hg ht he hs) fun σ H Q q => lc_read q
theorem is_setLc {i : Nat} {y : Str} {py spos : Pos} {tg iter elt : Expr} {ifs : List Expr} {scope : Scope} {own : List (Str × Nat)} {p : Pat} {el : EX} {it : AX} (hc : X.calm = true) (hN : X.N.Nodup) (hy : X.N[i]? = some y) (hyl : X.env.scope.names.lookup y = some .local)
    (hsw : swapsWith (.ListComp elt [⟨tg, iter, ifs, 0⟩] scope pos) (some (.Name y py)) spos.line X.env = pure true) (hi : II T E X tg iter it) (ok : BlkOk X.N X.env.scope scope own)
    (hg : ∀ (s : Shared) (H : Hp) (C : Addr) (cl : List (Str × Addr)) (fp : List Addr), IG T (X.blk s H scope (compEnvC scope cl C X.env) fp) (own.map (·.2)) tg p) (ht : ∀ (s : Shared) (H : Hp) (C : Addr) (cl : List (Str × Addr)) (fp : List Addr), ITs T E00 (X.blk s H scope (compEnvC scope cl C X.env) fp) ifs fb)
    (he : ∀ (s : Shared) (H : Hp) (C : Addr) (cl : List (Str × Addr)) (fp : List Addr), IE T E00 (X.blk s H scope (compEnvC scope cl C X.env) fp) elt el) (hs : ∀ x, foldedSetIterable iter X.env x = pure x := by intro _; rfl) :
    IS T E X (.Assign [.Name y py] (.ListComp elt [⟨tg, iter, ifs, 0⟩] scope pos) spos) (sSet i (eLC (own.map (·.2)) it p fb el)) :=
  PS.mono (ps_setLc hc hN hy hyl hsw hi ok hg ht he hs) fun D σ H ⟨w, env, S, r, e, q⟩ => lc_read (Q := fun v H' => D.nx (σ.set i (some v)) H') ⟨w, env, S, r, e, (RP.bnd q).mono (fun d S1 h1 w1 H1 v l1 r1 p1 => h1 w1 H1 _ l1 r1 ((e.mono l1).set p1 i)) fun _ _ _ x => x⟩
end Ro
end
section
set_option Elab.async false
set_option linter.all false
set_option maxRecDepth 100000
set_option maxHeartbeats 4000000
namespace Ro
open PySem PySem.Spec PyProof.Rows L2
variable {T : Tb} {E : XK} {X : Cx} {a b c e : Expr} {es : List Expr} {f g h : EX} {fa ga fk : AX} {fb gb : BX} {pos : Pos} {st : Stmt} {sts rest : List Stmt} {s t : ES}
/-- a built-in by values: what HandS tells (r) follows from the mirror (m) -/
def BOk (T : Tb) (r : List V → Hp → VK → Prop) (m : List D → Option D) : Prop :=
  ∀ w S xs vs H d Q, WR T w S H → Reps T w xs vs → m xs = some d → (∀ w' H' v, w.le w' → WR T w' S H' → Rep T w' d v → Q v H') → r vs H Q
theorem tI_b {r : List V → Hp → VK → Prop} {m : List D → Option D} (h : BOk T r m) {σ : St} {H : Hp} {Q : VK} (q : tI T E (eB m fa) σ H Q) : tCB r (tIa T E fa) σ H Q := by
  obtain ⟨w, env, S, r0, e, q⟩ := q
  refine ⟨w, env, S, r0, e, (RP.bnd q).mono (fun xs S1 h1 w1 H1 vs l1 r1 p1 => ?_) fun _ _ _ x => x⟩
  cases z : m xs with
  | none => rw [z] at h1; exact (show False from h1).elim
  | some d =>
    rw [z] at h1
    exact h w1 S1 xs vs H1 d Q r1 p1 z fun w' H' v l => h1 w' H' v (l1.trans l)
theorem ie_b {x : Str} {p : Pos} {id : String} {r : List V → Hp → VK → Prop} {m : List D → Option D} (hc : CallR X (.builtin id) r) (hm : BOk T r m) (hg : Gl X x) (hn : X.mg x = none) (hv : bootBuiltins x = some (.builtin id)) (ha : IA T E X (a :: es) fa) (hx : x ≠ "__name__" := by decide +kernel) (hdb : (x == ("__debug__" : Str)) = false := by decide +kernel)
    (he : starEach (a :: es) X.env = (false, eval a X.env) :: starEach es X.env := by rfl) (hpl : (backTo pos (starEach es X.env)).any (·.1) = false := by rfl) : IE T E X (.Call (.Name x p) (a :: es) [] pos) (eB m fa) :=
  PE.mono (pe_callB hc hg hn hv ha hx hdb he hpl) fun σ H Q q => tI_b hm q
theorem ie_bt {x : Str} {p : Pos} {id : String} {r : List V → Hp → VK → Prop} {m : List D → Option D} (hc : CallR X (.type id) r) (hm : BOk T r m) (hg : Gl X x) (hn : X.mg x = none) (hv : bootBuiltins x = some (.type id)) (ha : IA T E X (a :: es) fa) (hx : x ≠ "__name__" := by decide +kernel) (hdb : (x == ("__debug__" : Str)) = false := by decide +kernel)
    (he : starEach (a :: es) X.env = (false, eval a X.env) :: starEach es X.env := by rfl) (hpl : (backTo pos (starEach es X.env)).any (·.1) = false := by rfl) : IE T E X (.Call (.Name x p) (a :: es) [] pos) (eB m fa) :=
  PE.mono (pe_callTy hc hg hn hv ha hx hdb he hpl) fun σ H Q q => tI_b hm q
theorem reps_one {w : Wd} {x : D} {vs : List V} (r : Reps T w [x] vs) : ∃ v, vs = [v] ∧ Rep T w x v := by
  cases r with
  | cons r1 r2 => cases r2; exact ⟨_, rfl, r1⟩
theorem reps_two {w : Wd} {x y : D} {vs : List V} (r : Reps T w [x, y] vs) : ∃ v u, vs = [v, u] ∧ Rep T w x v ∧ Rep T w y u := by
  cases r with
  | cons r1 r2 => cases r2 with
    | cons r3 r4 => cases r4; exact ⟨_, _, rfl, r1, r3⟩
theorem bo_abs : BOk T (fun xs H Q => ∃ i, xs = [.int i] ∧ Q (.int (if i < 0 then -i else i)) H) bAbs := fun w S xs vs H d Q r p h k => by
  unfold bAbs at h
  split at h
  · cases h
    obtain ⟨v, rfl, p2⟩ := reps_one p
    cases p2
    exact ⟨_, rfl, k w H _ (Wd.le.refl _) r (.int _)⟩
  · cases h
theorem bo_max2 : BOk T (fun xs H Q => ∃ i j, xs = [.int i, .int j] ∧ Q (.int (if j > i then j else i)) H) bMax2 := fun w S xs vs H d Q r p h k => by
  unfold bMax2 at h
  split at h
  · cases h
    obtain ⟨v, u, rfl, p2, q2⟩ := reps_two p
    cases p2; cases q2
    exact ⟨_, _, rfl, k w H _ (Wd.le.refl _) r (.int _)⟩
  · cases h
theorem bo_min2 : BOk T (fun xs H Q => ∃ i j, xs = [.int i, .int j] ∧ Q (.int (if j < i then j else i)) H) bMin2 := fun w S xs vs H d Q r p h k => by
  unfold bMin2 at h
  split at h
  · cases h
    obtain ⟨v, u, rfl, p2, q2⟩ := reps_two p
    cases p2; cases q2
    exact ⟨_, _, rfl, k w H _ (Wd.le.refl _) r (.int _)⟩
  · cases h
theorem bo_divmod : BOk T (fun xs H Q => ∃ i j, xs = [.int i, .int j] ∧ CDivP i j ∧ ∀ p, H p = none → Q (.ref p) (upd H p (.tup [.int (i / j), .int (i % j)]))) bDivmod := fun w S xs vs H d Q r p h k => by
  unfold bDivmod at h
  split at h
  · split at h
    · rename_i hj
      cases h
      obtain ⟨v, u, rfl, p2, q2⟩ := reps_two p
      cases p2; cases q2
      refine ⟨_, _, rfl, (by
        unfold divOk at hj
        have hj := of_decide_eq_true hj
        refine ⟨hj.1, PyProof.noPylong_of_log2 ?_⟩
        rename_i jj _
        have h2 : jj.natAbs < 2 ^ 60 := by omega
        have := (Nat.log2_lt (n := jj.natAbs) (k := 60) (by omega)).mpr h2
        omega), fun p hp => ?_⟩
      obtain ⟨l1, r1⟩ := r.new hp (.tup _)
      exact k _ _ _ l1 r1 (.tup (.inl (.inl upd_same)) (.cons (.int _) (.cons (.int _) .nil)))
    · cases h
  · cases h
def rLenH (K : PySem.W.Frag) : List V → Hp → VK → Prop := fun xs H Q => ∃ x n, xs = [x] ∧ LenV K x H n ∧ Q (.int n) H
theorem reps_len_eq {w : Wd} {l : List D} {vs : List V} (r : Reps T w l vs) : (vs.length : Int) = l.length := by rw [r.length]
theorem bo_len : BOk T (rLenH T.K) (fun xs => match xs with | [.dct _] => none | _ => bLen xs) := fun w S xs vs H d Q r p h k => by
  dsimp only at h
  split at h
  · cases h
  rename_i hnd
  unfold bLen at h
  split at h
  · obtain ⟨v, rfl, p2⟩ := reps_one p
    unfold lenD at h
    split at h
    · cases h
      cases p2 with
      | tup q1 q2 => exact ⟨_, _, rfl, .inr ⟨_, sqt_sub r q1, rfl⟩, by rw [reps_len_eq q2]; exact k w H _ (Wd.le.refl _) r (.int _)⟩
    · cases h
      cases p2 with
      | lst q1 q2 => exact ⟨_, _, rfl, .inl ⟨_, .inl (.inl (r.sub _ _ q1)), rfl⟩, by rw [reps_len_eq q2]; exact k w H _ (Wd.le.refl _) r (.int _)⟩
    · cases h
      cases p2 with
      | scr q1 => exact ⟨_, _, rfl, .inl ⟨_, sql_sub r q1, rfl⟩, by rw [List.length_map]; exact k w H _ (Wd.le.refl _) r (.int _)⟩
    · split at h
      · rename_i hl
        cases h
        cases p2
        exact ⟨_, _, rfl, ⟨by rw [sizeLine_eq]; exact hl, rfl⟩, k w H _ (Wd.le.refl _) r (.int _)⟩
      · cases h
    · exact (hnd _ rfl).elim
    · cases h
  · cases h
def rListOf (K : PySem.W.Frag) : List V → Hp → VK → Prop := fun xs H Q => ∃ p ys, xs = [.ref p] ∧ (SqL K H p ys ∨ SqT K H p ys) ∧ ∀ l, H l = none → Q (.ref l) (upd H l (.lst ys))
theorem bo_list : BOk T (rListOf T.K) bList := fun w S xs vs H d Q r p h k => by
  unfold bList at h
  split at h
  · cases h
    obtain ⟨v, rfl, p2⟩ := reps_one p
    cases p2 with
    | tup q1 q2 =>
      refine ⟨_, _, rfl, .inr (sqt_sub r q1), fun p hp => ?_⟩
      obtain ⟨l1, r1⟩ := r.new hp (.lst _)
      exact k _ _ _ l1 r1 (.lst upd_same (q2.mono l1))
  · cases h
    obtain ⟨v, rfl, p2⟩ := reps_one p
    cases p2 with
    | lst q1 q2 =>
      refine ⟨_, _, rfl, .inl (.inl (.inl (r.sub _ _ q1))), fun p hp => ?_⟩
      obtain ⟨l1, r1⟩ := r.new hp (.lst _)
      exact k _ _ _ l1 r1 (.lst upd_same (q2.mono l1))
  · cases h
def rTupleOf (K : PySem.W.Frag) : List V → Hp → VK → Prop := fun xs H Q => ∃ p ys, xs = [.ref p] ∧ ((SqL K H p ys ∧ ∀ l, H l = none → Q (.ref l) (upd H l (.tup ys))) ∨ (SqT K H p ys ∧ Q (.ref p) H))
theorem bo_tuple : BOk T (rTupleOf T.K) bTuple := fun w S xs vs H d Q r p h k => by
  unfold bTuple at h
  split at h
  · cases h
    obtain ⟨v, rfl, p2⟩ := reps_one p
    cases p2 with
    | tup q1 q2 => exact ⟨_, _, rfl, .inr ⟨sqt_sub r q1, k w H _ (Wd.le.refl _) r (.tup q1 q2)⟩⟩
  · cases h
    obtain ⟨v, rfl, p2⟩ := reps_one p
    cases p2 with
    | lst q1 q2 =>
      refine ⟨_, _, rfl, .inl ⟨.inl (.inl (r.sub _ _ q1)), fun p hp => ?_⟩⟩
      obtain ⟨l1, r1⟩ := r.new hp (.tup _)
      exact k _ _ _ l1 r1 (.tup (.inl (.inl upd_same)) (q2.mono l1))
  · cases h
def tyV' (K : PySem.W.Frag) : Ty → Value
  | .b n => .type n
  | .o c => .ref (He.ga K (c : Str))
def tyVV (K : PySem.W.Frag) : Ty → V
  | .b n => .ty n
  | .o c => .ref (He.ga K (c : Str))
/-- what is told of a class for isinstance -/
structure IsiC (K : PySem.W.Frag) (C : Addr) : Prop where
  cl : Cls K C
  ha : PySem.W.findIn K (.ref C) "__class__" = some (some (.builtin "object.__class__"))
  hn : PySem.W.specialIn K (.builtin "object.__class__") "__get__" = some (some (.builtin "getset_descriptor.__get__"))
  htk : PySem.W.takesIn K (.builtin "object.__class__") = some true
  hm : PySem.W.mroIn K C (.type "object") = some true
theorem tyX_of {w : Wd} {S : Store} {H : Hp} {d : D} {x : V} {t : Ty} (r : WR T w S H) (p : Rep T w d x) (h : tyD d S = some t) (hc : ∀ c, t = .o c → IsiC T.K (He.ga T.K (c : Str))) : TyX T.K H x (tyV' T.K t) := by
  cases p with
  | non => cases h; exact .base .non
  | bl b => cases h; exact .base (.bl b)
  | int i => cases h; exact .base (.int i)
  | str s => cases h; exact .base (.str s)
  | tup q1 q2 =>
    cases h
    rcases sqt_sub r q1 with (q | ⟨o, q⟩) | ⟨o, its, n, q, hcl, _⟩
    · exact .base (.tup q)
    · exact .fTuple q
    · exact .kTuple q hcl
  | scr q1 =>
    cases h
    rcases sql_sub r q1 with (q | ⟨o, q⟩) | ⟨o, its, n, q, hcl, _⟩
    · exact .base (.lst q)
    · exact .base (.frz q)
    · exact .kList q hcl
  | lst q1 q2 => cases h; exact .base (.lst (r.sub _ _ q1))
  | dct q1 q2 => cases h; exact .base (.dK (r.sub _ _ q1))
  | obj q1 q2 q3 =>
    cases h
    have z := hc _ rfl
    exact .base (.ins (r.sub _ _ q1) z.cl z.ha z.hn z.htk z.hm)
  | ref hn =>
    unfold tyD at h
    dsimp only at h
    split at h
    · rename_i l hS
      cases h
      obtain ⟨us, c1, c2⟩ := r.cell _ _ _ hS hn
      exact .base (.lst c1)
    · rename_i l hS
      cases h
      obtain ⟨us, c1, c2⟩ := r.cell _ _ _ hS hn
      exact .base (.dK c1)
    · rename_i c fs hS
      cases h
      obtain ⟨dx, gs, c1, c2, c3⟩ := r.cell _ _ _ hS hn
      have z := hc _ rfl
      exact .base (.ins c1 z.cl z.ha z.hn z.htk z.hm)
    · cases h
  | fn x => cases h
  | xc0 q1 q2 => cases h
  | xc1 q1 q2 q3 q4 q5 => cases h
/-- the class, as written -/
def IsTyE (T : Tb) (X : Cx) (e : Expr) (t : Ty) : Prop := PE X e (tC (tyVV T.K t))
theorem isTy_b {n : String} {x : Str} (hg : Gl X x) (hm : X.mg x = none) (hv : bootBuiltins x = some (.type n)) (hn : x ≠ "__name__" := by decide +kernel) (hd : (x == ("__debug__" : Str)) = false := by decide +kernel) : IsTyE T X (.Name x pos) (.b n) := pe_bltn (v := .ty n) hg hm hv rfl hn hd
theorem isTy_o {c : String} (hg : Gl X (c : Str)) (hm : X.mg (c : Str) = some (.ref (He.ga T.K (c : Str)))) (hd : ((c : Str) == ("__debug__" : Str)) = false := by decide +kernel) : IsTyE T X (.Name (c : Str) pos) (.o c) := pe_glob (v := .ref _) hg hm rfl hd
theorem ie_isi {p : Pos} {tys : List Ty} {Tt : Ty} (hK : X.K = T.K) (hg : Gl X "isinstance") (hn : X.mg "isinstance" = none) (ha : IE T E X a f) (hb : IsTyE T X b Tt) (hc : ∀ t ∈ tys, ∀ c, t = .o c → IsiC T.K (He.ga T.K (c : Str))) (hk : ∀ t ∈ tys, PySem.W.kitOne T.K (tyV' T.K t) (tyV' T.K Tt) = some (subTy t Tt))
    (he : starEach (a :: [b]) X.env = (false, eval a X.env) :: starEach [b] X.env := by rfl) (hpl : (backTo pos (starEach [b] X.env)).any (·.1) = false := by rfl) (he2 : starEach [b] X.env = (false, eval b X.env) :: starEach [] X.env := by rfl) : IE T E X (.Call (.Name "isinstance" p) [a, b] [] pos) (eIsI tys Tt f) :=
  PE.mono (pe_callB call_isi hg hn (by decide +kernel) (pa_cons ha (pa_cons hb pa_nil he2) he) (by decide +kernel) (by decide +kernel) he hpl) fun σ H Q ⟨w, env, S, r, e, q⟩ => ⟨w, env, S, r, e, (RP.bnd q).mono (fun d S1 h1 w1 H1 x l1 r1 p1 => by
    split at h1
    · rename_i t ht
      split at h1
      · rename_i hmem
        have hm : t ∈ tys := by simpa using hmem
        refine ⟨x, _, tyV' T.K t, tyV' T.K Tt, subTy t Tt, rfl, ?_, ?_, ?_, h1 w1 H1 _ l1 r1 (.bl _)⟩
        · cases Tt with
          | b n => exact .ty n
          | o c => exact .own _
        · rw [hK]; exact tyX_of r1 p1 ht (hc t hm)
        · rw [hK]; exact hk t hm
      · exact (show False from h1).elim
    · exact (show False from h1).elim) fun _ _ _ x => x⟩
end Ro
end
section
set_option Elab.async false
set_option linter.all false
set_option maxRecDepth 100000
set_option maxHeartbeats 4000000
namespace Ro
open PySem PySem.Spec PyProof.Rows L2
variable {T : Tb} {E : XK} {X : Cx} {a b c e : Expr} {es : List Expr} {f g h : EX} {fa ga fk : AX} {fb gb : BX} {pos : Pos} {st : Stmt} {sts rest : List Stmt} {s t : ES}
def tIo (T : Tb) (E : XK) (f : OX) : L2.TO := fun σ H Q => ∃ w env S, WR T w S H ∧ ER T w env σ ∧ RP (f env S) (fun o S' => ∀ w' H', w.le w' → WR T w' S' H' → Q o H') (XW T w E)
def IO' (T : Tb) (E : XK) (X : Cx) (e : Option Expr) (f : OX) : Prop := PO X e (tIo T E f)
theorem PO.mono {X : Cx} {e : Option Expr} {t t' : L2.TO} (h : PO X e t) (k : ∀ σ H Q, t' σ H Q → t σ H Q) : PO X e t' := ⟨fun pins s σ H Q I q => h.run pins s σ H Q I (k _ _ _ q)⟩
theorem io_none : IO' T E X none oNone := PO.mono po_none fun σ H Q ⟨w, env, S, r, e, q⟩ => q w H (Wd.le.refl _) r
theorem io_some (h : IE T E X a f) : IO' T E X (some a) (oSome f) := PO.mono (po_some h) fun σ H Q ⟨w, env, S, r, e, q⟩ => ⟨w, env, S, r, e, (RP.bnd q).mono (fun d S1 h1 w1 H1 x l1 r1 p1 => by
  cases p1 with
  | int i => exact ⟨i, rfl, h1 w1 H1 l1 r1⟩
  | _ => exact (show False from h1).elim) fun _ _ _ x => x⟩
theorem cutI_sIx (n d : Nat) (o : Option Int) : HT.sIx n d o = cutI n d o := by
  cases o <;> rfl
theorem reps_cut {w : Wd} {l : List D} {vs : List V} (lo hi : Option Int) (r : Reps T w l vs) : Reps T w (cutL l lo hi) (cutV vs lo hi) := by
  unfold cutL cutV
  rw [cutI_sIx, cutI_sIx, r.length]
  exact (r.drop _).take _
theorem ie_cut {lo hi : Option Expr} {ol oh : OX} {p2 : Pos} (hK : X.K = T.K) (ha : IE T E X a f) (hl : IO' T E X lo ol) (hh : IO' T E X hi oh) : IE T E X (.Subscript a (.Slice lo hi none p2) pos) (eCut f ol oh) :=
  PE.mono (pe_slice (sl_tupA.or (sl_list.or sl_str)) ha hl hh) fun σ H Q ⟨w, env, S, r, e, q⟩ => ⟨w, env, S, r, e, (RP.bnd q).mono (fun d S1 h1 w1 H1 x l1 r1 p1 => ⟨w1, env, S1, r1, e.mono l1, (RP.bnd h1).mono (fun o1 S2 h2 w2 H2 l2 r2 => ⟨w2, env, S2, r2, (e.mono l1).mono l2, (RP.bnd h2).mono (fun o2 S3 h3 w3 H3 l3 r3 => by
    have lt := (l1.trans l2).trans l3
    have p3 := p1.mono (l2.trans l3)
    cases z : cutD d o1 o2 with
    | none => rw [z] at h3; exact (show False from h3).elim
    | some y =>
      rw [z] at h3
      unfold cutD at z
      rw [hK]
      split at z
      · cases z
        cases p3 with
        | tup q1 q2 =>
          rename_i aa vs
          refine .inl ⟨aa, vs, rfl, sqt_sub r3 q1, fun hw => ?_, fun hw p hp => ?_⟩
          · refine h3 w3 H3 _ lt r3 (.tup q1 ?_)
            have e2 : cutV vs o1 o2 = vs := by
              unfold cutV
              rw [hw.1, hw.2, List.drop_zero, Nat.sub_zero, List.take_length]
            have z2 := reps_cut o1 o2 q2
            rw [e2] at z2
            exact z2
          · obtain ⟨l4, r4⟩ := r3.new hp (.tup _)
            exact h3 _ _ _ (lt.trans l4) r4 (.tup (.inl (.inl upd_same)) ((reps_cut o1 o2 q2).mono l4))
      · cases z
        cases p3 with
        | lst q1 q2 =>
          refine .inr (.inl ⟨_, _, rfl, .inl (.inl (r3.sub _ _ q1)), fun p hp => ?_⟩)
          obtain ⟨l4, r4⟩ := r3.new hp (.lst _)
          exact h3 _ _ _ (lt.trans l4) r4 (.lst upd_same ((reps_cut o1 o2 q2).mono l4))
      · split at z
        · rename_i hl
          cases z
          cases p3
          refine .inr (.inr ⟨_, rfl, by rw [sizeLine_eq]; exact hl, ?_⟩)
          have z2 := h3 w3 H3 _ lt r3 (.str _)
          unfold cutS
          unfold cutL at z2
          rw [cutI_sIx, cutI_sIx]
          rw [Array.length_toList] at z2
          exact z2
        · cases z
      · cases z) fun _ _ _ x => x.le (l1.trans l2)⟩) fun _ _ _ x => x.le l1⟩) fun _ _ _ x => x⟩
theorem tyV_list {w : Wd} {S : Store} {H : Hp} {d : D} {x : V} (r : WR T w S H) (p : Rep T w d x) (h : tyD d S = some (.b "list")) : tyV T.K "list" x H := by
  cases p with
  | ref hn =>
    unfold tyD at h
    dsimp only at h
    split at h
    · rename_i l hS
      obtain ⟨us, c1, c2⟩ := r.cell _ _ _ hS hn
      exact .inl ⟨rfl, us, .inl (.inl c1)⟩
    all_goals exact absurd h (by simp)
  | lst q1 q2 => exact .inl ⟨rfl, _, .inl (.inl (r.sub _ _ q1))⟩
  | scr q1 => exact .inl ⟨rfl, _, sql_sub r q1⟩
  | _ => exact absurd h (by unfold tyD; simp)
theorem mt_R {id : String} {r : V → List V → Hp → VK → Prop} (h : MtM X id r) : MtR X id r := fun pins s σ H x xs v us Q I rx rv q => h pins s σ H x xs v us Q I rx rv q
theorem ie_app {apos : Pos} (hK : X.K = T.K) (ho : IE T E X a f) (hb : IE T E X b g) (hbase : attributeBase a "append" X.env (eval a X.env) = eval a X.env := by rfl)
    (hfew : ((backTo pos (starEach [b] X.env)).all (fun x => !x.1) && (backToKw pos (keywordEach [] X.env)).all (fun x => x.1.isSome)
      && decide (([b]).length + ([] : List Keyword).length + (if ([] : List Keyword).isEmpty then 0 else 1) < 30)) = true := by rfl)
    (hline : (apos.endLine == pos.line) = true := by rfl) (hs : starEach [b] X.env = (false, eval b X.env) :: starEach [] X.env := by rfl) (hpl : (backTo pos (starEach [] X.env)).any (·.1) = false := by rfl) :
    IE T E X (.Call (.Attribute a "append" apos) [b] [] pos) (eApp f g) :=
  PE.mono (pe_bm PySem.F.plainAttrs_list PySem.F.slot_list_append PySem.F.type_list_append (mt_R mt_append) ho (pa_cons hb pa_nil hs) hbase hfew hline hs hpl) fun σ H Q ⟨w, env, S, r, e, q⟩ => ⟨w, env, S, r, e, (RP.bnd q).mono (fun d S1 h1 w1 H1 x l1 r1 p1 => by
    by_cases ht : tyD d S1 = some (.b "list")
    · rw [if_pos ht] at h1
      refine ⟨by rw [hK]; exact tyV_list r1 p1 ht, w1, env, S1, r1, e.mono l1, (RP.bnd h1).mono (fun y S2 h2 w2 H2 yv l2 r2 p2 => ?_) fun _ _ _ x => x.le l1⟩
      cases z : appM d y S2 with
      | none => rw [z] at h2; exact (show False from h2).elim
      | some S3 =>
        rw [z] at h2
        unfold appM at z
        split at z
        · split at z
          · rename_i n _ xs hS
            split at z
            · rename_i hl
              cases z
              cases p1.mono l2 with
              | ref hn =>
                obtain ⟨us, c1, c2⟩ := r2.cell _ _ _ hS hn
                refine ⟨_, us, yv, rfl, rfl, c1, by rw [sizeLine_eq, ← c2.length]; exact hl, ?_⟩
                exact h2 w2 _ _ (l1.trans l2) (r2.write hS hn (by intro z; cases z) ⟨_, upd_same, c2.append (.cons p2 .nil)⟩) .non
            · cases z
          · cases z
        · cases z
    · rw [if_neg ht] at h1
      exact (show False from h1).elim) fun _ _ _ x => x⟩
end Ro
end
section
set_option Elab.async false
set_option linter.all false
set_option maxRecDepth 100000
set_option maxHeartbeats 4000000
namespace Ro
open PySem PySem.Spec PyProof.Rows L2
variable {T : Tb} {E : XK} {X : Cx} {a b c e : Expr} {es : List Expr} {f g h : EX} {fa ga fk : AX} {fb gb : BX} {pos : Pos} {st : Stmt} {sts rest : List Stmt} {s t : ES}
mutual
def toPy : D → PyData
  | .bl b => .bool b
  | .int i => .int i
  | .str s => .str s
  | .tup l => .tuple (toPys l)
  | .lst l => .list (toPys l)
  | _ => .none
def toPys : List D → List PyData
  | [] => []
  | x :: l => toPy x :: toPys l
end
/-- plain, at most n deep -/
def plN : Nat → D → Bool
  | _, .non => true
  | _, .bl _ => true
  | _, .int _ => true
  | _, .str _ => true
  | n + 1, .tup l => l.all (plN n)
  | n + 1, .lst l => l.all (plN n)
  | _, _ => false
def plD : D → Bool := plN 8
theorem toPy_ok : ∀ (n : Nat) (d : D), plN n d = true → (toPy d).plain = true ∧ (toPy d).depth ≤ n
  | _, .non, _ => ⟨rfl, Nat.zero_le _⟩
  | _, .bl _, _ => ⟨rfl, Nat.zero_le _⟩
  | _, .int _, _ => ⟨rfl, Nat.zero_le _⟩
  | _, .str _, _ => ⟨rfl, Nat.zero_le _⟩
  | 0, .tup l, h => by simp [plN] at h
  | 0, .lst l, h => by simp [plN] at h
  | n + 1, .tup l, h => by
    have h' : ∀ x ∈ l, plN n x = true := by simpa [plN] using h
    have key : ∀ m : List D, (∀ x ∈ m, plN n x = true) → PyData.plainAll (toPys m) = true ∧ PyData.depthAll (toPys m) ≤ n := by
      intro m
      induction m with
      | nil => intro _; exact ⟨rfl, Nat.zero_le _⟩
      | cons x m ih =>
        intro hm
        obtain ⟨a1, a2⟩ := toPy_ok n x (hm x (by simp))
        obtain ⟨b1, b2⟩ := ih fun y hy => hm y (by simp [hy])
        exact ⟨by simp [toPys, PyData.plainAll, a1, b1], by simp only [toPys, PyData.depthAll]; omega⟩
    obtain ⟨k1, k2⟩ := key l h'
    exact ⟨by simpa [toPy, PyData.plain] using k1, by simp only [toPy, PyData.depth]; omega⟩
  | n + 1, .lst l, h => by
    have h' : ∀ x ∈ l, plN n x = true := by simpa [plN] using h
    have key : ∀ m : List D, (∀ x ∈ m, plN n x = true) → PyData.plainAll (toPys m) = true ∧ PyData.depthAll (toPys m) ≤ n := by
      intro m
      induction m with
      | nil => intro _; exact ⟨rfl, Nat.zero_le _⟩
      | cons x m ih =>
        intro hm
        obtain ⟨a1, a2⟩ := toPy_ok n x (hm x (by simp))
        obtain ⟨b1, b2⟩ := ih fun y hy => hm y (by simp [hy])
        exact ⟨by simp [toPys, PyData.plainAll, a1, b1], by simp only [toPys, PyData.depthAll]; omega⟩
    obtain ⟨k1, k2⟩ := key l h'
    exact ⟨by simpa [toPy, PyData.plain] using k1, by simp only [toPy, PyData.depth]; omega⟩
  | n, .dct l, h => by simp [plN] at h
  | n, .obj c l, h => by simp [plN] at h
  | n, .scr l, h => by simp [plN] at h
  | n, .ref c, h => by simp [plN] at h
  | n, .fn c, h => by simp [plN] at h
  | n, .thk c l, h => by simp [plN] at h
theorem dp_of {w : Wd} {S : Store} {H : Hp} (r : WR T w S H) : ∀ (n : Nat) (d : D) (x : V), plN n d = true → Rep T w d x → Dp T.K H x (toPy d)
  | _, .non, _, _, .non => .non
  | _, .bl _, _, _, .bl b => .bl b
  | _, .int _, _, _, .int i => .int i
  | _, .str _, _, _, .str s => .str s
  | 0, .tup _, _, h, _ => by simp [plN] at h
  | 0, .lst _, _, h, _ => by simp [plN] at h
  | n + 1, .tup l, _, h, .tup q q2 => by
    have h' : ∀ x ∈ l, plN n x = true := by simpa [plN] using h
    have key : ∀ (m : List D) (vs : List V), (∀ x ∈ m, plN n x = true) → Reps T w m vs → DpAll T.K H vs (toPys m) := by
      intro m
      induction m with
      | nil => intro vs _ z; cases z; exact .nil
      | cons x m ih =>
        intro vs hm z
        cases z with
        | cons z1 z2 => exact .cons (dp_of r n x _ (hm x (by simp)) z1) (ih _ (fun y hy => hm y (by simp [hy])) z2)
    exact .tup (sqt_sub r q) (key l _ h' q2)
  | n + 1, .lst l, _, h, .lst q q2 => by
    have h' : ∀ x ∈ l, plN n x = true := by simpa [plN] using h
    have key : ∀ (m : List D) (vs : List V), (∀ x ∈ m, plN n x = true) → Reps T w m vs → DpAll T.K H vs (toPys m) := by
      intro m
      induction m with
      | nil => intro vs _ z; cases z; exact .nil
      | cons x m ih =>
        intro vs hm z
        cases z with
        | cons z1 z2 => exact .cons (dp_of r n x _ (hm x (by simp)) z1) (ih _ (fun y hy => hm y (by simp [hy])) z2)
    exact .lst (.inl (.inl (r.sub _ _ q))) (key l _ h' q2)
  | n, .scr _, _, h, _ => by simp [plN] at h
  | n, .dct _, _, h, _ => by simp [plN] at h
  | n, .obj _ _, _, h, _ => by simp [plN] at h
  | n, .ref _, _, h, _ => by simp [plN] at h
  | n, .fn _, _, h, _ => by simp [plN] at h
  | n, .thk _ _, _, h, _ => by simp [plN] at h
theorem dpAll_of {w : Wd} {S : Store} {H : Hp} (r : WR T w S H) (n : Nat) : ∀ (m : List D) (vs : List V), m.all (plN n) = true → Reps T w m vs → DpAll T.K H vs (toPys m)
  | [], _, _, z => by cases z; exact .nil
  | x :: m, _, hm, z => by
    obtain ⟨h1, h2⟩ := Bool.and_eq_true_iff.mp (show (plN n x && m.all (plN n)) = true from hm)
    cases z with
    | cons z1 z2 => exact .cons (dp_of r n x _ h1 z1) (dpAll_of r n m _ h2 z2)
theorem toPys_ok {n : Nat} {l : List D} (h : l.all (plN n) = true) : PyData.plainAll (toPys l) = true ∧ PyData.depthAll (toPys l) ≤ n := by
  have z := toPy_ok (n + 1) (.tup l) h
  refine ⟨by simpa [toPy, PyData.plain] using z.1, ?_⟩
  have := z.2
  simp only [toPy, PyData.depth] at this
  omega
mutual
theorem eqv_py : ∀ (n : Nat) (d e : D), plN n d = true → plN n e = true → PyData.eqv (toPy d) (toPy e) = pyEq d e
  | n, .non, e, _, he => by cases e <;> simp_all [plN, toPy, PyData.eqv, pyEq]
  | n, .bl b, e, _, he => by
    cases e <;> simp_all [plN, toPy, PyData.eqv, pyEq]
    all_goals (try (cases b <;> simp <;> rfl))
  | n, .int i, e, _, he => by
    cases e <;> simp_all [plN, toPy, PyData.eqv, pyEq]
    all_goals (first | rfl | (rename_i b; cases b <;> simp <;> rfl))
  | n, .str s, e, _, he => by
    cases e <;> simp_all [plN, toPy, PyData.eqv, pyEq]
    all_goals rfl
  | 0, .tup l, e, h, he => by simp [plN] at h
  | 0, .lst l, e, h, he => by simp [plN] at h
  | n + 1, .tup l, e, h, he => by
    cases e with
    | tup m =>
      simp only [toPy, PyData.eqv, pyEq]
      exact eqvs_py n l m h he
    | _ => simp_all [plN, toPy, PyData.eqv, pyEq]
  | n + 1, .lst l, e, h, he => by
    cases e with
    | lst m =>
      simp only [toPy, PyData.eqv, pyEq]
      exact eqvs_py n l m h he
    | _ => simp_all [plN, toPy, PyData.eqv, pyEq]
  | n, .dct l, _, h, _ => by simp [plN] at h
  | n, .obj c l, _, h, _ => by simp [plN] at h
  | n, .scr l, _, h, _ => by simp [plN] at h
  | n, .ref c, _, h, _ => by simp [plN] at h
  | n, .fn c, _, h, _ => by simp [plN] at h
  | n, .thk c l, _, h, _ => by simp [plN] at h
theorem eqvs_py : ∀ (n : Nat) (l m : List D), l.all (plN n) = true → m.all (plN n) = true → PyData.eqvAll (toPys l) (toPys m) = pyEqs l m
  | _, [], [], _, _ => rfl
  | _, [], _ :: _, _, _ => rfl
  | _, _ :: _, [], _, _ => rfl
  | n, x :: l, y :: m, h1, h2 => by
    obtain ⟨a1, a2⟩ := Bool.and_eq_true_iff.mp (show (plN n x && l.all (plN n)) = true from h1)
    obtain ⟨b1, b2⟩ := Bool.and_eq_true_iff.mp (show (plN n y && m.all (plN n)) = true from h2)
    simp only [toPys, PyData.eqvAll, pyEqs]
    rw [eqv_py n x y a1 b1, eqvs_py n l m a2 b2]
end
def eqD (x y : D) : Option D := if plD x && plD y then some (.bl (pyEq x y)) else none
def neD (x y : D) : Option D := if plD x && plD y then some (.bl (!pyEq x y)) else none
theorem oi_eqP (hK : X.K = T.K) (hu : X.A.units + 64 < cLine) : OpR X (compareOp .Eq) (rOp T eqD) := fun pins s σ H x y v u Q I rx ry q => by
  obtain ⟨w, d, e, r, S, h1, h2, h3, h4, h5⟩ := q
  unfold eqD at h4
  split at h4
  · rename_i hp
    cases h4
    obtain ⟨p1, p2⟩ := Bool.and_eq_true_iff.mp hp
    obtain ⟨as, r1⟩ := Dp.reads I _ x v (by rw [hK]; exact dp_of h1 8 d x p1 h2) rx
    obtain ⟨bs, r2⟩ := Dp.reads I _ y u (by rw [hK]; exact dp_of h1 8 e y p2 h3) ry
    obtain ⟨k1, k2⟩ := toPy_ok 8 d p1
    obtain ⟨k3, k4⟩ := toPy_ok 8 e p2
    refine SeqAt.eq_plain r1 r2 k1 k3 (by omega) ⟨.bl _, H, I, rfl, ?_⟩
    rw [eqv_py 8 d e p1 p2]
    exact h5 w H _ (Wd.le.refl _) h1 (.bl _)
  · cases h4
theorem oi_neP (hK : X.K = T.K) (hu : X.A.units + 64 < cLine) : OpR X (compareOp .NotEq) (rOp T neD) := fun pins s σ H x y v u Q I rx ry q => by
  obtain ⟨w, d, e, r, S, h1, h2, h3, h4, h5⟩ := q
  unfold neD at h4
  split at h4
  · rename_i hp
    cases h4
    obtain ⟨p1, p2⟩ := Bool.and_eq_true_iff.mp hp
    obtain ⟨as, r1⟩ := Dp.reads I _ x v (by rw [hK]; exact dp_of h1 8 d x p1 h2) rx
    obtain ⟨bs, r2⟩ := Dp.reads I _ y u (by rw [hK]; exact dp_of h1 8 e y p2 h3) ry
    obtain ⟨k1, k2⟩ := toPy_ok 8 d p1
    obtain ⟨k3, k4⟩ := toPy_ok 8 e p2
    refine SeqAt.ne_plain r1 r2 k1 k3 (by omega) ⟨.bl _, H, I, rfl, ?_⟩
    rw [eqv_py 8 d e p1 p2]
    exact h5 w H _ (Wd.le.refl _) h1 (.bl _)
  · cases h4
def inL (x : D) (l : List D) : Bool := l.any fun y => pyEq y x
theorem any_py {n : Nat} {x : D} (hx : plN n x = true) : ∀ {l : List D}, l.all (plN n) = true → ((toPys l).any fun y => PyData.eqv y (toPy x)) = inL x l
  | [], _ => rfl
  | y :: l, h => by
    obtain ⟨h1, h2⟩ := Bool.and_eq_true_iff.mp (show (plN n y && l.all (plN n)) = true from h)
    show (PyData.eqv (toPy y) (toPy x) || (toPys l).any fun y => PyData.eqv y (toPy x)) = (pyEq y x || inL x l)
    rw [eqv_py n y x h1 hx, any_py hx h2]
def inD (x y : D) : Option D := match y with
  | .lst l => if plD x && l.all (plN 8) then some (.bl (inL x l)) else none
  | .tup l => if plD x && l.all (plN 8) then some (.bl (inL x l)) else none
  | _ => none
theorem oi_in (hK : X.K = T.K) (hu : X.A.units + 64 < cLine) : OpR X (compareOp .In) (rOp T inD) := fun pins s σ H x y v u Q I rx ry q => by
  obtain ⟨w, d, e, r, S, h1, h2, h3, h4, h5⟩ := q
  unfold inD at h4
  split at h4
  · split at h4
    · rename_i l hp
      cases h4
      obtain ⟨p1, p2⟩ := Bool.and_eq_true_iff.mp hp
      obtain ⟨as, r1⟩ := Dp.reads I _ x v (by rw [hK]; exact dp_of h1 8 d x p1 h2) rx
      obtain ⟨bs, r2⟩ := Dp.reads I _ y u (by rw [hK]; exact dp_of h1 9 (.lst l) y p2 h3) ry
      obtain ⟨k1, k2⟩ := toPy_ok 8 d p1
      obtain ⟨k3, k4⟩ := toPys_ok p2
      refine SeqAt.in_list_data (xs := toPys l) (by simpa only [toPy] using r2) r1 k3 k1 (by omega) ⟨.bl _, H, I, rfl, ?_⟩
      rw [any_py p1 p2]
      exact h5 w H _ (Wd.le.refl _) h1 (.bl _)
    · cases h4
  · split at h4
    · rename_i l hp
      cases h4
      obtain ⟨p1, p2⟩ := Bool.and_eq_true_iff.mp hp
      obtain ⟨as, r1⟩ := Dp.reads I _ x v (by rw [hK]; exact dp_of h1 8 d x p1 h2) rx
      obtain ⟨bs, r2⟩ := Dp.reads I _ y u (by rw [hK]; exact dp_of h1 9 (.tup l) y p2 h3) ry
      obtain ⟨k1, k2⟩ := toPy_ok 8 d p1
      obtain ⟨k3, k4⟩ := toPys_ok p2
      refine SeqAt.in_tuple_data (xs := toPys l) (by simpa only [toPy] using r2) r1 k3 k1 (by omega) ⟨.bl _, H, I, rfl, ?_⟩
      rw [any_py p1 p2]
      exact h5 w H _ (Wd.le.refl _) h1 (.bl _)
    · cases h4
  · cases h4
end Ro
end
section
set_option Elab.async false
set_option linter.all false
set_option maxRecDepth 100000
set_option maxHeartbeats 4000000
namespace Ro
open PySem PySem.Spec PyProof.Rows L2
variable {T : Tb} {E : XK} {X : Cx} {a b c e : Expr} {es : List Expr} {f g h : EX} {fa ga fk : AX} {fb gb : BX} {pos : Pos} {st : Stmt} {sts rest : List Stmt} {s t : ES}
def reprOk (d : D) : Bool := plD d && (toPy d).showable && decide ((toPy d).shown.length ≤ LINE)
def bRepr : List D → Option D
  | [x] => if reprOk x then some (.str (toPy x).shown) else none
  | _ => none
theorem noDict_plain : (∀ d : PyData, d.plain = true → d.hasDict = false) ∧ (∀ l : List PyData, PyData.plainAll l = true → PyData.hasDictAll l = false) := by
  have key : ∀ n : Nat, (∀ d : PyData, d.depth ≤ n → d.plain = true → d.hasDict = false) ∧ (∀ l : List PyData, PyData.depthAll l ≤ n → PyData.plainAll l = true → PyData.hasDictAll l = false) := by
    intro n
    induction n with
    | zero =>
      have h1 : ∀ d : PyData, d.depth ≤ 0 → d.plain = true → d.hasDict = false := by
        intro d hd hp
        cases d with
        | list xs => simp [PyData.depth] at hd
        | tuple xs => simp [PyData.depth] at hd
        | dict kvs => simp [PyData.plain] at hp
        | _ => rfl
      refine ⟨h1, fun l => ?_⟩
      induction l with
      | nil => intro _ _; rfl
      | cons x l ih =>
        intro hd hp
        simp only [PyData.depthAll] at hd
        simp only [PyData.plainAll, Bool.and_eq_true] at hp
        simp only [PyData.hasDictAll, h1 x (by omega) hp.1, ih (by omega) hp.2, Bool.or_self]
    | succ n ih =>
      obtain ⟨_, ih2⟩ := ih
      have h1 : ∀ d : PyData, d.depth ≤ n + 1 → d.plain = true → d.hasDict = false := by
        intro d hd hp
        cases d with
        | list xs =>
          simp only [PyData.depth] at hd
          simp only [PyData.plain] at hp
          simp only [PyData.hasDict, ih2 xs (by omega) hp]
        | tuple xs =>
          simp only [PyData.depth] at hd
          simp only [PyData.plain] at hp
          simp only [PyData.hasDict, ih2 xs (by omega) hp]
        | dict kvs => simp [PyData.plain] at hp
        | _ => rfl
      refine ⟨h1, fun l => ?_⟩
      induction l with
      | nil => intro _ _; rfl
      | cons x l ih =>
        intro hd hp
        simp only [PyData.depthAll] at hd
        simp only [PyData.plainAll, Bool.and_eq_true] at hp
        simp only [PyData.hasDictAll, h1 x (by omega) hp.1, ih (by omega) hp.2, Bool.or_self]
  exact ⟨fun d => (key d.depth).1 d (Nat.le_refl _), fun l => (key (PyData.depthAll l)).2 l (Nat.le_refl _)⟩
/-- repr by data -/
def rRepr (K : PySem.W.Frag) : List V → Hp → VK → Prop := fun vs H Q => ∃ x d, vs = [x] ∧ Dp K H x d ∧ d.plain = true ∧ d.depth ≤ 20 ∧ d.showable = true ∧ d.shown.length ≤ sizeLine ∧ Q (.str d.shown) H
theorem call_reprD (gd : X.A.guards = some []) (hu : X.A.units + 64 < cLine) : CallR X (.builtin "repr") (rRepr X.K) := by
  intro pins s σ H xs us Q I r h
  obtain ⟨x, d, rfl, hd, hp, hk, hs, hz, q⟩ := h
  obtain ⟨u, rfl, ru⟩ := Vals.one r
  cases hd with
  | non =>
    cases ru
    exact PySem.P.repr_of_none ⟨.str _, H, I.tok _, ⟨_, rfl⟩, q⟩
  | bl b =>
    cases ru
    exact PySem.P.repr_of_bool ⟨.str _, H, I.tok _, ⟨_, rfl⟩, q⟩
  | int i =>
    obtain ⟨t, rfl⟩ := ru
    exact PySem.P.repr_of_int (of_decide_eq_true hs) ⟨.str _, H, I.tok _, ⟨_, rfl⟩, q⟩
  | str z =>
    obtain ⟨t, rfl⟩ := ru
    exact PySem.P.repr_of_str ⟨.str _, H, I.tok _, ⟨_, rfl⟩, q⟩ hz
  | lst h1 h2 =>
    cases ru
    obtain ⟨as, rd⟩ := Dp.reads I _ _ (.ref _) (.lst h1 h2) rfl
    exact repr_of_reads' rd hs (PyData.noDict_hsm (noDict_plain.1 _ hp)) gd (by omega) (fun _ _ e => e) (fun h' u tk hk => ⟨.str _, H, I.kept hk, ⟨_, rfl⟩, q⟩) hz
  | tup h1 h2 =>
    cases ru
    obtain ⟨as, rd⟩ := Dp.reads I _ _ (.ref _) (.tup h1 h2) rfl
    exact repr_of_reads' rd hs (PyData.noDict_hsm (noDict_plain.1 _ hp)) gd (by omega) (fun _ _ e => e) (fun h' u tk hk => ⟨.str _, H, I.kept hk, ⟨_, rfl⟩, q⟩) hz
theorem bo_repr : BOk T (rRepr T.K) bRepr := fun w S xs vs H d Q r p h k => by
  unfold bRepr at h
  split at h
  · split at h
    · rename_i x hx
      cases h
      obtain ⟨v, rfl, p2⟩ := reps_one p
      unfold reprOk at hx
      simp only [Bool.and_eq_true, decide_eq_true_eq] at hx
      obtain ⟨k1, k2⟩ := toPy_ok 8 x hx.1.1
      exact ⟨v, _, rfl, dp_of r 8 x v hx.1.1 p2, k1, by omega, hx.1.2, by rw [sizeLine_eq]; exact hx.2, k w H _ (Wd.le.refl _) r (.str _)⟩
    · cases h
  · cases h
end Ro
end
section
set_option Elab.async false
set_option linter.all false
set_option maxRecDepth 100000
set_option maxHeartbeats 4000000
namespace Ro
open PySem PySem.Spec PyProof.Rows L2
structure Lw where
  glo : List String := []
  free : List String := []
  gins : List (String × Int) := []
  cls : List String := []
  noat : List (String × String) := []
  meth : List (String × String) := []
  mkr : List String := []
  isi : List String := []
  kit : List (Ty × Ty) := []
  tups : List (String × List He.Dv) := []
  defs : List He.DefD := []
  fas : List He.Fa := []
  exk : List String := []
  kix : List (String × Ty × Bool) := []
  tf : List (He.Defn × String) := []
  bs : List (PySem.W.Frag → Bool) := []
  gstrs : List (String × String) := []
/-- what isinstance asks of an exception's class -/
structure ExC (K : PySem.W.Frag) (C : Addr) : Prop where
  cl : (PySem.W.clsIn K C).isSome = true
  ga : PySem.W.findIn K (.ref C) "__getattribute__" = some (some (.builtin "BaseException.__getattribute__"))
  gt : ∃ g, PySem.W.findIn K (.ref C) "__getattr__" = some g
  sb : PySem.W.subIn K (.ref C) (.type "BaseException") = some true
  ca : PySem.W.findIn K (.ref C) "__class__" = some (some (.builtin "object.__class__"))
  sp : PySem.W.specialIn K (.builtin "object.__class__") "__get__" = some (some (.builtin "getset_descriptor.__get__"))
  tk : PySem.W.takesIn K (.builtin "object.__class__") = some true
  mr : PySem.W.mroIn K C (.type "object") = some true
def exCB (K : PySem.W.Frag) (C : Addr) : Bool :=
  (PySem.W.clsIn K C).isSome && (decide (PySem.W.findIn K (.ref C) "__getattribute__" = some (some (.builtin "BaseException.__getattribute__"))) && ((PySem.W.findIn K (.ref C) "__getattr__").isSome && (decide (PySem.W.subIn K (.ref C) (.type "BaseException") = some true) &&
  (decide (PySem.W.findIn K (.ref C) "__class__" = some (some (.builtin "object.__class__"))) && (decide (PySem.W.specialIn K (.builtin "object.__class__") "__get__" = some (some (.builtin "getset_descriptor.__get__"))) && (decide (PySem.W.takesIn K (.builtin "object.__class__") = some true) && decide (PySem.W.mroIn K C (.type "object") = some true)))))))
theorem exC_of {K : PySem.W.Frag} {C : Addr} (h : exCB K C = true) : ExC K C := by
  unfold exCB at h
  simp only [Bool.and_eq_true, decide_eq_true_eq] at h
  obtain ⟨h1, h2, h3, h4, h5, h6, h7, h8⟩ := h
  exact ⟨h1, h2, Option.isSome_iff_exists.mp h3, h4, h5, h6, h7, h8⟩
def isiB (K : PySem.W.Frag) (x : String) : Bool := (He.Fa.cls (x : Str)).ok K && (He.eqO (PySem.W.findIn K (.ref (He.ga K (x : Str))) "__class__") (some (some (.builtin "object.__class__"))) && (He.eqO (PySem.W.specialIn K (.builtin "object.__class__") "__get__") (some (some (.builtin "getset_descriptor.__get__"))) &&
  (decide (PySem.W.takesIn K (.builtin "object.__class__") = some true) && decide (PySem.W.mroIn K (He.ga K (x : Str)) (.type "object") = some true))))
def Lw.ok (L : Lw) (K : PySem.W.Frag) : Bool :=
  L.glo.all (fun x => (He.Fa.glo (x : Str)).ok K) && (L.free.all (fun x => (He.Fa.free (x : Str)).ok K) && (L.gins.all (fun p => (He.Fa.int (p.1 : Str) p.2).ok K) && (L.cls.all (fun x => (He.Fa.cls (x : Str)).ok K) &&
  (L.noat.all (fun p => (He.Fa.noat (p.1 : Str) (p.2 : Str)).ok K) && (L.meth.all (fun p => (He.Fa.meth (p.1 : Str) (p.2 : Str)).ok K) && (L.mkr.all (fun x => (He.Fa.mkr (x : Str)).ok K) &&
  (L.isi.all (fun x => isiB K x) && (L.kit.all (fun p => decide (PySem.W.kitOne K (tyV' K p.1) (tyV' K p.2) = some (subTy p.1 p.2))) && (L.tups.all (fun p => He.tupB K (p.1 : Str) p.2) && (L.defs.all (fun d => d.ok K) &&
  (L.fas.all (fun f => f.ok K) && (L.exk.all (fun x => exCB K (He.ga K (x : Str))) && (L.kix.all (fun p => decide (PySem.W.kitOne K (.ref (He.ga K (p.1 : Str))) (tyV' K p.2.1) = some p.2.2)) && (decide ((L.tf.map fun p => (He.cT K p.1).2).Nodup) && (L.bs.all (fun b => b K) && L.gstrs.all (fun p => (He.Fa.str (p.1 : Str) (p.2 : Str)).ok K))))))))))))))))
/-- the head's facts -/
structure Fx (T : Tb) (mg : Str → Option Value) (L : Lw) : Prop where
  glo : ∀ x ∈ L.glo, mg (x : Str) = some (.ref (He.ga T.K (x : Str)))
  free : ∀ x ∈ L.free, mg (x : Str) = none
  gins : ∀ p ∈ L.gins, ∃ t, mg (p.1 : Str) = some (.int p.2 t)
  cls : ∀ x ∈ L.cls, Cls T.K (He.ga T.K (x : Str))
  noat : ∀ p ∈ L.noat, NoAttr T.K (He.ga T.K (p.1 : Str)) (p.2 : Str)
  meth : ∀ p ∈ L.meth, Meth T.K (He.ga T.K (p.1 : Str)) (p.2 : Str) (He.ma T.K (He.ga T.K (p.1 : Str)) (p.2 : Str))
  mkr : ∀ x ∈ L.mkr, Mk T.K (He.ga T.K (x : Str)) (He.ma T.K (He.ga T.K (x : Str)) "__init__")
  isi : ∀ x ∈ L.isi, IsiC T.K (He.ga T.K (x : Str))
  kit : ∀ p ∈ L.kit, PySem.W.kitOne T.K (tyV' T.K p.1) (tyV' T.K p.2) = some (subTy p.1 p.2)
  tups : ∀ p ∈ L.tups, He.tupB T.K (p.1 : Str) p.2 = true
  defs : ∀ (i : Nat) d, L.defs[i]? = some d → ∃ fd, FunD T.K d.name d.qual d.params d.body d.scope (d.dvs T.K) (d.kws T.K) (He.fAd T.K d.at_) fd
  fas : ∀ f ∈ L.fas, f.ok T.K = true
  exk : ∀ x ∈ L.exk, ExC T.K (He.ga T.K (x : Str))
  kix : ∀ p ∈ L.kix, PySem.W.kitOne T.K (.ref (He.ga T.K (p.1 : Str))) (tyV' T.K p.2.1) = some p.2.2
  tfn : (L.tf.map fun p => (He.cT T.K p.1).2).Nodup
  bs : ∀ b ∈ L.bs, b T.K = true
  gstrs : ∀ p ∈ L.gstrs, ∃ t, mg (p.1 : Str) = some (.str (p.2 : Str) t)
theorem isi_of {K : PySem.W.Frag} {x : String} (h : isiB K x = true) : IsiC K (He.ga K (x : Str)) := by
  obtain ⟨h1, h⟩ := He.ba h
  obtain ⟨h2, h⟩ := He.ba h
  obtain ⟨h3, h⟩ := He.ba h
  obtain ⟨h4, h5⟩ := He.ba h
  exact ⟨He.cls_ok h1, He.eqO_ok h2, He.eqO_ok h3, of_decide_eq_true h4, of_decide_eq_true h5⟩
/-- the head's watch -/
def obL (L : Lw) (K : PySem.W.Frag) : He.AlD := (L.ok K, L.defs.map fun d => He.fnW K d.at_)
theorem fx_of {T : Tb} {L : Lw} {h : Heap} {mg : Str → Option Value} (X : T.K.In h) (G : h.Ns mainGlobals mg) (c : obL L T.K = (true, L.defs.map He.DefD.val)) : Fx T mg L := by
  have c1 : L.ok T.K = true := congrArg (fun z : He.AlD => z.1) c
  have c2 : (L.defs.map fun d => He.fnW T.K d.at_) = L.defs.map He.DefD.val := congrArg (fun z : He.AlD => z.2) c
  obtain ⟨h1, c1⟩ := He.ba c1
  obtain ⟨h2, c1⟩ := He.ba c1
  obtain ⟨h3, c1⟩ := He.ba c1
  obtain ⟨h4, c1⟩ := He.ba c1
  obtain ⟨h5, c1⟩ := He.ba c1
  obtain ⟨h6, c1⟩ := He.ba c1
  obtain ⟨h7, c1⟩ := He.ba c1
  obtain ⟨h8, c1⟩ := He.ba c1
  obtain ⟨h9, c1⟩ := He.ba c1
  obtain ⟨h10, c1⟩ := He.ba c1
  obtain ⟨h11, c1⟩ := He.ba c1
  obtain ⟨h12, c1⟩ := He.ba c1
  obtain ⟨h13, c1⟩ := He.ba c1
  obtain ⟨h14, c1⟩ := He.ba c1
  obtain ⟨h15, c1⟩ := He.ba c1
  obtain ⟨h16, h17⟩ := He.ba c1
  rw [List.all_eq_true] at h1 h2 h3 h4 h5 h6 h7 h8 h9 h10 h11 h12 h13 h14 h16 h17
  refine ⟨fun x hx => He.glo_ok X G (h1 x hx), fun x hx => He.free_ok X G (h2 x hx), fun p hp => He.int_ok X G (h3 p hp), fun x hx => He.cls_ok (h4 x hx), fun p hp => He.noat_ok (h5 p hp), fun p hp => He.meth_ok (h6 p hp), fun x hx => He.mkr_ok (h7 x hx), fun x hx => isi_of (h8 x hx), fun p hp => of_decide_eq_true (h9 p hp), h10, fun i d hd => ?_, h12, fun x hx => exC_of (h13 x hx), fun p hp => of_decide_eq_true (h14 p hp), of_decide_eq_true h15, h16, fun p hp => He.str_ok X G (h17 p hp)⟩
  have e : (L.defs.map fun d => He.fnW T.K d.at_)[i]? = (L.defs.map He.DefD.val)[i]? := by rw [c2]
  rw [List.getElem?_map, List.getElem?_map, hd] at e
  exact He.DefD.funD (Option.some.inj e) (h11 d (List.mem_of_getElem? hd))
section
variable {T : Tb} {mg : Str → Option Value} {L : Lw}
theorem Fx.g (F : Fx T mg L) (x : String) (h : x ∈ L.glo := by decide +kernel) : mg (x : Str) = some (.ref (He.ga T.K (x : Str))) := F.glo x h
theorem Fx.f (F : Fx T mg L) (x : String) (h : x ∈ L.free := by decide +kernel) : mg (x : Str) = none := F.free x h
theorem Fx.i (F : Fx T mg L) (x : String) (i : Int) (h : (x, i) ∈ L.gins := by decide +kernel) : ∃ t, mg (x : Str) = some (.int i t) := F.gins (x, i) h
theorem Fx.c (F : Fx T mg L) (x : String) (h : x ∈ L.cls := by decide +kernel) : Cls T.K (He.ga T.K (x : Str)) := F.cls x h
theorem Fx.mk' (F : Fx T mg L) (x : String) (h : x ∈ L.mkr := by decide +kernel) : Mk T.K (He.ga T.K (x : Str)) (He.ma T.K (He.ga T.K (x : Str)) "__init__") := F.mkr x h
theorem Fx.tp (F : Fx T mg L) (i : Nat) {x : String} {l : List He.Dv} (h : L.tups[i]? = some (x, l) := by rfl) : He.tupB T.K (x : Str) l = true := F.tups (x, l) (List.mem_of_getElem? h)
theorem Fx.at' (F : Fx T mg L) (cs : List String) (f : String) (h : cs.all (fun c => L.cls.contains c && L.noat.contains (c, f)) = true := by decide +kernel) : ∀ c ∈ cs, Cls T.K (He.ga T.K (c : Str)) ∧ NoAttr T.K (He.ga T.K (c : Str)) (f : Str) := fun c hc => by
  have z := List.all_eq_true.mp h c hc
  obtain ⟨h1, h2⟩ := Bool.and_eq_true_iff.mp z
  exact ⟨F.cls c (by simpa using h1), F.noat (c, f) (by simpa using h2)⟩
theorem Fx.is' (F : Fx T mg L) (tys : List Ty) (h : tys.all (fun t => match t with | .o c => L.isi.contains c | _ => true) = true := by decide +kernel) : ∀ t ∈ tys, ∀ c, t = .o c → IsiC T.K (He.ga T.K (c : Str)) := fun t ht c e => by
  subst e
  have z := List.all_eq_true.mp h _ ht
  exact F.isi c (by simpa using z)
theorem Fx.fa (F : Fx T mg L) (i : Nat) {f : He.Fa} (h : L.fas[i]? = some f := by rfl) : f.ok T.K = true := F.fas f (List.mem_of_getElem? h)
theorem Fx.b (F : Fx T mg L) (i : Nat) {b : PySem.W.Frag → Bool} (h : L.bs[i]? = some b := by rfl) : b T.K = true := F.bs b (List.mem_of_getElem? h)
theorem Fx.s (F : Fx T mg L) (x z : String) (h : (x, z) ∈ L.gstrs := by decide +kernel) : ∃ t, mg (x : Str) = some (.str (z : Str) t) := F.gstrs (x, z) h
theorem Fx.ki (F : Fx T mg L) (tys : List Ty) (t : Ty) (h : tys.all (fun x => decide ((x, t) ∈ L.kit)) = true := by decide +kernel) : ∀ x ∈ tys, PySem.W.kitOne T.K (tyV' T.K x) (tyV' T.K t) = some (subTy x t) := fun x hx => F.kit (x, t) (of_decide_eq_true (List.all_eq_true.mp h x hx))
end
variable {T : Tb} {E : XK} {X : Cx} {pos : Pos}
theorem ie_gint {x : Str} {i : Int} (hg : Gl X x) (hm : ∃ t, X.mg x = some (.int i t)) (hd : (x == ("__debug__" : Str)) = false := by decide +kernel) : IE T E X (.Name x pos) (eC (.int i)) := by
  obtain ⟨t, e⟩ := hm
  exact ie_glob (v := .int i) hg e ⟨t, rfl⟩ (fun _ => .int i) hd
theorem ie_gtup {x : Str} {l : List He.Dv} (hg : Gl X x) (hm : X.mg x = some (.ref (He.ga T.K x))) (ht : He.tupB T.K x l = true) (hl : l.all dvOk = true) (hd : (x == ("__debug__" : Str)) = false := by decide +kernel) : IE T E X (.Name x pos) (eC (.tup (l.map dvD))) :=
  ie_glob (v := .ref (He.ga T.K x)) hg hm rfl (fun w => .tup (He.tupB_ok ht w.G) (reps_dfl hl)) hd
theorem hu1 {k : Nat} {A : Around} (hr : RG k A) : A.units + 1 < cLine := by
  have := hr.rm.units
  omega
def sBad : ES := fun _ _ => .bad
theorem is_bad {st : Stmt} : IS T E X st sBad := ⟨fun pins s σ H Q I q => by obtain ⟨w, env, S, r, e, q⟩ := q; exact (show False from q).elim⟩
/-- whose exceptions leave -/
theorem tk_cx {P : Program} {w : World} {K : PySem.W.Frag} {mg : Str → Option Value} {base : Heap} {N : List Str} {qual : Str} {scope : Scope} {fp : Addr} {cd : Value} {A : Around} {outer : List PySem.Env} {s : Shared} {H : Hp} {E : XK} :
    Takes (cxOf (L2.CX P w) P w K mg base N qual scope fp cd A outer s H E) (fun c d _ H => E c d H) := takes_of rfl rfl rfl rfl
theorem tk_no {X : Cx} : Takes X (fun c d _ H => E00 c d H) := fun _ _ ⟨_, _, _, _, _, _, _, _, _, _, _, _, _, _, _, _, w⟩ => w.elim
end Ro
end
section
set_option Elab.async false
set_option linter.all false
set_option maxRecDepth 100000
set_option maxHeartbeats 4000000
namespace Ro
open PySem PySem.Spec PyProof.Rows L2
variable {T : Tb} {E : XK} {X : Cx} {a b c e : Expr} {es : List Expr} {f g h : EX} {fa ga fk : AX} {fb gb : BX} {pos : Pos} {st : Stmt} {sts rest : List Stmt} {s t : ES}
theorem ie_v (i : Nat) {x : Str} (hN : X.N[i]? = some x := by rfl) (hv : Vis X.env.scope x := by first | exact .inl rfl | exact .inr (.inl rfl) | exact .inr (.inr rfl)) (hd : (x == ("__debug__" : Str)) = false := by decide +kernel) (hcd : (x == ("__classdict__" : Str)) = false := by decide +kernel) : IE T E X (.Name x pos) (eVar i) := ie_var hN hv hd hcd
theorem ig_n {vs : List Nat} (i : Nat) {x : Str} (hN : X.N.Nodup) (hi : X.N[i]? = some x := by rfl) (hx : Loc X.env.scope x := by first | exact .inl rfl | exact .inr rfl) (hv : i ∈ vs := by decide) (hf : X.fn x = true ∨ X.env.scope.names.lookup x = some .local := by first | exact .inl rfl | exact .inr rfl) : IG T X vs (.Name x pos) (pName i) := ig_name hN hi hx hv hf
theorem is_st (i : Nat) {x : Str} {p' : Pos} (hN : X.N.Nodup) (he : IE T E X a f) (hi : X.N[i]? = some x := by rfl) (hx : Loc X.env.scope x := by first | exact .inl rfl | exact .inr rfl) (hs : swapsWith a (some (.Name x p')) pos.line X.env = pure false := by rfl) (hf : X.fn x = true ∨ X.env.scope.names.lookup x = some .local := by first | exact .inl rfl | exact .inr rfl) :
    IS T E X (.Assign [.Name x p'] a pos) (sSet i f) := is_set hN hi hx he hs hf
def allN (n : Nat) : List Nat := List.range n
theorem len_nil : ∀ ds env e, pNil ds env = some e → ds.length = 0 := fun ds env e h => by
  cases ds with
  | nil => rfl
  | cons _ _ => cases h
theorem len_cons {p : Pat} {r : List D → Env → Option Env} {n : Nat} (k : ∀ ds env e, r ds env = some e → ds.length = n) : ∀ ds env e, pCons p r ds env = some e → ds.length = n + 1 := fun ds env e h => by
  cases ds with
  | nil => cases h
  | cons d ds =>
    have h : (p d env).bind (fun e => r ds e) = some e := h
    cases z : p d env with
    | none => rw [z] at h; cases h
    | some e1 =>
      rw [z] at h
      rw [List.length_cons, k ds e1 e h]
def blkB (N : List Str) (sc scope : Scope) (own : List (Str × Nat)) : Bool :=
  decide (scope.kind = .function) && (scope.names.all (fun y => decide (scope.names.lookup y.1 = some y.2)) && (own.all (fun p => decide (N[p.2]? = some p.1)) &&
  (scope.names.all (fun y => !decide (y.2 = .free) || (decide (sc.names.lookup y.1 = some .cell) || decide (sc.names.lookup y.1 = some .free))) &&
  scope.names.all (fun y => !(decide (y.2 = .local) || decide (y.2 = .cell)) || ((own.map (·.1)).contains y.1 || !N.contains y.1)))))
theorem blk_by {N : List Str} {sc scope : Scope} {own : List (Str × Nat)} (h : blkB N sc scope own = true) : BlkOk N sc scope own := by
  unfold blkB at h
  simp only [Bool.and_eq_true, List.all_eq_true, decide_eq_true_eq, Bool.or_eq_true, Bool.not_eq_true', decide_eq_false_iff_not, Bool.or_eq_false_iff] at h
  obtain ⟨h1, h2, h3, h4, h5⟩ := h
  refine ⟨h1, h2, h3, fun y hy e => ?_, fun y hy e => ?_⟩
  · rcases h4 y hy with z | z
    · exact absurd e z
    · exact z
  · rcases h5 y hy with z | z | z
    · rcases e with e | e
      · exact absurd e z.1
      · exact absurd e z.2
    · exact .inl (by simpa using z)
    · exact .inr (by simpa using z)
def idxA (x y : D) (S : Store) : Option D := match x with
  | .ref _ => idxM x y S
  | _ => idxD x y
def eIdxA (a b : EX) : EX := fun env S => (a env S).bnd fun x S1 => (b env S1).bnd fun y S2 => lift (idxA x y S2) S2
theorem PE.byOk {X : Cx} {e : Expr} {f g h : EX} (hg : IE T E X e g) (hh : IE T E X e h) (k : ∀ env S, f env S = g env S ∨ f env S = h env S) : IE T E X e f := ⟨fun pins s σ H Q I q => by
  obtain ⟨w, env, S, r, e, q⟩ := q
  rcases k env S with z | z
  · exact hg.run pins s σ H Q I ⟨w, env, S, r, e, by rw [← z]; exact q⟩
  · exact hh.run pins s σ H Q I ⟨w, env, S, r, e, by rw [← z]; exact q⟩⟩
/-- by the value's kind -/
theorem ie_idxA (hK : X.K = T.K) (ha : IE T E X a f) (hb : IE T E X b g) (hs : PlainIx b := by exact fun _ _ => rfl) : IE T E X (.Subscript a b pos) (eIdxA f g) :=
  PE.byOk (ie_idx hK ha hb hs) (ie_idxM hK ha hb hs) fun env S => by
    unfold eIdxA eIdx eIdxM eOp
    cases z : f env S with
    | ok x S1 =>
      cases x with
      | ref n => exact .inr rfl
      | _ => exact .inl rfl
    | err c fs S1 => exact .inl rfl
    | bad => exact .inl rfl
def itAny (f : EX) : AX := fun env S => (f env S).bnd fun d S1 => match d with
  | .lst l => .ok l S1
  | .tup l => .ok l S1
  | .str s => .ok (s.cps.toList.map fun c => .str ⟨#[c]⟩) S1
  | _ => .bad
/-- a text's signs -/
def itTxt (f : EX) : AX := fun env S => (f env S).bnd fun d S1 => match d with
  | .str s => .ok (s.cps.toList.map fun c => .str ⟨#[c]⟩) S1
  | _ => .bad
theorem itR_str {w : Wd} {z : Str} : ItR T w (z.cps.toList.map fun c => .str ⟨#[c]⟩) (Its z) where
  goS := fun i H w' S l1 r1 hi => by
    rw [List.length_map] at hi
    exact hi
  stopS := fun i H w' S l1 r1 hi => by
    rw [List.length_map] at hi
    exact hi
  yldS := fun i H x H' w' S d l1 r1 hd y => by
    obtain ⟨rfl, c, e, rfl⟩ := y
    rw [List.getElem?_map, Array.getElem?_toList, e] at hd
    cases hd
    exact ⟨w', Wd.le.refl _, r1, .str _⟩
theorem ii_txt {tg : Expr} (h : IE T E X a f) : II T E X tg a (itTxt f) :=
  PI.mono (pi_str h) fun σ H Rr ⟨w, env, S, r, e, q⟩ => ⟨w, env, S, r, e, (RP.bnd q).mono (fun d S1 h1 w1 H1 v l1 r1 p1 => by
    cases p1 with
    | str s => exact ⟨s, rfl, h1 w1 H1 _ l1 r1 itR_str⟩
    | _ => exact (show False from h1).elim) fun _ _ _ x => x⟩
theorem ii_any {tg : Expr} (hK : X.K = T.K) (h : IE T E X a f) : II T E X tg a (itAny f) := ⟨fun pins s σ H R I q => by
  obtain ⟨w, env, S, r, e, q⟩ := q
  by_cases z : ∃ l S1, f env S = .ok (.tup l) S1
  · obtain ⟨l, S1, z⟩ := z
    refine (ii_tup (tg := tg) hK h).run pins s σ H R I ⟨w, env, S, r, e, ?_⟩
    unfold itTup
    unfold itAny at q
    rw [z] at q ⊢
    exact q
  by_cases z2 : ∃ l S1, f env S = .ok (.str l) S1
  · obtain ⟨l, S1, z2⟩ := z2
    refine (ii_txt (tg := tg) h).run pins s σ H R I ⟨w, env, S, r, e, ?_⟩
    unfold itTxt
    unfold itAny at q
    rw [z2] at q ⊢
    exact q
  · refine (ii_lst (tg := tg) hK h).run pins s σ H R I ⟨w, env, S, r, e, ?_⟩
    unfold itSeq
    unfold itAny at q
    cases y : f env S with
    | ok d S1 =>
      rw [y] at q
      cases d with
      | tup l => exact absurd ⟨l, S1, y⟩ z
      | str l => exact absurd ⟨l, S1, y⟩ z2
      | _ => exact q
    | err c fs S1 => rw [y] at q; exact q
    | bad => rw [y] at q; exact q⟩
def zipL : List D → List D → List D
  | x :: l, y :: m => .tup [x, y] :: zipL l m
  | _, _ => []
theorem zipL_get : ∀ (l m : List D) (i : Nat), (zipL l m)[i]? = (match l[i]?, m[i]? with
    | some x, some y => some (.tup [x, y])
    | _, _ => none)
  | [], m, i => by simp [zipL]
  | x :: l, [], i => by
    simp [zipL]
  | x :: l, y :: m, 0 => by simp [zipL]
  | x :: l, y :: m, i + 1 => by simpa [zipL] using zipL_get l m i
theorem zipL_len : ∀ (l m : List D), (zipL l m).length = min l.length m.length
  | [], m => by simp [zipL]
  | x :: l, [] => by simp [zipL]
  | x :: l, y :: m => by simp [zipL, zipL_len l m]
theorem itR_zipL {w : Wd} {l m : List D} {p q : Addr} {vs us : List V} (h1 : SqL T.K w.G p vs) (r1 : Reps T w l vs) (h2 : SqL T.K w.G q us) (r2 : Reps T w m us) : ItR T w (zipL l m) (Itz T.K p q) where
  goS := fun i H w' S l1 r hi => by
    rw [zipL_len] at hi
    obtain ⟨x, e1, _⟩ := r1.get (List.getElem?_eq_getElem (show i < l.length by omega))
    obtain ⟨y, e2, _⟩ := r2.get (List.getElem?_eq_getElem (show i < m.length by omega))
    exact ⟨vs, us, x, y, sql_sub r (sql_le l1 h1), sql_sub r (sql_le l1 h2), e1, e2⟩
  stopS := fun i H w' S l1 r hi => by
    rw [zipL_len, r1.length, r2.length] at hi
    exact ⟨vs, us, sql_sub r (sql_le l1 h1), sql_sub r (sql_le l1 h2), by omega⟩
  yldS := fun i H v H' w' S d l1 r hd y => by
    obtain ⟨A, x, z, rfl, hA, rfl, k1, k2⟩ := y
    rw [zipL_get] at hd
    have e1 := k1 vs (sql_sub r (sql_le l1 h1))
    have e2 := k2 us (sql_sub r (sql_le l1 h2))
    cases y1 : l[i]? with
    | none => rw [y1] at hd; cases hd
    | some d1 =>
      rw [y1] at hd
      cases y2 : m[i]? with
      | none => rw [y2] at hd; cases hd
      | some d2 =>
        rw [y2] at hd
        cases hd
        obtain ⟨x', g1, g2⟩ := r1.get y1
        obtain ⟨z', g3, g4⟩ := r2.get y2
        rw [e1] at g1; cases g1
        rw [e2] at g3; cases g3
        obtain ⟨l2, r2'⟩ := r.new hA (.tup [x, z])
        exact ⟨_, l2, r2', .tup (.inl (.inl upd_same)) (.cons ((g2.monoS l1).mono l2) (.cons ((g4.monoS l1).mono l2) .nil))⟩
theorem itR_zipT {w : Wd} {l m : List D} {p q : Addr} {vs us : List V} (h1 : SqT T.K w.G p vs) (r1 : Reps T w l vs) (h2 : SqT T.K w.G q us) (r2 : Reps T w m us) : ItR T w (zipL l m) (RZ.ItzT T.K p q) where
  goS := fun i H w' S l1 r hi => by
    rw [zipL_len] at hi
    obtain ⟨x, e1, _⟩ := r1.get (List.getElem?_eq_getElem (show i < l.length by omega))
    obtain ⟨y, e2, _⟩ := r2.get (List.getElem?_eq_getElem (show i < m.length by omega))
    exact ⟨vs, us, x, y, sqt_sub r (sqt_le l1 h1), sqt_sub r (sqt_le l1 h2), e1, e2⟩
  stopS := fun i H w' S l1 r hi => by
    rw [zipL_len, r1.length, r2.length] at hi
    exact ⟨vs, us, sqt_sub r (sqt_le l1 h1), sqt_sub r (sqt_le l1 h2), by omega⟩
  yldS := fun i H v H' w' S d l1 r hd y => by
    obtain ⟨A, x, z, rfl, hA, rfl, k1, k2⟩ := y
    rw [zipL_get] at hd
    have e1 := k1 vs (sqt_sub r (sqt_le l1 h1))
    have e2 := k2 us (sqt_sub r (sqt_le l1 h2))
    cases y1 : l[i]? with
    | none => rw [y1] at hd; cases hd
    | some d1 =>
      rw [y1] at hd
      cases y2 : m[i]? with
      | none => rw [y2] at hd; cases hd
      | some d2 =>
        rw [y2] at hd
        cases hd
        obtain ⟨x', g1, g2⟩ := r1.get y1
        obtain ⟨z', g3, g4⟩ := r2.get y2
        rw [e1] at g1; cases g1
        rw [e2] at g3; cases g3
        obtain ⟨l2, r2'⟩ := r.new hA (.tup [x, z])
        exact ⟨_, l2, r2', .tup (.inl (.inl upd_same)) (.cons ((g2.monoS l1).mono l2) (.cons ((g4.monoS l1).mono l2) .nil))⟩
def itZip (fa : AX) : AX := fun env S => (fa env S).bnd fun ds S1 => match ds with
  | [.lst l, .lst m] => .ok (zipL l m) S1
  | [.tup l, .tup m] => .ok (zipL l m) S1
  | _ => .bad
theorem ii_zip {p tpos : Pos} {elts : List Expr} {kk : Nat} (hK : X.K = T.K) (hg : Gl X "zip") (hm : X.mg "zip" = none) (ha : IA T E X [a, b] fa)
    (hs : starEach [a, b] X.env = (false, eval a X.env) :: starEach [b] X.env := by rfl) (hpl : (backTo pos (starEach [b] X.env)).any (·.1) = false := by rfl) : II T E X (.Tuple elts kk tpos) (.Call (.Name "zip" p) [a, b] [] pos) (itZip fa) :=
  PI.mono (RZ.pi_zipA hg hm ha hs hpl) fun σ H R ⟨w, env, S, r, e, q⟩ => ⟨w, env, S, r, e, (RP.bnd q).mono (fun ds S1 h1 w1 H1 vs l1 r1 p1 => by
    split at h1
    · obtain ⟨u, v, rfl, p2, q2⟩ := reps_two p1
      cases p2 with
      | lst a1 a2 =>
        cases q2 with
        | lst b1 b2 =>
          refine ⟨_, _, _, _, rfl, .inl ⟨.inl (.inl (r1.sub _ _ a1)), .inl (.inl (r1.sub _ _ b1)), ?_⟩⟩
          rw [hK]
          exact h1 w1 H1 _ l1 r1 (itR_zipL (.inl (.inl a1)) a2 (.inl (.inl b1)) b2)
    · obtain ⟨u, v, rfl, p2, q2⟩ := reps_two p1
      cases p2 with
      | tup a1 a2 =>
        cases q2 with
        | tup b1 b2 =>
          refine ⟨_, _, _, _, rfl, .inr ⟨by rw [hK]; exact sqt_sub r1 a1, by rw [hK]; exact sqt_sub r1 b1, ?_⟩⟩
          rw [hK]
          exact h1 w1 H1 _ l1 r1 (itR_zipT a1 a2 b1 b2)
    · exact (show False from h1).elim) fun _ _ _ x => x⟩
def bLenA : List D → Option D := fun xs => match xs with
  | [.dct _] => none
  | _ => bLen xs
theorem bo_lenA : BOk T (rLenH T.K) bLenA := bo_len
def dBls : List D → Option (List Bool)
  | [] => some []
  | .bl b :: l => (dBls l).map (b :: ·)
  | _ :: _ => none
theorem reps_bls {w : Wd} : ∀ {l : List D} {vs : List V} {ys : List Bool}, Reps T w l vs → dBls l = some ys → vs = ys.map V.bl
  | [], _, _, .nil, h => by cases h; rfl
  | d :: l, _, _, .cons q r, h => by
    cases q with
    | bl b =>
      cases z : dBls l with
      | none => rw [dBls, z] at h; cases h
      | some ys =>
        rw [dBls, z] at h
        cases h
        rw [reps_bls r z]
        rfl
    | _ => cases h
def dInts : List D → Option (List Int)
  | [] => some []
  | .int b :: l => (dInts l).map (b :: ·)
  | _ :: _ => none
theorem reps_ints {w : Wd} : ∀ {l : List D} {vs : List V} {ys : List Int}, Reps T w l vs → dInts l = some ys → vs = ys.map V.int
  | [], _, _, .nil, h => by cases h; rfl
  | d :: l, _, _, .cons q r, h => by
    cases q with
    | int b =>
      cases z : dInts l with
      | none => rw [dInts, z] at h; cases h
      | some ys =>
        rw [dInts, z] at h
        cases h
        rw [reps_ints r z]
        rfl
    | _ => cases h
def bAll : List D → Option D
  | [.lst l] => (dBls l).map fun bs => .bl (bs.all id)
  | _ => none
theorem bo_all : BOk T (rAll T.K) bAll := fun w S xs vs H d Q r p h k => by
  unfold bAll at h
  split at h
  · rename_i l
    cases z : dBls l with
    | none => rw [z] at h; cases h
    | some bs =>
      rw [z] at h
      cases h
      obtain ⟨v, rfl, p2⟩ := reps_one p
      cases p2 with
      | lst q1 q2 =>
        have e := reps_bls q2 z
        subst e
        exact ⟨_, bs, rfl, .inl (.inl (r.sub _ _ q1)), k w H _ (Wd.le.refl _) r (.bl _)⟩
  · cases h
def sPar2 (i j : Nat) (fa : AX) : ES := fun env S => (fa env S).bnd fun xs S1 => match xs with
  | [x, y] => .ok (.nx ((env.set i (some x)).set j (some y))) S1
  | _ => .bad
theorem is_par2 {x y : Str} {px py pt : Pos} {kt k2 : Nat} {pt2 : Pos} (i j : Nat) (hN : X.N.Nodup) (ha : IA T E X [a, b] fa) (hc : X.calm = true := by rfl) (hi : X.N[i]? = some x := by rfl) (hj : X.N[j]? = some y := by rfl) (hij : i ≠ j := by decide)
    (hx : X.env.scope.names.lookup x = some .local := by rfl) (hy : X.env.scope.names.lookup y = some .local := by rfl)
    (hw : swappedStores [.Tuple [.Name x px, .Name y py] kt pt] (.Tuple [a, b] k2 pt2) X.env = pure (some [x, y]) := by rfl)
    (hs : swapsWithSole [.Tuple [.Name x px, .Name y py] kt pt] (.Tuple [a, b] k2 pt2) pos.line X.env = pure false := by rfl) :
    IS T E X (.Assign [.Tuple [.Name x px, .Name y py] kt pt] (.Tuple [a, b] k2 pt2) pos) (sPar2 i j fa) :=
  PS.mono (ps_par hc hN hi hj hij hx hy ha hw hs) fun D σ H ⟨w, env, S, r, e, q⟩ => ⟨w, env, S, r, e, (RP.bnd q).mono (fun ds S1 h1 w1 H1 vs l1 r1 p1 => by
    split at h1
    · obtain ⟨v, u, rfl, p2, q2⟩ := reps_two p1
      exact ⟨v, u, rfl, h1 w1 H1 _ l1 r1 (((e.mono l1).set p2 i).set q2 j)⟩
    · exact (show False from h1).elim) fun _ _ _ x => x⟩
/-- r asks no more than r' -/
def RPle {α : Type} (r r' : R α) : Prop := ∀ (Pk : α → Store → Prop) (Pe : String → List D → Store → Prop), RP r Pk Pe → RP r' Pk Pe
theorem IS.eqv {s s' : ES} (h : IS T E X st s) (k : ∀ env S, RPle (s' env S) (s env S)) : IS T E X st s' := PS.mono h fun D σ H ⟨w, env, S, r, e, q⟩ => ⟨w, env, S, r, e, (k env S) _ _ q⟩
theorem is_par2u {i j : Nat} (h : IS T E X st (sUnp (pTup (pCons (pName i) (pCons (pName j) pNil))) (eTup fa))) : IS T E X st (sPar2 i j fa) := h.eqv fun env S Pk Pe q => by
  unfold sPar2 at q
  unfold sUnp eTup
  cases z : fa env S with
  | ok xs S1 =>
    rw [z] at q
    rw [bnd_ok] at q ⊢
    split at q
    · exact q
    · exact (show False from q).elim
  | err c fs S1 => rw [z] at q; exact q
  | bad => rw [z] at q; exact q
def ltA : D → D → Option D
  | .int i, .int j => some (.bl (decide (i < j)))
  | .tup l, .tup m => (dInts l).bind fun ns => (dInts m).map fun ms => .bl (HT.lexLt ns ms)
  | _, _ => none
theorem oi_ltA (hK : X.K = T.K) (hu : X.A.units < cLine) : OpR X (compareOp .Lt) (rOp T ltA) := orOp2 fun w d e r S x y H Q h1 h2 h3 h4 h5 => by
  unfold ltA at h4
  split at h4
  · cases h2; cases h3; cases h4
    exact ⟨_, op_lt, _, _, rfl, rfl, h5 w H _ (Wd.le.refl _) h1 (.bl _)⟩
  · rename_i l m
    cases z : dInts l with
    | none => rw [z] at h4; cases h4
    | some ns =>
      rw [z] at h4
      cases z2 : dInts m with
      | none => rw [z2] at h4; cases h4
      | some ms =>
        rw [z2] at h4
        cases h4
        cases h2 with
        | tup q2 r2 =>
          cases h3 with
          | tup q3 r3 =>
            have e1 := reps_ints r2 z
            have e2 := reps_ints r3 z2
            subst e1 e2
            exact ⟨_, op_ltT hu, _, _, ns, ms, rfl, rfl, by rw [hK]; exact sqt_sub h1 q2, by rw [hK]; exact sqt_sub h1 q3, h5 w H _ (Wd.le.refl _) h1 (.bl _)⟩
  · cases h4
end Ro
end
section
set_option Elab.async false
set_option linter.all false
set_option maxRecDepth 100000
set_option maxHeartbeats 4000000
namespace Ro
open PySem PySem.Spec PyProof.Rows L2
variable {T : Tb} {E : XK} {X : Cx} {a b c e : Expr} {es : List Expr} {f g h : EX} {fa ga fk : AX} {fb gb : BX} {pos : Pos} {st : Stmt} {sts rest : List Stmt} {s t : ES}
def codB : Int := 4294967296
def dTups : List D → Option (List (List Int))
  | [] => some []
  | .tup l :: r => (dInts l).bind fun ns => (dTups r).map (ns :: ·)
  | _ :: _ => none
def srtT (l : List (List Int)) : List (List Int) := l.mergeSort fun a b => decide (TS.code codB a ≤ TS.code codB b)
def tupD (ns : List Int) : D := .tup (ns.map D.int)
def tupOk (n : Nat) (m : List Int) : Bool := decide (m.length = n) && m.all fun z => decide (0 ≤ z ∧ z < codB)
def sortOk (l : List (List Int)) : Bool := decide (l.length < 64) && (match l with
  | [] => true
  | n :: r => decide (1 ≤ n.length) && (n :: r).all (tupOk n.length))
def bSortL (l : List (List Int)) : Option D := if sortOk l then some (.lst ((srtT l).map tupD)) else none
theorem tupOk_bd {n : Nat} {m : List Int} (h : tupOk n m = true) : m.length = n ∧ TS.Bd codB m := by
  unfold tupOk at h
  simp only [Bool.and_eq_true, decide_eq_true_eq, List.all_eq_true] at h
  exact ⟨h.1, fun z hz => h.2 z hz⟩
theorem code_eq : ∀ {n m : List Int}, n.length = m.length → TS.Bd codB n → TS.Bd codB m → TS.code codB n = TS.code codB m → n = m
  | [], [], _, _, _, _ => rfl
  | a :: n, b :: m, hl, h1, h2, e => by
    have hl' : n.length = m.length := Nat.succ.inj hl
    have hab : a = b := by
      rcases Int.lt_trichotomy a b with z | z | z
      · have := TS.code_lt hl' h1.tail h2.tail z
        omega
      · exact z
      · have := TS.code_lt hl'.symm h2.tail h1.tail z
        omega
    subst hab
    have e2 : TS.code codB n = TS.code codB m := by
      have e : a * codB ^ n.length + TS.code codB n = a * codB ^ m.length + TS.code codB m := e
      rw [hl'] at e
      omega
    rw [code_eq hl' h1.tail h2.tail e2]
theorem srtT_perm (l : List (List Int)) : (srtT l).Perm l := List.mergeSort_perm l _
theorem srtT_sorted (l : List (List Int)) : (srtT l).Pairwise fun a b => TS.code codB a ≤ TS.code codB b := by
  have z := List.pairwise_mergeSort (le := fun a b : List Int => decide (TS.code codB a ≤ TS.code codB b)) (fun a b c h1 h2 => by
    simp only [decide_eq_true_eq] at *
    omega) (fun a b => by
    simp only [Bool.or_eq_true, decide_eq_true_eq]
    omega) l
  exact z.imp fun h => of_decide_eq_true h
/-- two sorted permutations -/
theorem perm_eq {n : Nat} : ∀ {l m : List (List Int)}, (∀ x ∈ l, x.length = n ∧ TS.Bd codB x) → l.Perm m → l.Pairwise (fun a b => TS.code codB a ≤ TS.code codB b) → m.Pairwise (fun a b => TS.code codB a ≤ TS.code codB b) → l = m := by
  intro l m hl hp h1 h2
  refine List.Perm.eq_of_pairwise (le := fun a b => TS.code codB a ≤ TS.code codB b) (fun a b ha hb q1 q2 => ?_) h1 h2 hp
  obtain ⟨a1, a2⟩ := hl a ha
  obtain ⟨b1, b2⟩ := hl b (hp.mem_iff.mpr hb)
  exact code_eq (a1.trans b1.symm) a2 b2 (by omega)
theorem sortVals {d : Nat} {B : Int} {pins : List (Addr × Obj)} {σ : L2.St} {H : Hp} {s : Shared} {us : List Value} {xs : List V} {src : Value} {Q : VK} (I : Inv X pins σ H s) (rv : Vals xs us) (h64 : xs.length < 64) (hd : 1 ≤ d)
    (hx : ∀ x ∈ xs, ∃ ns, TupI X.K H x ns ∧ ns.length = d ∧ TS.Bd B ns)
    (hcol : ∀ R : List Value → Shared → Prop, (∀ h' tk, (∀ b o, s.heap.get? b = some o → h'.get? b = some o) → R us { s with heap := h', toks := tk }) → wpAny (model X.prog X.w) X.A.in1 (collect src) R X.xe s)
    (q : ∀ (ys : List V) (p : Addr), ys.Perm xs → ys.Pairwise (fun x y => ∀ n m, TupI X.K H x n → TupI X.K H y m → TS.code B n ≤ TS.code B m) → H p = none → Q (.ref p) (upd H p (.lst ys))) :
    wpAny (model X.prog X.w) X.A (call (.builtin "sorted") [src]) (EP X pins σ Q) X.xe s := by
  have hl : us.length = xs.length := rv.length.symm
  obtain ⟨e1, e2⟩ := bkV_refs rv fun x m => by
    obtain ⟨ns, ⟨t, e, _⟩, _⟩ := hx x m
    exact ⟨t, e⟩
  refine Calls.call_function_entry kind_sorted plain_sorted entry_sorted (args_sorted1 _) ?_
  unfold Builtin.«sorted»
  refine wpAny_bind (m := checkCount "sorted" 1 1 _) (wpAny_pure ?_)
  refine wpAny_bind (hcol _ fun h' tk k => ?_)
  refine wpAny_bind (wpAny_newList ?_ (by rw [sizeLine_eq]; omega))
  have hoL : (h'.push (seqObj "list" us.toArray 0)).get? h'.objs.size = some (seqObj "list" us.toArray 0) := Heap.get?_push_size _ rfl
  have J : Inv X pins σ H { s with heap := h'.push (seqObj "list" us.toArray 0), toks := tk } := I.kept fun b o z => Heap.get?_push_of_some _ (k b o z)
  have tups : TS.TupsOk (h'.push (seqObj "list" us.toArray 0)) d B us := fun v hv => by
    obtain ⟨t, rfl⟩ := e2 v hv
    have hm : V.ref t ∈ xs := by
      rw [e1]
      exact List.mem_map.mpr ⟨_, hv, rfl⟩
    obtain ⟨ns, ⟨t', e, ht⟩, hn, hb⟩ := hx _ hm
    cases e
    exact ⟨ns, tupI_raw J ht, hn, hb⟩
  show wpAny _ _ _ _ _ { s with heap := h'.push (seqObj "list" us.toArray 0), toks := tk }
  refine wpAny_bind (wpAny_holding (wpAny_call_entry slot_list_sort ⟨_, hoL, rfl⟩ entry_list_sort (TS.sort_tups (s := { s with heap := h'.push (seqObj "list" us.toArray 0), toks := tk }) hoL (by omega) hd tups
    (fun v => TS.code B (TS.intsOf (h'.push (seqObj "list" us.toArray 0)) v)) (fun v _ ns t => by
      show TS.code B (TS.intsOf (h'.push (seqObj "list" us.toArray 0)) v) = TS.code B ns
      rw [t.ints]) fun out a1 a2 => ⟨_, rfl, wpAny_pure ?_⟩) (args_list_sort _)))
  have h3 : ∀ u ∈ out.toList, ∃ a, u = Value.ref a := fun u hu => e2 u (a1.mem_iff.mp hu)
  have hp : (out.toList.map bkV).Perm xs := by
    rw [e1]
    exact a1.map bkV
  obtain ⟨ep, he'⟩ := PyProof.Rows.sortedHeap_at (vs := us) (out := out) hoL
  have hlen : (out.toList.map bkV).length ≤ sizeLine := by
    rw [hp.length_eq, sizeLine_eq]
    omega
  have I0 : Inv X pins σ H { s with heap := h', toks := tk } := I.kept k
  refine ⟨_, rfl, .ref h'.objs.size, upd H h'.objs.size (.lst (out.toList.map bkV)), I0.laid (t' := tk) (fun b u z => ?_) (Nat.le_refl _)
    (show ObjOk X.prog X.w _ _ _ (.lst (out.toList.map bkV)) from ⟨hlen, out.toList, ep, bkV_vals h3, by rw [Array.toArray_toList]; exact he'⟩), rfl, q _ _ hp ?_ (I0.hok.fresh (Nat.le_refl _))⟩
  · have hb : b < h'.objs.size := Heap.lt_size z
    rw [PyProof.Rows.sortedHeap_old (Nat.ne_of_lt hb) (by rw [size_push']; exact Nat.lt_succ_of_lt hb)]
    exact Heap.get?_push_of_some _ z
  · rw [List.pairwise_map]
    refine List.Pairwise.imp (fun {u v} huv n m hn hm => ?_) a2
    obtain ⟨t, et, ht⟩ := hn
    obtain ⟨t', et', ht'⟩ := hm
    have i1 : TS.intsOf (h'.push (seqObj "list" us.toArray 0)) u = n := by
      rw [bkV_ref et]
      exact (tupI_raw J ht).ints
    have i2 : TS.intsOf (h'.push (seqObj "list" us.toArray 0)) v = m := by
      rw [bkV_ref et']
      exact (tupI_raw J ht').ints
    rw [← i1, ← i2]
    exact huv
/-- of a list, of a tuple -/
def rSortAny (K : PySem.W.Frag) (d : Nat) (B : Int) : List V → Hp → VK → Prop := fun vs H Q => ∃ (a : Addr) (xs : List V), vs = [V.ref a] ∧ (SqL K H a xs ∨ SqT K H a xs) ∧ xs.length < 64 ∧ (∀ x ∈ xs, ∃ ns, TupI K H x ns ∧ ns.length = d ∧ TS.Bd B ns) ∧
  ∀ (ys : List V) (p : Addr), ys.Perm xs → ys.Pairwise (fun x y => ∀ n m, TupI K H x n → TupI K H y m → TS.code B n ≤ TS.code B m) → H p = none → Q (.ref p) (upd H p (.lst ys))
theorem call_sortAny {d : Nat} {B : Int} (hd : 1 ≤ d) : CallR X (.builtin "sorted") (rSortAny X.K d B) := by
  intro pins s σ H vs us Q I r h
  obtain ⟨a, xs, rfl, hs, h64, hx, q⟩ := h
  obtain ⟨u, rfl, ru⟩ := Vals.one r
  cases ru
  rcases hs with hs | hs
  · obtain ⟨its, rv, hl, hz⟩ := I.list hs
    obtain ⟨o, ho, hc, n, hdt⟩ := hl.isList
    refine sortVals I rv h64 hd hx (fun R k => ?_) q
    refine wpAny_collect_seq a (.inl rfl) ho hc hdt (fun h' kp => ?_) (by rw [List.size_toArray, ← rv.length]; exact hz)
    exact k h' _ kp
  · obtain ⟨its, rv, hl, hz⟩ := I.tuple hs
    obtain ⟨o, ho, hc, n, hdt⟩ := id hl
    refine sortVals I rv h64 hd hx (fun R k => ?_) q
    refine wpAny_collect_seq a (.inr rfl) ho hc hdt (fun h' kp => ?_) (by rw [List.size_toArray, ← rv.length]; exact hz)
    exact k h' _ kp
theorem dTups_eq : ∀ {l : List D} {ns : List (List Int)}, dTups l = some ns → l = ns.map tupD
  | [], _, h => by cases h; rfl
  | d :: l, ns, h => by
    cases d with
    | tup m =>
      have h : (dInts m).bind (fun ns => (dTups l).map (ns :: ·)) = some ns := h
      cases z : dInts m with
      | none => rw [z] at h; cases h
      | some k =>
        rw [z] at h
        cases z2 : dTups l with
        | none => rw [z2] at h; cases h
        | some r =>
          rw [z2] at h
          cases h
          have e1 : m = k.map D.int := by
            have key : ∀ {m : List D} {k : List Int}, dInts m = some k → m = k.map D.int := by
              intro m
              induction m with
              | nil => intro k h; cases h; rfl
              | cons x m ih =>
                intro k h
                cases x with
                | int i =>
                  cases z : dInts m with
                  | none => rw [dInts, z] at h; cases h
                  | some r => rw [dInts, z] at h; cases h; rw [ih z]; rfl
                | _ => cases h
            exact key z
          rw [e1, dTups_eq z2]
          rfl
    | _ => cases h
theorem dInts_map : ∀ ns : List Int, dInts (ns.map D.int) = some ns
  | [] => rfl
  | n :: ns => by rw [List.map_cons, dInts, dInts_map ns]; rfl
theorem reps_tupD {w : Wd} {S : Store} {H : Hp} (r : WR T w S H) {ns : List Int} {x : V} (p : Rep T w (tupD ns) x) : TupI T.K H x ns := by
  cases p with
  | tup q1 q2 =>
    refine ⟨_, rfl, ?_⟩
    have e : dInts (ns.map D.int) = some ns := dInts_map ns
    rw [reps_ints q2 e] at q1
    exact sqt_sub r q1
theorem reps_perm {w : Wd} : ∀ {ys vs : List V}, ys.Perm vs → ∀ {ds : List D}, Reps T w ds vs → ∃ es, es.Perm ds ∧ Reps T w es ys := by
  intro ys vs hp
  induction hp with
  | nil => intro ds r; cases r; exact ⟨[], .nil, .nil⟩
  | cons x _ ih =>
    intro ds r
    cases r with
    | cons r1 r2 =>
      obtain ⟨es, h1, h2⟩ := ih r2
      exact ⟨_, h1.cons _, .cons r1 h2⟩
  | swap x y l =>
    intro ds r
    cases r with
    | cons r1 r2 =>
      cases r2 with
      | cons r3 r4 => exact ⟨_, .swap _ _ _, .cons r3 (.cons r1 r4)⟩
  | trans _ _ ih1 ih2 =>
    intro ds r
    obtain ⟨es, h1, h2⟩ := ih2 r
    obtain ⟨fs, h3, h4⟩ := ih1 h2
    exact ⟨fs, h3.trans h1, h4⟩
theorem reps_pairs {w : Wd} {S : Store} {H : Hp} (r : WR T w S H) : ∀ {ms : List (List Int)} {ys : List V}, Reps T w (ms.map tupD) ys → ys.Pairwise (fun x y => ∀ n m, TupI T.K H x n → TupI T.K H y m → TS.code codB n ≤ TS.code codB m) →
    ms.Pairwise fun a b => TS.code codB a ≤ TS.code codB b
  | [], _, _, _ => .nil
  | m :: ms, _, .cons q1 q2, h => by
    rw [List.pairwise_cons] at h ⊢
    refine ⟨fun n hn => ?_, reps_pairs r q2 h.2⟩
    obtain ⟨i, hi, e⟩ := List.mem_iff_getElem.mp hn
    obtain ⟨v, h1, h2⟩ := q2.get (i := i) (d := tupD n) (by rw [List.getElem?_map, List.getElem?_eq_getElem hi, e]; rfl)
    exact h.1 v (List.mem_of_getElem? h1) m n (reps_tupD r q1) (reps_tupD r h2)
/-- what sorted gives -/
theorem sorted_reps {w : Wd} {S : Store} {H : Hp} (r : WR T w S H) {ns : List (List Int)} {vs ys : List V} (hok : sortOk ns = true) (hr : Reps T w (ns.map tupD) vs) (hp : ys.Perm vs) (hs : ys.Pairwise (fun x y => ∀ n m, TupI T.K H x n → TupI T.K H y m → TS.code codB n ≤ TS.code codB m)) :
    Reps T w ((srtT ns).map tupD) ys := by
  obtain ⟨es, h1, h2⟩ := reps_perm hp hr
  obtain ⟨ms, h3, h4⟩ := perm_lift tupD h1 ns rfl
  subst h4
  have h5 := reps_pairs r h2 hs
  have e : ms = srtT ns := by
    unfold sortOk at hok
    obtain ⟨_, hok⟩ := Bool.and_eq_true_iff.mp hok
    cases ns with
    | nil =>
      have := h3.eq_nil
      subst this
      simp [srtT]
    | cons n ns =>
      have hok : (decide (1 ≤ n.length) && (n :: ns).all (tupOk n.length)) = true := hok
      obtain ⟨_, hok⟩ := Bool.and_eq_true_iff.mp hok
      have all : ∀ x ∈ n :: ns, x.length = n.length ∧ TS.Bd codB x := fun x hx => tupOk_bd (List.all_eq_true.mp hok x hx)
      exact perm_eq (n := n.length) (fun x hx => all x (h3.mem_iff.mp hx)) (h3.trans (srtT_perm _).symm) h5 (srtT_sorted _)
  rw [← e]
  exact h2
theorem sortOk_tups {w : Wd} {S : Store} {H : Hp} (r : WR T w S H) {ns : List (List Int)} {vs : List V} (hok : sortOk ns = true) (hr : Reps T w (ns.map tupD) vs) : vs.length < 64 ∧ ∃ d, 1 ≤ d ∧ ∀ x ∈ vs, ∃ n, TupI T.K H x n ∧ n.length = d ∧ TS.Bd codB n := by
  unfold sortOk at hok
  obtain ⟨h64, hok⟩ := Bool.and_eq_true_iff.mp hok
  refine ⟨by rw [← hr.length, List.length_map]; exact of_decide_eq_true h64, ?_⟩
  have key : ∀ {l : List (List Int)} {us : List V} {n : Nat}, Reps T w (l.map tupD) us → l.all (tupOk n) = true → ∀ x ∈ us, ∃ m, TupI T.K H x m ∧ m.length = n ∧ TS.Bd codB m := by
    intro l
    induction l with
    | nil => intro us n q _ x hx; cases q; cases hx
    | cons m l ih =>
      intro us n q hl x hx
      obtain ⟨l1, l2⟩ := Bool.and_eq_true_iff.mp (show (tupOk n m && l.all (tupOk n)) = true from hl)
      cases q with
      | cons q1 q2 =>
        rcases List.mem_cons.mp hx with e | hx
        · subst e
          obtain ⟨b1, b2⟩ := tupOk_bd l1
          exact ⟨m, reps_tupD r q1, b1, b2⟩
        · exact ih q2 l2 x hx
  cases ns with
  | nil =>
    cases hr
    exact ⟨1, Nat.le_refl _, fun x hx => by cases hx⟩
  | cons n ns =>
    have hok : (decide (1 ≤ n.length) && (n :: ns).all (tupOk n.length)) = true := hok
    obtain ⟨h1, hok⟩ := Bool.and_eq_true_iff.mp hok
    exact ⟨n.length, of_decide_eq_true h1, key hr hok⟩
def bSorted : List D → Option D
  | [.lst l] => (dTups l).bind bSortL
  | [.tup l] => (dTups l).bind bSortL
  | _ => none
def rSorted (K : PySem.W.Frag) : List V → Hp → VK → Prop := fun vs H Q => ∃ d, 1 ≤ d ∧ rSortAny K d codB vs H Q
theorem call_sorted' : CallR X (.builtin "sorted") (rSorted X.K) := fun pins s σ H vs us Q I r ⟨_, hd, h⟩ => call_sortAny hd pins s σ H vs us Q I r h
theorem bo_sorted : BOk T (rSorted T.K) bSorted := fun w S xs vs H d Q r p h k => by
  have key : ∀ {l : List D} {a : Addr} {us : List V}, (SqL T.K H a us ∨ SqT T.K H a us) → Reps T w l us → (dTups l).bind bSortL = some d → rSorted T.K [V.ref a] H Q := by
    intro l a us hs hr h
    cases z : dTups l with
    | none => rw [z] at h; cases h
    | some ns =>
      rw [z] at h
      have h : bSortL ns = some d := h
      unfold bSortL at h
      split at h
      · rename_i hok
        cases h
        rw [dTups_eq z] at hr
        obtain ⟨h64, dd, hd, hx⟩ := sortOk_tups r hok hr
        refine ⟨dd, hd, a, us, rfl, hs, h64, hx, fun ys p hp hq hpn => ?_⟩
        have z2 := sorted_reps r hok hr hp hq
        obtain ⟨l1, r1⟩ := r.new hpn (.lst ys)
        exact k _ _ _ l1 r1 (.lst upd_same (z2.mono l1))
      · cases h
  unfold bSorted at h
  split at h
  · obtain ⟨v, rfl, p2⟩ := reps_one p
    cases p2 with
    | lst q1 q2 => exact key (.inl (.inl (.inl (r.sub _ _ q1)))) q2 h
  · obtain ⟨v, rfl, p2⟩ := reps_one p
    cases p2 with
    | tup q1 q2 => exact key (.inr (sqt_sub r q1)) q2 h
  · cases h
def eDctT : EX := fun _ S => .ok (.ref S.length) (S ++ [.dcT []])
theorem ie_dctT : IE T E X (.Dict [] [] pos) eDctT := PE.mono pe_dnewT fun σ H Q ⟨w, env, S, r, e, q⟩ => fun p hp => by
  obtain ⟨l, r', at_⟩ := r.alloc (o := .dT []) (c := .dcT []) hp ⟨[], upd_same, rfl, .nil⟩
  exact (show ∀ w' H' v, w.le w' → WR T w' (S ++ [.dcT []]) H' → Rep T w' (.ref S.length) v → Q v H' from q) _ _ _ l r' (.ref at_)
def putL (l : List (List Int × D)) (k : List Int) (v : D) : List (List Int × D) :=
  if (l.any fun p => decide (p.1 = k)) = true then l.map (fun p => if p.1 = k then (p.1, v) else p) else l ++ [(k, v)]
def getL (l : List (List Int × D)) (k : List Int) : Option D := (l.find? fun p => decide (p.1 = k)).map (·.2)
theorem inl_inj {a b : List Int} : (a.map Sum.inl : List Key) = b.map Sum.inl ↔ a = b := by
  constructor
  · intro h
    induction a generalizing b with
    | nil => cases b with
      | nil => rfl
      | cons _ _ => cases h
    | cons x a ih => cases b with
      | nil => cases h
      | cons y b =>
        rw [List.map_cons, List.map_cons] at h
        injection h with h1 h2
        injection h1 with h1
        rw [h1, ih h2]
  · rintro rfl; rfl
theorem put_repT {w : Wd} {k : List Int} {d : D} {v : V} (q : Rep T w d v) : ∀ {l : List (List Int × D)} {kvs : List (List Key × V)}, kvs.map (·.1) = l.map (fun p => p.1.map Sum.inl) → Reps T w (l.map (·.2)) (kvs.map (·.2)) →
    (putK kvs (k.map Sum.inl) v).map (·.1) = (putL l k d).map (fun p => p.1.map Sum.inl) ∧ Reps T w ((putL l k d).map (·.2)) ((putK kvs (k.map Sum.inl) v).map (·.2)) := by
  intro l kvs h1 h2
  have hany : (kvs.any fun kv => decide (kv.1 = k.map Sum.inl)) = l.any fun p => decide (p.1 = k) := by
    have e1 : (kvs.any fun kv => decide (kv.1 = k.map Sum.inl)) = (kvs.map (·.1)).any fun z => decide (z = k.map Sum.inl) := by rw [List.any_map]; rfl
    rw [e1, h1, List.any_map]
    congr 1
    funext p
    show decide (p.1.map Sum.inl = k.map Sum.inl) = decide (p.1 = k)
    simp only [inl_inj]
  unfold putK putL
  rw [hany]
  by_cases c : (l.any fun p => decide (p.1 = k)) = true
  · rw [if_pos c, if_pos c]
    have key : ∀ {l : List (List Int × D)} {kvs : List (List Key × V)}, kvs.map (·.1) = l.map (fun p => p.1.map Sum.inl) → Reps T w (l.map (·.2)) (kvs.map (·.2)) →
        (kvs.map (fun kv => if kv.1 = k.map Sum.inl then (kv.1, v) else kv)).map (·.1) = (l.map (fun p => if p.1 = k then (p.1, d) else p)).map (fun p => p.1.map Sum.inl) ∧
        Reps T w ((l.map (fun p => if p.1 = k then (p.1, d) else p)).map (·.2)) ((kvs.map (fun kv => if kv.1 = k.map Sum.inl then (kv.1, v) else kv)).map (·.2)) := by
      intro l
      induction l with
      | nil =>
        intro kvs h1 h2
        cases kvs with
        | nil => exact ⟨rfl, .nil⟩
        | cons _ _ => cases h1
      | cons p l ih =>
        intro kvs h1 h2
        cases kvs with
        | nil => cases h1
        | cons kv kvs =>
          have h1' : kv.1 :: kvs.map (·.1) = p.1.map Sum.inl :: l.map (fun p => p.1.map Sum.inl) := h1
          injection h1' with a1 a2
          have h2' : Reps T w (p.2 :: l.map (·.2)) (kv.2 :: kvs.map (·.2)) := h2
          cases h2' with
          | cons b1 b2 =>
            obtain ⟨i1, i2⟩ := ih a2 b2
            rw [List.map_cons, List.map_cons, List.map_cons, List.map_cons, List.map_cons, List.map_cons, i1]
            by_cases hk : p.1 = k
            · have hk2 : kv.1 = k.map Sum.inl := by rw [a1, hk]
              rw [if_pos hk, if_pos hk2]
              exact ⟨by rw [a1], .cons q i2⟩
            · have hk2 : ¬ kv.1 = k.map Sum.inl := fun z => hk (inl_inj.mp (a1.symm.trans z))
              rw [if_neg hk, if_neg hk2]
              exact ⟨by rw [a1], .cons b1 i2⟩
    exact key h1 h2
  · rw [if_neg c, if_neg c]
    rw [List.map_append, List.map_append, List.map_append, List.map_append, h1]
    exact ⟨rfl, h2.append (.cons q .nil)⟩
theorem get_repT {w : Wd} {k : List Int} {d : D} : ∀ {l : List (List Int × D)} {kvs : List (List Key × V)}, kvs.map (·.1) = l.map (fun p => p.1.map Sum.inl) → Reps T w (l.map (·.2)) (kvs.map (·.2)) → getL l k = some d → ∃ v, valV kvs (k.map Sum.inl) = some v ∧ Rep T w d v := by
  intro l
  induction l with
  | nil => intro kvs h1 h2 h3; cases h3
  | cons p l ih =>
    intro kvs h1 h2 h3
    cases kvs with
    | nil => cases h1
    | cons kv kvs =>
      have h1' : kv.1 :: kvs.map (·.1) = p.1.map Sum.inl :: l.map (fun p => p.1.map Sum.inl) := h1
      injection h1' with a1 a2
      have h2' : Reps T w (p.2 :: l.map (·.2)) (kv.2 :: kvs.map (·.2)) := h2
      cases h2' with
      | cons b1 b2 =>
        unfold getL at h3
        unfold valV
        rw [List.find?_cons] at h3 ⊢
        by_cases hk : p.1 = k
        · have hk2 : kv.1 = k.map Sum.inl := by rw [a1, hk]
          rw [decide_eq_true hk] at h3
          rw [decide_eq_true hk2]
          cases h3
          exact ⟨kv.2, rfl, b1⟩
        · have hk2 : ¬ kv.1 = k.map Sum.inl := fun z => hk (inl_inj.mp (a1.symm.trans z))
          rw [decide_eq_false hk] at h3
          rw [decide_eq_false hk2]
          exact ih a2 b2 h3
theorem kV_inl (k : List Int) : (k.map Sum.inl : List Key).map kV = k.map V.int := by rw [List.map_map]; rfl
/-- d[k, ..] = v -/
def sPutT (o : EX) (ks : AX) (v : EX) : ES := fun env S => (v env S).bnd fun z S1 => (o env S1).bnd fun x S2 => (ks env S2).bnd fun ys S3 => match x, dInts ys with
  | .ref n, some k => (match S3[n]? with
    | some (.dcT l) => if l.length < LINE ∧ ys.length ≤ LINE then .ok (.nx env) (S3.set n (.dcT (putL l k z))) else .bad
    | _ => .bad)
  | _, _ => .bad
theorem is_putT {ks : List Expr} {kk : Nat} {p2 pos' : Pos} {fk : AX} (hu : X.A.units + 1 < cLine) (hv : IE T E X c h) (ho : IE T E X a f) (hi : IA T E X ks fk) (hs : swapsWithSole [.Subscript a (.Tuple ks kk p2) pos'] c pos.line X.env = pure false := by rfl) (hw : swappedStores [.Subscript a (.Tuple ks kk p2) pos'] c X.env = pure none := by rfl)
    (h1 : (assignEach [.Subscript a (.Tuple ks kk p2) pos'] X.env).map (·.2) = [assign (.Subscript a (.Tuple ks kk p2) pos') X.env] := by rfl)
    (hasg : ∀ v, assign (.Subscript a (.Tuple ks kk p2) pos') X.env v = (do
      let ov ← holding [v] (eval a X.env)
      let iv ← holding [v, ov] (eval (.Tuple ks kk p2) X.env)
      standAt pos'
      holding [v, ov, iv] (setItem ov iv v)
      release [v, ov, iv] []) := by intro _; rfl) : IS T E X (.Assign [.Subscript a (.Tuple ks kk p2) pos'] c pos) (sPutT f fk h) :=
  PS.mono (ps_asg hv (pg_sub ho (pe_tup hi) (set_dict hu) hasg) hs hw h1) fun D σ H ⟨w, env, S, r, e, q⟩ => ⟨w, env, S, r, e, (RP.bnd q).mono (fun z S1 h1 w1 H1 zv l1 r1 p1 => ⟨w1, env, S1, r1, e.mono l1, (RP.bnd h1).mono (fun x S2 h2 w2 H2 xv l2 r2 p2 => ⟨w2, env, S2, r2, (e.mono l1).mono l2, (RP.bnd h2).mono (fun ys S3 h3 w3 H3 yv l3 r3 p3 => by
    split at h3
    · rename_i n k hk
      split at h3
      · rename_i l hS
        split at h3
        · rename_i hl
          have e3 := reps_ints p3 hk
          subst e3
          cases (p2.mono l3) with
          | ref hn =>
            rename_i ad
            obtain ⟨kvs, c1, c2, c3⟩ := r3.cell n _ _ hS hn
            have hlen : kvs.length = l.length := by
              have z := congrArg List.length c2
              rwa [List.length_map, List.length_map] at z
            refine ⟨by rw [sizeLine_eq, ← p3.length]; exact hl.2, fun p hp => ?_⟩
            obtain ⟨l4, r4⟩ := r3.new hp (.tup (k.map V.int))
            have hne : ad ≠ p := fun z => by rw [z, hp] at c1; cases c1
            have c1' : upd H3 p (.tup (k.map V.int)) ad = some (.dT kvs) := by rw [upd_ne hne]; exact c1
            obtain ⟨u1, u2⟩ := put_repT (T := T) (w := w3) (k := k) ((p1.mono l2).mono l3) c2 c3
            have lt := ((l1.trans l2).trans l3).trans l4
            refine ⟨ad, _, rfl, DPut.t (k := k.map Sum.inl) c1' (by rw [kV_inl]; exact upd_same) (by rw [hlen, sizeLine_eq]; exact hl.1), ?_⟩
            exact h3 _ _ σ lt (r4.write hS hn (by intro z; cases z) ⟨_, upd_same, u1, u2.mono l4⟩) (e.mono lt)
        · exact (show False from h3).elim
      · exact (show False from h3).elim
    · exact (show False from h3).elim) fun _ _ _ x => x.le (l1.trans l2)⟩) fun _ _ _ x => x.le l1⟩) fun _ _ _ x => x⟩
end Ro
end
section
set_option Elab.async false
set_option linter.all false
set_option maxRecDepth 100000
set_option maxHeartbeats 4000000
namespace Ro
open PySem PySem.Spec PyProof.Rows L2
variable {T : Tb} {E : XK} {X : Cx} {a b c e : Expr} {es : List Expr} {f g h : EX} {fa ga fk : AX} {fb gb : BX} {pos : Pos} {st : Stmt} {sts rest : List Stmt} {s t : ES}
def rIxT' (K : PySem.W.Frag) : R2 := fun x y H Q => ∃ (a b : Addr) (kvs : List (List Key × V)) (k : List Int) (v : V), x = .ref a ∧ y = .ref b ∧ H a = some (.dT kvs) ∧ SqT K H b (k.map V.int) ∧ valV kvs (k.map Sum.inl) = some v ∧ Q v H
theorem ix_dT (hu : X.A.units + 1 < cLine) : IxR X (rIxT' X.K) := by
  intro value slice pins s σ H x y v u Q I rx ry h hs
  obtain ⟨a, b, kvs, k, r, rfl, rfl, ha, hb, hv, q⟩ := h
  obtain rfl : v = Value.ref a := rx
  obtain rfl : u = Value.ref b := ry
  obtain ⟨its, rv, ⟨o, ho, hc, n, hd⟩, _⟩ := I.tuple hb
  rw [← kV_inl] at rv
  have key : (tupleKind (mixKind X.prog X.w)).is s.heap (k.map Sum.inl) b := ⟨o, its.toArray, n, ho, hc, hd, by simpa using items_are (P := X.prog) (w := X.w) rv⟩
  obtain ⟨z, hsy, xs, rel, dd⟩ := dt_of I.hok ha
  obtain ⟨w', hw, rw'⟩ := RelO.some_of (v := r) (o := (atKey xs (k.map Sum.inl)).map (·.2)) (by rw [← hv]; exact rel.val _)
  obtain ⟨p, hp, hp2⟩ := Option.map_eq_some_iff.mp hw
  have ty : s.TypeIs (.ref a) "dict" := by
    obtain ⟨o2, es2, ep2, h1, h2, _⟩ := dd
    exact ⟨o2, h1, h2.1⟩
  refine tail_any ty slot_dict_getitem.lookup (wpAny_getItem_heap (tupleKind_room_in1 hu) key dd hp ?_) hs
  rw [hp2]
  exact ⟨r, H, I.tok _, rw', q⟩
def idxT (x y : D) (S : Store) : Option D := match x, y with
  | .ref n, .tup m => (match S[n]? with
    | some (.dcT l) => (dInts m).bind (getL l)
    | _ => none)
  | _, _ => none
def eIdxT (a b : EX) : EX := fun env S => (a env S).bnd fun x S1 => (b env S1).bnd fun y S2 => lift (idxT x y S2) S2
theorem ie_idxT (hK : X.K = T.K) (hu : X.A.units + 1 < cLine) (ha : IE T E X a f) (hb : IE T E X b g) (hs : PlainIx b := by exact fun _ _ => rfl) : IE T E X (.Subscript a b pos) (eIdxT f g) :=
  PE.mono (pe_ix (ix_dT hu) ha hb hs) fun σ H Q q => by
    have q2 := tI_two (k := fun x y S => lift (idxT x y S) S) q
    obtain ⟨w, env, S, r, e, h⟩ := q2
    refine ⟨w, env, S, r, e, h.mono (fun d S1 h1 w1 H1 x l1 r1 p1 => ?_) fun _ _ _ x => x⟩
    obtain ⟨w2, env2, S2, r2, e2, h2⟩ := h1 w1 H1 x l1 r1 p1
    refine ⟨w2, env2, S2, r2, e2, h2.mono (fun d S1 h1 w1 H1 x l1 r1 p1 => ?_) fun _ _ _ x => x⟩
    obtain ⟨w3, d3, e3, S3, r3, p3, q3, h3⟩ := h1 w1 H1 x l1 r1 p1
    cases z : idxT d3 e3 S3 with
    | none => rw [z] at h3; exact (show False from h3).elim
    | some y =>
      rw [z] at h3
      unfold idxT at z
      split at z
      · rename_i n m
        split at z
        · rename_i l hS
          cases z2 : dInts m with
          | none => rw [z2] at z; cases z
          | some k =>
            rw [z2] at z
            cases p3 with
            | ref hn =>
              cases q3 with
              | tup q4 q5 =>
                obtain ⟨kvs, c1, c2, c3⟩ := r3.cell n _ _ hS hn
                obtain ⟨v, a1, a2⟩ := get_repT c2 c3 z
                have e5 := reps_ints q5 z2
                subst e5
                exact ⟨_, _, kvs, k, v, rfl, rfl, c1, by rw [hK]; exact sqt_sub r3 q4, a1, h3 w3 _ _ (Wd.le.refl _) r3 a2⟩
        · cases z
      · cases z
/-- any of them -/
def idxB (x y : D) (S : Store) : Option D := match x with
  | .ref n => (match y with
    | .tup m => idxT x y S
    | _ => idxM x y S)
  | _ => idxD x y
def eIdxB (a b : EX) : EX := fun env S => (a env S).bnd fun x S1 => (b env S1).bnd fun y S2 => lift (idxB x y S2) S2
theorem ie_idxB (hK : X.K = T.K) (hu : X.A.units + 1 < cLine) (ha : IE T E X a f) (hb : IE T E X b g) (hs : PlainIx b := by exact fun _ _ => rfl) : IE T E X (.Subscript a b pos) (eIdxB f g) :=
  PE.byOk (ie_idxA hK ha hb hs) (ie_idxT hK hu ha hb hs) fun env S => by
    unfold eIdxB eIdxA eIdxT
    cases z : f env S with
    | ok x S1 =>
      rw [bnd_ok, bnd_ok, bnd_ok]
      cases z2 : g env S1 with
      | ok y S2 =>
        rw [bnd_ok, bnd_ok, bnd_ok]
        cases x with
        | ref n => cases y with
          | tup m => exact .inr rfl
          | _ => exact .inl rfl
        | _ => exact .inl rfl
      | err c fs S2 => exact .inl rfl
      | bad => exact .inl rfl
    | err c fs S1 => exact .inl rfl
    | bad => exact .inl rfl
theorem WR.addTup {w : Wd} {S : Store} {H : Hp} (r : WR T w S H) {p : Addr} {vs : List V} {ds : List D} (hp : H p = some (.tup vs)) (q : Reps T w ds vs) : ∃ w', w.le w' ∧ WR T w' S H ∧ Rep T w' (.tup ds) (.ref p) := by
  cases z : w.G p with
  | some o =>
    have e := r.sub _ _ z
    rw [hp] at e
    cases e
    exact ⟨w, Wd.le.refl _, r, .tup (.inl (.inl z)) q⟩
  | none =>
    have l : w.le ⟨upd w.G p (.tup vs), w.am, w.hid⟩ := ⟨⟨fun b u e => by show upd w.G p (.tup vs) b = some u; rw [upd_ne (ne_of_none e z)]; exact e, [], by simp⟩, rfl⟩
    refine ⟨_, l, ⟨fun b u e => ?_, r.len, r.nd, r.has, fun m c1 b h1 h2 h3 => ?_, fun m c1 b h1 h2 => (r.cell m c1 b h1 h2).keep l.tosb fun _ e => e, r.tabs, r.hn, fun q hq => ?_, fun a ps e => ?_⟩, .tup (.inl (.inl upd_same)) (q.mono l)⟩
    · have e : upd w.G p (.tup vs) b = some u := e
      by_cases h : b = p
      · subst h
        rw [upd_same] at e
        rw [← e]
        exact hp
      · rw [upd_ne h] at e
        exact r.sub _ _ e
    · show upd w.G p (.tup vs) b = none
      rw [upd_ne (fun z => ?_)]
      · exact r.out m c1 b h1 h2 h3
      · subst z
        have hc := r.cell m c1 _ h1 h2
        cases c1 with
        | dead => exact h3 rfl
        | lst l => obtain ⟨_, k1, _⟩ := hc; rw [hp] at k1; cases k1
        | dct l => obtain ⟨_, k1, _⟩ := hc; rw [hp] at k1; cases k1
        | ins c fs => obtain ⟨_, _, k1, _⟩ := hc; rw [hp] at k1; cases k1
        | dcT l => obtain ⟨_, k1, _⟩ := hc; rw [hp] at k1; cases k1
    · obtain ⟨y1, y2, us, y3, y4⟩ := r.hd q hq
      refine ⟨?_, y2, us, y3, y4.mono l⟩
      show upd w.G p (.tup vs) q.1 = none
      rw [upd_ne (fun z => by rw [z, hp] at y3; cases y3)]
      exact y1
    · have e : upd w.G p (.tup vs) a = some (.tbl ps) := e
      by_cases h : a = p
      · rw [h, upd_same] at e
        cases e
      · rw [upd_ne h] at e
        exact r.nt a ps e
theorem addKeys {S : Store} {H : Hp} : ∀ {kvs : List (List Key × V)} {bs : List Addr} {l : List (List Int × D)} {w : Wd}, WR T w S H → IsKeys H kvs bs → kvs.map (·.1) = l.map (fun p => p.1.map Sum.inl) →
    ∃ w', w.le w' ∧ WR T w' S H ∧ Reps T w' ((l.map (·.1)).map tupD) (bs.map V.ref) := by
  intro kvs bs l w r hk
  unfold IsKeys at hk
  induction hk generalizing l w with
  | nil =>
    intro e
    cases l with
    | nil => exact ⟨w, Wd.le.refl _, r, .nil⟩
    | cons _ _ => cases e
  | @cons p b ps qs h1 h2 ih =>
    intro e
    cases l with
    | nil => cases e
    | cons q l =>
      have e : p.1 :: ps.map (·.1) = q.1.map Sum.inl :: l.map (fun p => p.1.map Sum.inl) := e
      injection e with e1 e2
      have reps : ∀ (w : Wd) (k : List Int), Reps T w (k.map D.int) (k.map V.int) := fun w k => by
        induction k with
        | nil => exact .nil
        | cons x k ih => exact .cons (.int x) ih
      have h1 : H b = some (.tup (q.1.map V.int)) := by rw [← kV_inl, ← e1]; exact h1
      obtain ⟨w1, l1, r1, p1⟩ := r.addTup h1 (reps w q.1)
      obtain ⟨w2, l2, r2, p2⟩ := ih r1 e2
      exact ⟨w2, l1.trans l2, r2, .cons (p1.mono l2) p2⟩
def rSortDT (K : PySem.W.Frag) : List V → Hp → VK → Prop := fun vs H Q => ∃ (a : Addr) (kvs : List (List Key × V)) (d : Nat) (ks : List (List Int)), vs = [V.ref a] ∧ H a = some (.dT kvs) ∧ kvs.map (·.1) = ks.map (fun k => k.map Sum.inl) ∧ kvs.length < 64 ∧ 1 ≤ d ∧ (∀ k ∈ ks, k.length = d ∧ TS.Bd codB k) ∧
  ∀ (bs : List Addr) (ys : List V) (p : Addr), IsKeys H kvs bs → ys.Perm (bs.map V.ref) → ys.Pairwise (fun x y => ∀ n m, TupI K H x n → TupI K H y m → TS.code codB n ≤ TS.code codB m) → H p = none → Q (.ref p) (upd H p (.lst ys))
theorem isKeys_tups {K : PySem.W.Frag} {H : Hp} {d : Nat} {kvs : List (List Key × V)} {bs : List Addr} (hk : IsKeys H kvs bs) : ∀ {ks : List (List Int)}, kvs.map (·.1) = ks.map (fun k => k.map Sum.inl) → (∀ k ∈ ks, k.length = d ∧ TS.Bd codB k) → ∀ x ∈ bs.map V.ref, ∃ n, TupI K H x n ∧ n.length = d ∧ TS.Bd codB n := by
  unfold IsKeys at hk
  induction hk with
  | nil => intro ks _ _ x hx; cases hx
  | @cons p b ps qs h1 h2 ih =>
    intro ks e hks x hx
    cases ks with
    | nil => cases e
    | cons k ks =>
      have e : p.1 :: ps.map (·.1) = k.map Sum.inl :: ks.map (fun k => k.map Sum.inl) := e
      injection e with e1 e2
      rcases List.mem_cons.mp hx with z | z
      · subst z
        obtain ⟨k1, k2⟩ := hks k (by simp)
        refine ⟨k, ⟨b, rfl, .inl (.inl ?_)⟩, k1, k2⟩
        rw [← kV_inl, ← e1]
        exact h1
      · exact ih e2 (fun k' hk' => hks k' (by simp [hk'])) x z
theorem call_sortDT (hc : X.calm = true) : CallR X (.builtin "sorted") (rSortDT X.K) := by
  intro pins s σ H vs us Q I r h
  obtain ⟨a, kvs, d, ks, rfl, ha, hks, h64, hd, hb, q⟩ := h
  obtain ⟨u, rfl, ru⟩ := Vals.one r
  obtain rfl : u = Value.ref a := ru
  obtain ⟨z, hs, es, pr, o, ens, ep, ho, hx, hdt, he, hn⟩ := (show ObjOk X.prog X.w H s.heap a (.dT kvs) from I.hok a _ ha)
  have l1 : ens.size = es.length := size_of_entries he
  have l2 : kvs.length = es.length := Paired.length pr
  have keys := isKeys_of pr
  have rv : Vals ((es.map fun x => x.2.1).map V.ref) ((es.map fun x => x.2.1).map Value.ref) := vals_refs _
  refine sortVals (d := d) (B := codB) I rv (by rw [List.length_map, List.length_map]; omega) hd (isKeys_tups keys hks hb) (fun R k => ?_) (fun ys p hp hq hpn => q _ ys p keys hp hq hpn)
  refine PySem.W.kdu_collect (A := X.A.in1) (kdl_raw hs hx hdt) (I.ok.hd hc) ho (by omega) fun h' tk acc kp it => ?_
  have ea : acc.toList = (es.map fun x => x.2.1).map Value.ref := by
    have hl : acc.toList.length = es.length := by rw [Array.length_toList, it.1]; exact l1
    rw [List.map_map]
    apply List.ext_getElem?
    intro j
    rw [List.getElem?_map]
    by_cases hj : j < es.length
    · have hj2 : j < acc.toList.length := by omega
      obtain ⟨en, hen, hv⟩ := it.2 j acc.toList[j] (by rw [← Array.getElem?_toList]; exact List.getElem?_eq_getElem hj2)
      have qe := entry_at he j
      rw [hen, List.getElem?_eq_getElem hj] at qe
      have e2 : en = entryOfKey (tupleKind (mixKind X.prog X.w)) es[j] := Option.some.inj qe
      rw [List.getElem?_eq_getElem hj2, List.getElem?_eq_getElem hj, hv, e2]
      rfl
    · rw [List.getElem?_eq_none (by omega), List.getElem?_eq_none (by omega)]
      rfl
  rw [ea]
  exact k h' tk kp
/-- sorted, also of such a dict -/
def eSorted (fa : AX) : EX := fun env S => (fa env S).bnd fun xs S1 => match xs with
  | [.ref n] => (match S1[n]? with
    | some (.dcT l) => lift (bSortL (l.map (·.1))) S1
    | _ => .bad)
  | _ => lift (bSorted xs) S1
theorem rp_ref {xs : List D} {S1 : Store} {Pk : D → Store → Prop} {Pe : String → List D → Store → Prop} (h : ¬ ∃ n, xs = [.ref n]) (q : RP (match xs with
  | [.ref n] => (match S1[n]? with
    | some (.dcT l) => lift (bSortL (l.map (·.1))) S1
    | _ => .bad)
  | _ => lift (bSorted xs) S1) Pk Pe) : RP (lift (bSorted xs) S1) Pk Pe := by
  split at q
  · exact absurd ⟨_, rfl⟩ h
  · exact q
def rSortE (K : PySem.W.Frag) : List V → Hp → VK → Prop := fun vs H Q => rSorted K vs H Q ∨ rSortDT K vs H Q
theorem call_sortE (hc : X.calm = true) : CallR X (.builtin "sorted") (rSortE X.K) := fun pins s σ H vs us Q I r h => h.elim (call_sorted' pins s σ H vs us Q I r) (call_sortDT hc pins s σ H vs us Q I r)
theorem ie_sorted {x : Str} {p : Pos} (hK : X.K = T.K) (hc : X.calm = true) (hg : Gl X x) (hn : X.mg x = none) (hv : bootBuiltins x = some (.builtin "sorted")) (ha : IA T E X [a] fa) (hx : x ≠ "__name__" := by decide +kernel) (hdb : (x == ("__debug__" : Str)) = false := by decide +kernel)
    (he : starEach [a] X.env = (false, eval a X.env) :: starEach [] X.env := by rfl) (hpl : (backTo pos (starEach [] X.env)).any (·.1) = false := by rfl) : IE T E X (.Call (.Name x p) [a] [] pos) (eSorted fa) :=
  PE.mono (pe_callB (call_sortE hc) hg hn hv ha hx hdb he hpl) fun σ H Q ⟨w, env, S, r0, e, q⟩ => ⟨w, env, S, r0, e, (RP.bnd q).mono (fun xs S1 h1 w1 H1 vs l1 r1 p1 => by
    rw [hK]
    by_cases hr : ∃ n, xs = [.ref n]
    · obtain ⟨n, rfl⟩ := hr
      right
      dsimp only at h1
      split at h1
      · rename_i l hS
        cases z : bSortL (l.map (·.1)) with
        | none => rw [z] at h1; exact (show False from h1).elim
        | some d =>
          rw [z] at h1
          unfold bSortL at z
          split at z
          · rename_i hok
            cases z
            obtain ⟨v, rfl, p2⟩ := reps_one p1
            cases p2 with
            | ref hn2 =>
              obtain ⟨kvs, c1, c2, c3⟩ := r1.cell n _ _ hS hn2
              have hlen : kvs.length = (l.map (·.1)).length := by
                have z := congrArg List.length c2
                rw [List.length_map, List.length_map] at z
                rw [List.length_map]
                exact z
              have c2' : kvs.map (·.1) = (l.map (·.1)).map (fun k => k.map Sum.inl) := by rw [c2, List.map_map]; rfl
              have hok2 := hok
              unfold sortOk at hok2
              obtain ⟨h64, hok2⟩ := Bool.and_eq_true_iff.mp hok2
              have fin : ∀ (bs : List Addr) (ys : List V) (p : Addr), IsKeys H1 kvs bs → ys.Perm (bs.map V.ref) → ys.Pairwise (fun x y => ∀ n m, TupI T.K H1 x n → TupI T.K H1 y m → TS.code codB n ≤ TS.code codB m) → H1 p = none → Q (.ref p) (upd H1 p (.lst ys)) := fun bs ys p hk hp hq hpn => by
                obtain ⟨w2, l2, r2, p3⟩ := addKeys r1 hk c2
                have z2 := sorted_reps r2 hok p3 hp hq
                obtain ⟨l3, r3⟩ := r2.new hpn (.lst ys)
                exact h1 _ _ _ ((l1.trans l2).trans l3) r3 (.lst upd_same (z2.mono l3))
              generalize hks : l.map (·.1) = ks at *
              cases ks with
              | nil => exact ⟨_, kvs, 1, [], rfl, c1, c2', by rw [hlen]; exact of_decide_eq_true h64, Nat.le_refl _, fun k hk => (by cases hk), fin⟩
              | cons k ks =>
                have hok2 : (decide (1 ≤ k.length) && (k :: ks).all (tupOk k.length)) = true := hok2
                obtain ⟨h1', hok2⟩ := Bool.and_eq_true_iff.mp hok2
                exact ⟨_, kvs, k.length, k :: ks, rfl, c1, c2', by rw [hlen]; exact of_decide_eq_true h64, of_decide_eq_true h1', fun k' hk' => tupOk_bd (List.all_eq_true.mp hok2 k' hk'), fin⟩
          · cases z
      · exact (show False from h1).elim
    · left
      have h2 := rp_ref hr h1
      cases z : bSorted xs with
      | none => rw [z] at h2; exact (show False from h2).elim
      | some d =>
        rw [z] at h2
        exact bo_sorted w1 S1 xs vs H1 d Q r1 p1 z fun w' H' v l => h2 w' H' v (l1.trans l)) fun _ _ _ x => x⟩
end Ro
end
section
set_option Elab.async false
set_option linter.all false
set_option maxRecDepth 100000
set_option maxHeartbeats 4000000
namespace Ro
open PySem PySem.Spec PyProof.Rows L2
theorem callerG : RG 200 callerA := ⟨⟨rfl, by decide, by decide⟩, rfl⟩
/-- a number of at most 2 ^ 20 bits -/
def bits20 (n : Int) : Prop := Builtin.Int.intBits n ≤ 1048576
theorem funD_uniq {K : PySem.W.Frag} {x qual : Str} {params : Arguments} {body : List Stmt} {scope : Scope} {dvs : List V} {kws : List (Str × V)} {f : Addr} {fd fd' : FuncData} (h : FunD K x qual params body scope dvs kws f fd) (h' : FunD K x qual params body scope dvs kws f fd') : fd' = fd := by
  obtain ⟨_, _, _, _, _, _, _, _, _, _, _, e1, _⟩ := h.ex
  obtain ⟨_, _, _, _, _, _, _, _, _, _, _, e2, _⟩ := h'.ex
  rw [e1] at e2
  cases e2
  rfl
end Ro
end
section
set_option Elab.async false
set_option linter.all false
set_option maxRecDepth 100000
set_option maxHeartbeats 4000000
namespace Ro
open PySem
@[irreducible] def W {α : Type} (r : R α) (post : α → Store → Prop) : Prop := match r with
  | .ok a S => post a S
  | _ => False
@[simp] theorem W_ok {α : Type} (a : α) (S : Store) (post : α → Store → Prop) : W (.ok a S) post = post a S := by unfold W; rfl
@[simp] theorem W_err {α : Type} (c : String) (fs : List D) (S : Store) (post : α → Store → Prop) : W (.err c fs S : R α) post = False := by unfold W; rfl
@[simp] theorem W_bad {α : Type} (post : α → Store → Prop) : W (.bad : R α) post = False := by unfold W; rfl
theorem W.mono {α : Type} {r : R α} {p q : α → Store → Prop} (h : W r p) (k : ∀ a S, p a S → q a S) : W r q := by
  cases r with
  | ok a S => rw [W_ok] at h ⊢; exact k a S h
  | err c fs S => rw [W_err] at h; exact h.elim
  | bad => rw [W_bad] at h; exact h.elim
theorem W.bnd {α β : Type} {r : R α} {f : α → Store → R β} {q : β → Store → Prop} (h : W r fun a S => W (f a S) q) : W (r.bnd f) q := by
  cases r with
  | ok a S => rw [W_ok] at h; exact h
  | err c fs S => rw [W_err] at h; exact h.elim
  | bad => rw [W_bad] at h; exact h.elim
theorem W.ex {r : R D} {d : D} (h : W r fun x _ => x = d) : ∃ S, r = .ok d S := by
  cases r with
  | ok a S => rw [W_ok] at h; exact ⟨S, by rw [show a = d from h]⟩
  | err c fs S => rw [W_err] at h; exact h.elim
  | bad => rw [W_bad] at h; exact h.elim
/-- a loop by an invariant -/
theorem W.loop {tg : Pat} {body : ES} {I : Nat → Env → Store → Prop} {q : Ctl → Store → Prop} : ∀ {xs : List D} {k : Nat} {env : Env} {S : Store}, I k env S →
    (∀ (i : Nat) x env S, k ≤ i → xs[i - k]? = some x → I i env S → ∃ env1, tg x env = some env1 ∧ W (body env1 S) fun c S1 => match c with
      | .nx e => I (i + 1) e S1
      | .ct e => I (i + 1) e S1
      | .bk e => q (.nx e) S1
      | .rt d => q (.rt d) S1) →
    (∀ env S, I (k + xs.length) env S → q (.nx env) S) → W (loop tg body xs env S) q
  | [], k, env, S, h, _, fin => by rw [Ro.loop, W_ok]; exact fin env S h
  | x :: xs, k, env, S, h, step, fin => by
    obtain ⟨env1, e1, h1⟩ := step k x env S (Nat.le_refl _) (by simp) h
    unfold Ro.loop
    rw [e1]
    refine W.bnd (h1.mono fun c S1 hc => ?_)
    have next : ∀ e, I (k + 1) e S1 → W (Ro.loop tg body xs e S1) q := fun e he => W.loop (k := k + 1) he (fun i y env S hi hy => step i y env S (by omega) (by
      have : i - k = (i - (k + 1)) + 1 := by omega
      rw [this, List.getElem?_cons_succ]
      exact hy)) (fun env S hI => fin env S (by
      have : k + (x :: xs).length = k + 1 + xs.length := by simp; omega
      rw [this]
      exact hI))
    cases c with
    | nx e => exact next e hc
    | ct e => exact next e hc
    | bk e => rw [W_ok]; exact hc
    | rt d => rw [W_ok]; exact hc
/-- a comprehension without a test, by an invariant of what is made -/
theorem W.lc {tg : Pat} {c : BX} {el : EX} {env0 : Env} {I : Nat → List D → Store → Prop} {q : List D → Store → Prop} : ∀ {xs : List D} {k : Nat} {acc : List D} {S : Store}, I k acc S → acc.length + xs.length ≤ LINE →
    (∀ (i : Nat) x acc S, k ≤ i → xs[i - k]? = some x → I i acc S → ∃ env1, tg x env0 = some env1 ∧ W (c env1 S) fun b S1 => if b then W (el env1 S1) fun y S2 => I (i + 1) (acc ++ [y]) S2 else I (i + 1) acc S1) →
    (∀ acc S, I (k + xs.length) acc S → q acc S) → W (lcLoop tg c el env0 xs acc S) q
  | [], k, acc, S, h, _, _, fin => by rw [lcLoop, W_ok]; exact fin acc S h
  | x :: xs, k, acc, S, h, hl, step, fin => by
    obtain ⟨env1, e1, h1⟩ := step k x acc S (Nat.le_refl _) (by simp) h
    unfold lcLoop
    rw [e1]
    have next : ∀ acc' S', acc'.length ≤ acc.length + 1 → I (k + 1) acc' S' → W (lcLoop tg c el env0 xs acc' S') q := fun acc' S' hl' hI => W.lc (k := k + 1) hI (by simp at hl; omega) (fun i y a S hi hy => step i y a S (by omega) (by
      have : i - k = (i - (k + 1)) + 1 := by omega
      rw [this, List.getElem?_cons_succ]
      exact hy)) (fun a S hI => fin a S (by
      have : k + (x :: xs).length = k + 1 + xs.length := by simp; omega
      rw [this]
      exact hI))
    have nox : ∀ {α : Type} {r : R α} {p : α → Store → Prop}, W r p → W r.nox p := fun {α r p} h => by
      cases r with
      | ok a S => exact h
      | err c fs S => rw [W_err] at h; exact h.elim
      | bad => exact h
    refine W.bnd ((nox h1).mono fun b S1 hb => ?_)
    cases b with
    | false => exact next acc S1 (by omega) hb
    | true =>
      rw [if_pos rfl] at hb ⊢
      refine W.bnd ((nox hb).mono fun y S2 hy => ?_)
      rw [if_pos (by simp at hl; omega)]
      exact next (acc ++ [y]) S2 (by simp) hy
end Ro
end
section
set_option Elab.async false
set_option linter.all false
set_option maxRecDepth 100000
set_option maxHeartbeats 4000000
namespace Ro
open PySem
variable {env : Env} {S : Store}
@[simp] theorem u_eVar (i : Nat) : eVar i env S = (match env[i]? with
  | some (some d) => .ok d S
  | _ => .bad) := rfl
@[simp] theorem u_eC (d : D) : eC d env S = .ok d S := rfl
@[simp] theorem u_eOp (op : D → D → Option D) (a b : EX) : eOp op a b env S = (a env S).bnd fun x S1 => (b env S1).bnd fun y S2 => lift (op x y) S2 := rfl
@[simp] theorem u_eUn (op : D → Option D) (a : EX) : eUn op a env S = (a env S).bnd fun x S1 => lift (op x) S1 := rfl
@[simp] theorem u_aNil : aNil env S = .ok [] S := rfl
@[simp] theorem u_aCons (a : EX) (r : AX) : aCons a r env S = (a env S).bnd fun x S1 => (r env S1).bnd fun xs S2 => .ok (x :: xs) S2 := rfl
@[simp] theorem u_eFn (m : List D → List D → Store → R D) (fa fk : AX) : eFn m fa fk env S = (fa env S).bnd fun xs S1 => (fk env S1).bnd fun zs S2 => m xs zs S2 := rfl
@[simp] theorem u_callM (m : Fn) (n kn pn : Nat) (pk : List (Nat × Nat)) (dfs xs ys : List D) : callM m n kn pn pk dfs xs ys S = if xs.length = n ∧ ys.length = kn ∧ (pick pk xs dfs ys).length = pn then m (pick pk xs dfs ys) S else .bad := rfl
@[simp] theorem u_pick0 {α : Type} (us its ws : List α) : pick [] us its ws = [] := rfl
@[simp] theorem u_pick1 {α : Type} (p : Nat × Nat) (pk : List (Nat × Nat)) (us its ws : List α) : pick (p :: pk) us its ws = ((if p.1 = 0 then us else if p.1 = 1 then its else ws)[p.2]?).toList ++ pick pk us its ws := rfl
@[simp] theorem u_eTup (a : AX) : eTup a env S = (a env S).bnd fun xs S1 => if xs.length ≤ LINE then .ok (.tup xs) S1 else .bad := rfl
@[simp] theorem u_eLst (a : AX) : eLst a env S = (a env S).bnd fun xs S1 => if xs.length ≤ LINE then .ok (.lst xs) S1 else .bad := rfl
@[simp] theorem u_eLstM (a : AX) : eLstM a env S = (a env S).bnd fun xs S1 => if xs.length ≤ LINE then .ok (.ref S1.length) (S1 ++ [.lst xs]) else .bad := rfl
@[simp] theorem u_bOf (a : EX) : bOf a env S = (a env S).bnd fun x S1 => lift (truth x) S1 := rfl
@[simp] theorem u_bVal (a : EX) : bVal a env S = (a env S).bnd fun x S1 => match x with
  | .bl b => .ok b S1
  | _ => .bad := rfl
@[simp] theorem u_bAnd (a b : BX) : bAnd a b env S = (a env S).bnd fun c S1 => if c then b env S1 else .ok false S1 := rfl
@[simp] theorem u_bOr (a b : BX) : bOr a b env S = (a env S).bnd fun c S1 => if c then .ok true S1 else b env S1 := rfl
@[simp] theorem u_bNot (a : BX) : bNot a env S = (a env S).bnd fun c S1 => .ok (!c) S1 := rfl
@[simp] theorem u_eAnd (a b : EX) : eAnd a b env S = (a env S).bnd fun x S1 => match x with
  | .bl c => if c then b env S1 else .ok (.bl false) S1
  | _ => .bad := rfl
@[simp] theorem u_eOr (a b : EX) : eOr a b env S = (a env S).bnd fun x S1 => match x with
  | .bl c => if c then .ok (.bl true) S1 else b env S1
  | _ => .bad := rfl
@[simp] theorem u_eNot (a : EX) : eNot a env S = (a env S).bnd fun x S1 => match x with
  | .bl c => .ok (.bl (!c)) S1
  | _ => .bad := rfl
@[simp] theorem u_eIf (c : BX) (a b : EX) : eIf c a b env S = (c env S).bnd fun k S1 => if k then a env S1 else b env S1 := rfl
def chk {α : Type} (o : Option D) (a b : R α) : R α := match o with
  | some (.bl c) => if c then a else b
  | _ => .bad
@[simp] theorem chk_bl {α : Type} (c : Bool) (a b : R α) : chk (some (.bl c)) a b = if c then a else b := rfl
@[simp] theorem u_eChain (op op' : D → D → Option D) (a b c : EX) : eChain op op' a b c env S = (a env S).bnd fun x S1 => (b env S1).bnd fun y S2 => chk (op x y) ((c env S2).bnd fun z S3 => lift (op' y z) S3) (.ok (.bl false) S2) := by
  unfold eChain
  congr 1
  funext x S1
  congr 1
  funext y S2
  unfold chk
  split
  · rename_i h; simp [h]
  · rename_i h; simp [h]
  · rename_i h1 h2
    split
    · rename_i c h
      cases c
      · exact (h2 h).elim
      · exact (h1 h).elim
    · rfl
@[simp] theorem u_eIdxB (a b : EX) : eIdxB a b env S = (a env S).bnd fun x S1 => (b env S1).bnd fun y S2 => lift (idxB x y S2) S2 := rfl
@[simp] theorem u_oNone : oNone env S = .ok none S := rfl
@[simp] theorem u_oSome (a : EX) : oSome a env S = (a env S).bnd fun x S1 => match x with
  | .int i => .ok (some i) S1
  | _ => .bad := rfl
@[simp] theorem u_eCut (a : EX) (lo hi : OX) : eCut a lo hi env S = (a env S).bnd fun x S1 => (lo env S1).bnd fun l S2 => (hi env S2).bnd fun h S3 => lift (cutD x l h) S3 := rfl
@[simp] theorem u_eIsI (tys : List Ty) (Tt : Ty) (a : EX) : eIsI tys Tt a env S = (a env S).bnd fun x S1 => match tyD x S1 with
  | some t => if tys.contains t then .ok (.bl (subTy t Tt)) S1 else .bad
  | none => .bad := rfl
@[simp] theorem u_eAttr (cf : String → List String) (cs : List String) (f : String) (a : EX) : eAttr cf cs f a env S = (a env S).bnd fun x S1 => lift (attrD cf cs f x S1) S1 := rfl
@[simp] theorem u_eB (m : List D → Option D) (fa : AX) : eB m fa env S = (fa env S).bnd fun xs S1 => lift (m xs) S1 := rfl
@[simp] theorem u_eMeth (cf : String → List String) (c mn : String) (m : List D → List D → Store → R D) (o : EX) (fa fk : AX) : eMeth cf c mn m o fa fk env S = (o env S).bnd fun x S1 => if isInst cf c mn x S1 then (fa env S1).bnd fun xs S2 => (fk env S2).bnd fun zs S3 => m (x :: xs) zs S3 else .bad := rfl
@[simp] theorem u_eFrz (cf : String → List String) (a : EX) : eFrz cf a env S = frzM cf (a env S) := rfl
@[simp] theorem u_eLC (vs : List Nat) (it : AX) (tg : Pat) (c : BX) (el : EX) : eLC vs it tg c el env S = (it env S).bnd fun xs S1 => (lcLoop tg c el (wipeE env vs) xs [] S1).bnd fun ys S2 => .ok (.lst ys) S2 := rfl
@[simp] theorem u_bYes : bYes env S = .ok true S := rfl
@[simp] theorem u_eSorted (fa : AX) : eSorted fa env S = (fa env S).bnd fun xs S1 => match xs with
  | [.ref n] => (match S1[n]? with
    | some (.dcT l) => lift (bSortL (l.map (·.1))) S1
    | _ => .bad)
  | _ => lift (bSorted xs) S1 := rfl
@[simp] theorem u_eDctT : eDctT env S = .ok (.ref S.length) (S ++ [.dcT []]) := rfl
@[simp] theorem u_sSet (i : Nat) (e : EX) : sSet i e env S = (e env S).bnd fun d S1 => .ok (.nx (env.set i (some d))) S1 := rfl
@[simp] theorem u_sSeq (s t : ES) : sSeq s t env S = (s env S).bnd fun c S1 => match c with
  | .nx e => t e S1
  | c => .ok c S1 := rfl
@[simp] theorem u_sPass : sPass env S = .ok (.nx env) S := rfl
@[simp] theorem u_sIf (c : BX) (s t : ES) : sIf c s t env S = (c env S).bnd fun k S1 => if k then s env S1 else t env S1 := rfl
@[simp] theorem u_sRet (e : EX) : sRet e env S = (e env S).bnd fun d S1 => .ok (.rt d) S1 := rfl
@[simp] theorem u_sExpr (e : EX) : sExpr e env S = (e env S).bnd fun _ S1 => .ok (.nx env) S1 := rfl
@[simp] theorem u_sUnp (p : Pat) (e : EX) : sUnp p e env S = (e env S).bnd fun d S1 => match p d env with
  | some env' => .ok (.nx env') S1
  | none => .bad := rfl
@[simp] theorem u_sPar2 (i j : Nat) (fa : AX) : sPar2 i j fa env S = (fa env S).bnd fun xs S1 => match xs with
  | [x, y] => .ok (.nx ((env.set i (some x)).set j (some y))) S1
  | _ => .bad := rfl
@[simp] theorem u_sFor (it : AX) (tg : Pat) (body : ES) : sFor it tg body env S = (it env S).bnd fun xs S1 => loop tg body xs env S1 := rfl
@[simp] theorem u_sSetIt (o i v : EX) : sSetIt o i v env S = (v env S).bnd fun z S1 => (o env S1).bnd fun x S2 => (i env S2).bnd fun y S3 => match setM x y z S3 with
  | some S4 => .ok (.nx env) S4
  | none => .bad := rfl
@[simp] theorem u_sSetAttr (cs : List String) (f : String) (o v : EX) : sSetAttr cs f o v env S = (v env S).bnd fun y S1 => (o env S1).bnd fun x S2 => match x with
  | .ref n => match S2[n]? with
    | some (.ins c fs) => if cs.contains c && decide (fs.length < 1000) then .ok (.nx env) (S2.set n (.ins c (setF f y fs))) else .bad
    | _ => .bad
  | _ => .bad := rfl
@[simp] theorem u_sPutT (o : EX) (ks : AX) (v : EX) : sPutT o ks v env S = (v env S).bnd fun z S1 => (o env S1).bnd fun x S2 => (ks env S2).bnd fun ys S3 => match x, dInts ys with
  | .ref n, some k => (match S3[n]? with
    | some (.dcT l) => if l.length < LINE ∧ ys.length ≤ LINE then .ok (.nx env) (S3.set n (.dcT (putL l k z))) else .bad
    | _ => .bad)
  | _, _ => .bad := rfl
@[simp] theorem u_itR1 (fa : AX) : itR1 fa env S = (fa env S).bnd fun ds S1 => match ds with
  | [.int j] => if small62 j then .ok (rngL 0 j.toNat) S1 else .bad
  | _ => .bad := rfl
@[simp] theorem u_itR2 (fa : AX) : itR2 fa env S = (fa env S).bnd fun ds S1 => match ds with
  | [.int i, .int j] => if small62 i && small62 j then .ok (rngL i (j - i).toNat) S1 else .bad
  | _ => .bad := rfl
@[simp] theorem u_itAny (f : EX) : itAny f env S = (f env S).bnd fun d S1 => match d with
  | .lst l => .ok l S1
  | .tup l => .ok l S1
  | .str s => .ok (s.cps.toList.map fun c => .str ⟨#[c]⟩) S1
  | _ => .bad := rfl
@[simp] theorem u_itZip (fa : AX) : itZip fa env S = (fa env S).bnd fun ds S1 => match ds with
  | [.lst l, .lst m] => .ok (zipL l m) S1
  | [.tup l, .tup m] => .ok (zipL l m) S1
  | _ => .bad := rfl
@[simp] theorem u_fnM (n : Nat) (body : ES) (ds : List D) : fnM n body ds S = (body (ds.map some ++ List.replicate (n - ds.length) none) S).bnd fun c S1 => match c with
  | .rt d => .ok d S1
  | .nx _ => .ok .non S1
  | _ => .bad := rfl
@[simp] theorem u_pName (i : Nat) (d : D) : pName i d env = some (env.set i (some d)) := rfl
@[simp] theorem u_pTup (r : List D → Env → Option Env) (l : List D) : pTup r (.tup l) env = r l env := rfl
@[simp] theorem u_pNil : pNil [] env = some env := rfl
@[simp] theorem u_pCons (p : Pat) (r : List D → Env → Option Env) (d : D) (ds : List D) : pCons p r (d :: ds) env = (p d env).bind fun e => r ds e := rfl
@[simp] theorem o_add (i j : Int) : addD (.int i) (.int j) = some (.int (i + j)) := rfl
@[simp] theorem o_sub (i j : Int) : subD (.int i) (.int j) = some (.int (i - j)) := rfl
@[simp] theorem o_mul (i j : Int) : mulD (.int i) (.int j) = if mulOk i j then some (.int (i * j)) else none := rfl
@[simp] theorem o_fdiv (i j : Int) : fdivD (.int i) (.int j) = if 0 < j ∧ j.natAbs.log2 < 9000 then some (.int (i / j)) else none := rfl
@[simp] theorem o_mod (i j : Int) : modD (.int i) (.int j) = if 0 < j then some (.int (i % j)) else none := rfl
@[simp] theorem o_neg (i : Int) : negD (.int i) = some (.int (-i)) := rfl
@[simp] theorem o_lt (i j : Int) : ltA (.int i) (.int j) = some (.bl (decide (i < j))) := rfl
@[simp] theorem o_le (i j : Int) : leD (.int i) (.int j) = some (.bl (decide (i ≤ j))) := rfl
@[simp] theorem o_gt (i j : Int) : gtD (.int i) (.int j) = some (.bl (decide (j < i))) := rfl
@[simp] theorem o_eqi (i j : Int) : eqD (.int i) (.int j) = some (.bl (decide (i = j))) := rfl
@[simp] theorem o_nei (i j : Int) : neD (.int i) (.int j) = some (.bl (!decide (i = j))) := rfl
@[simp] theorem o_powi (i j : Int) : powD (.int i) (.int j) = if 0 ≤ j ∧ j ≤ 1000000 ∧ i.natAbs < 2 ^ 64 then some (.int (i ^ j.toNat)) else none := rfl
@[simp] theorem ix_nn (n j : Nat) (h : j < n) : pyIx n (j : Int) = some j := by
  unfold pyIx
  rw [if_pos (by omega), if_pos (by omega)]
  simp
@[simp] theorem ix_0 (n : Nat) : pyIx (n + 1) 0 = some 0 := ix_nn (n + 1) 0 (by omega)
@[simp] theorem idx_ref (n : Nat) (i : Int) : idxB (.ref n) (.int i) S = (match S[n]? with
    | some (.lst l) => atP l i
    | _ => none) := rfl
@[simp] theorem idx_lst (l : List D) (i : Int) : idxB (.lst l) (.int i) S = atP l i := rfl
@[simp] theorem idx_tup (l : List D) (i : Int) : idxB (.tup l) (.int i) S = atP l i := rfl
@[simp] theorem idx_scr (l : List Int) (i : Int) : idxB (.scr l) (.int i) S = (atP l i).map D.int := rfl
@[simp] theorem set_ref (n : Nat) (i : Int) (v : D) : setM (.ref n) (.int i) v S = (match S[n]? with
    | some (.lst l) => (pyIx l.length i).map fun j => S.set n (.lst (l.set j v))
    | _ => none) := rfl
@[simp] theorem W_bnd {α β : Type} (r : R α) (f : α → Store → R β) (q : β → Store → Prop) : W (r.bnd f) q = W r fun a S => W (f a S) q := by cases r <;> simp
@[simp] theorem W_lift {α : Type} (o : Option α) (q : α → Store → Prop) : W (lift o S) q = ∃ a, o = some a ∧ q a S := by cases o <;> simp [lift]
@[simp] theorem u_small (i : Int) : small62 i = decide (-(2 ^ 62) ≤ i ∧ i < 2 ^ 62) := rfl
@[simp] theorem rng_len (lo : Int) (n : Nat) : (rngL lo n).length = n := by simp [rngL]
theorem rng_get {lo : Int} {n i : Nat} {d : D} (h : (rngL lo n)[i]? = some d) : i < n ∧ d = .int (lo + (i : Int)) := by
  unfold rngL at h
  rw [List.getElem?_map] at h
  cases z : (List.range n)[i]? with
  | none => rw [z] at h; cases h
  | some k =>
    rw [z] at h
    obtain ⟨hl, e⟩ := List.getElem?_eq_some_iff.mp z
    rw [List.getElem_range] at e
    subst e
    cases h
    exact ⟨by simpa using hl, rfl⟩
@[simp] theorem at_0 (d : D) (l : List D) : atP (d :: l) 0 = some d := by simp [atP]
@[simp] theorem at_1 (d e : D) (l : List D) : atP (d :: e :: l) 1 = some e := by
  have : pyIx (d :: e :: l).length 1 = some 1 := ix_nn _ 1 (by simp)
  unfold atP
  rw [this]
  rfl
@[simp] theorem ix_1 (n : Nat) : pyIx (n + 1 + 1) 1 = some 1 := ix_nn (n + 2) 1 (by omega)
@[simp high] theorem W_liftIf {α : Type} (c : Prop) [Decidable c] (a : α) (q : α → Store → Prop) : W (lift (if c then some a else none) S) q = (c ∧ q a S) := by
  by_cases h : c <;> simp [h, lift]
@[simp] theorem log_7 : Nat.log2 7 < 9000 := by decide
@[simp] theorem log_2 : Nat.log2 2 < 9000 := by decide
@[simp] theorem LINE_eq : LINE = 16777216 := rfl
@[simp] theorem pyEq_str (a b : Str) : pyEq (.str a) (.str b) = decide (a = b) := by rw [pyEq]
@[simp] theorem pyEq_int (a b : Int) : pyEq (.int a) (.int b) = decide (a = b) := by rw [pyEq]
@[simp] theorem pyEq_tup (a b : List D) : pyEq (.tup a) (.tup b) = pyEqs a b := by rw [pyEq]
@[simp] theorem pyEq_lst (a b : List D) : pyEq (.lst a) (.lst b) = pyEqs a b := by rw [pyEq]
@[simp] theorem pyEqs_nil : pyEqs [] [] = true := by rw [pyEqs]
@[simp] theorem pyEqs_cons (x y : D) (l m : List D) : pyEqs (x :: l) (y :: m) = (pyEq x y && pyEqs l m) := by rw [pyEqs]
@[simp] theorem pyEqs_nc (y : D) (m : List D) : pyEqs [] (y :: m) = false := by rw [pyEqs] <;> simp
@[simp] theorem pyEqs_cn (x : D) (l : List D) : pyEqs (x :: l) [] = false := by rw [pyEqs] <;> simp
@[simp] theorem inL_nil (x : D) : inL x [] = false := rfl
@[simp] theorem inL_cons (x y : D) (l : List D) : inL x (y :: l) = (pyEq y x || inL x l) := rfl
@[simp] theorem pl_str (n : Nat) (a : Str) : plN n (.str a) = true := by cases n <;> rfl
@[simp] theorem pl_int (n : Nat) (a : Int) : plN n (.int a) = true := by cases n <;> rfl
@[simp] theorem pl_bl (n : Nat) (a : Bool) : plN n (.bl a) = true := by cases n <;> rfl
@[simp] theorem pl_non (n : Nat) : plN n .non = true := by cases n <;> rfl
@[simp] theorem pl_tup (n : Nat) (l : List D) : plN (n + 1) (.tup l) = l.all (plN n) := rfl
@[simp] theorem pl_lst (n : Nat) (l : List D) : plN (n + 1) (.lst l) = l.all (plN n) := rfl
@[simp] theorem pl_D (d : D) : plD d = plN 8 d := rfl
end Ro
end
section
set_option Elab.async false
set_option linter.all false
set_option maxRecDepth 100000
set_option maxHeartbeats 4000000
namespace Ro
open PySem
def b__law_box : ES :=
  (sSeq (sSet 2 (eOp addD (eOp mulD (eC (.int 7919)) (eVar 1)) (eC (.int 13))))
  (sSeq (sIf (bVal (eOp ltA (eVar 1) (eB bLenA (aCons (eVar 0) aNil)))) (sSet 2 (eIdxB (eVar 0) (eVar 1))) sPass)
  (sSeq (sIf (bVal (eOp eqD (eOp modD (eVar 2) (eC (.int 2))) (eC (.int 0)))) (sRet (eLstM (aCons (eOp fdivD (eVar 2) (eC (.int 2))) (aCons (eOp modD (eB bAbs (aCons (eVar 2) aNil)) (eC (.int 2147483647))) aNil)))) sPass)
  (sSeq (sSet 3 (eC (.int 0)))
  (sSeq (sFor (itR1 (aCons (eC (.int 16)) aNil)) (pName 4) (sSeq (sSet 5 (eOp modD (eOp addD (eOp addD (eOp mulD (eOp modD (eVar 2) (eC (.int 2147483647))) (eC (.int 48271))) (eOp mulD (eC (.int 7919)) (eVar 4))) (eC (.int 1))) (eC (.int 2147483647))))
  (sSeq (sSet 5 (eOp modD (eOp mulD (eVar 5) (eVar 5)) (eC (.int 2147483629))))
  (sSet 3 (eOp addD (eOp mulD (eVar 3) (eC (.int 2147483647))) (eOp modD (eOp mulD (eVar 5) (eOp addD (eVar 5) (eC (.int 13)))) (eC (.int 2147483647))))))))
  (sRet (eLstM (aCons (eVar 3) (aCons (eOp modD (eB bAbs (aCons (eVar 2) aNil)) (eC (.int 2147483647))) aNil)))))))))
def m__law_box : Fn := fnM 6 b__law_box
def b__law_more : ES :=
  (sSeq (sSet 1 (eC (.int 0)))
  (sSeq (sFor (itR1 (aCons (eC (.int 12)) aNil)) (pName 2) (sSeq (sSetIt (eVar 0) (eC (.int 1)) (eOp modD (eOp addD (eOp mulD (eIdxB (eVar 0) (eC (.int 1))) (eC (.int 48271))) (eC (.int 30269))) (eC (.int 2147483647))))
  (sSet 1 (eOp addD (eOp mulD (eVar 1) (eC (.int 65521))) (eOp modD (eOp fdivD (eIdxB (eVar 0) (eC (.int 1))) (eC (.int 7))) (eC (.int 65521)))))))
  (sRet (eVar 1))))
def m__law_more : Fn := fnM 3 b__law_more
def b__law_take : ES :=
  (sSeq (sIf (bVal (eChain leD ltA (eC (.int 0)) (eIdxB (eVar 0) (eC (.int 0))) (eVar 1))) (sSetIt (eVar 0) (eC (.int 0)) (eOp addD (eIdxB (eVar 0) (eC (.int 0))) (eOp mulD (eVar 1) (eFn (callM m__law_more 1 0 1 [(0, 0)] []) (aCons (eVar 0) aNil) aNil)))) sPass)
  (sSeq (sUnp (pTup (pCons (pName 2) (pCons (pName 3) pNil))) (eB bDivmod (aCons (eIdxB (eVar 0) (eC (.int 0))) (aCons (eVar 1) aNil))))
  (sSeq (sSetIt (eVar 0) (eC (.int 0)) (eVar 2))
  (sRet (eVar 3)))))
def m__law_take : Fn := fnM 4 b__law_take
theorem mulOk_lt {i j : Int} {n m : Nat} (h1 : i.natAbs < 2 ^ n) (h2 : j.natAbs < 2 ^ m) (h : n + m < 1000000) (hn : 0 < n := by decide) (hm : 0 < m := by decide) : mulOk i j = true := by
  have key : ∀ {a k : Nat}, 0 < k → a < 2 ^ k → a.log2 < k := fun {a k} hk ha => by
    by_cases z : a = 0
    · subst z; simpa using hk
    · exact (Nat.log2_lt z).mpr ha
  unfold mulOk
  exact decide_eq_true (by have := key hn h1; have := key hm h2; omega)
/-- a box of digits stands at b -/
def Bx (S : Store) (b : Nat) : Prop := ∃ x y : Int, S[b]? = some (.lst [.int x, .int y]) ∧ 0 ≤ y ∧ y < 2147483647
/-- .. and was drawn from, nothing else was turned -/
def Bs (S : Store) (b : Nat) (S' : Store) : Prop := ∃ x y : Int, 0 ≤ y ∧ y < 2147483647 ∧ S' = S.set b (.lst [.int x, .int y])
theorem Bx.lt {S : Store} {b : Nat} (h : Bx S b) : b < S.length := by
  obtain ⟨x, y, h, _⟩ := h
  exact (List.getElem?_eq_some_iff.mp h).1
theorem Bs.bx {S S' : Store} {b : Nat} (h : Bs S b S') (hb : b < S.length) : Bx S' b := by
  obtain ⟨x, y, h1, h2, rfl⟩ := h
  exact ⟨x, y, by rw [List.getElem?_set]; simp [hb], h1, h2⟩
theorem Bs.trans {S S' S'' : Store} {b : Nat} (h : Bs S b S') (h' : Bs S' b S'') : Bs S b S'' := by
  obtain ⟨x, y, h1, h2, rfl⟩ := h
  obtain ⟨x', y', h3, h4, rfl⟩ := h'
  exact ⟨x', y', h3, h4, by rw [List.set_set]⟩
theorem Bs.len {S S' : Store} {b : Nat} (h : Bs S b S') : S'.length = S.length := by
  obtain ⟨x, y, h1, h2, rfl⟩ := h
  rw [List.length_set]
theorem Bs.other {S S' : Store} {b c : Nat} (h : Bs S b S') (hc : c ≠ b) : S'[c]? = S[c]? := by
  obtain ⟨x, y, h1, h2, rfl⟩ := h
  rw [List.getElem?_set_ne (Ne.symm hc)]
theorem more_ok {S : Store} {b : Nat} {x y : Int} (hS : S[b]? = some (.lst [.int x, .int y])) (hy : 0 ≤ y ∧ y < 2147483647) :
    W (m__law_more [.ref b] S) fun d S' => ∃ i y' : Int, d = .int i ∧ 0 ≤ i ∧ i < 2 ^ 192 ∧ 0 ≤ y' ∧ y' < 2147483647 ∧ S' = S.set b (.lst [.int x, .int y']) := by
  have hb : b < S.length := (List.getElem?_eq_some_iff.mp hS).1
  unfold m__law_more b__law_more
  simp
  refine W.loop (I := fun i env S' => ∃ (num y' : Int) (z : Option D), env = [some (.ref b), some (.int num), z] ∧ 0 ≤ num ∧ num < 2 ^ (16 * i) ∧ 0 ≤ y' ∧ y' < 2147483647 ∧ S' = S.set b (.lst [.int x, .int y'])) (k := 0)
    ⟨0, y, none, rfl, by omega, by decide, hy.1, hy.2, by apply List.ext_getElem?; intro j; by_cases h : b = j <;> simp [List.getElem?_set, h, hb, ← hS] <;> simp [← h, hb, hS]⟩ (fun i d env S' hi hd hI => ?_) (fun env S' hI => ?_)
  · obtain ⟨num, y', z, rfl, h1, h2, h3, h4, rfl⟩ := hI
    obtain ⟨hi12, _⟩ := rng_get hd
    refine ⟨_, rfl, ?_⟩
    have e1 : mulOk y' 48271 = true := mulOk_lt (n := 32) (m := 16) (by omega) (by decide) (by decide)
    have hpow : (2 : Int) ^ (16 * i) ≤ 2 ^ 192 := by
      have : (2 : Nat) ^ (16 * i) ≤ 2 ^ 192 := Nat.pow_le_pow_right (by decide) (by simp at hi12; omega)
      exact_mod_cast this
    have e2 : mulOk num 65521 = true := mulOk_lt (n := 193) (m := 16) (by
      have h : num < 2 ^ 192 := Int.lt_of_lt_of_le h2 hpow
      have : num.natAbs < 2 ^ 192 := by omega
      omega) (by decide) (by decide)
    simp [List.getElem?_set, hb, e1, e2]
    have e3 : (2 : Int) ^ (16 * (i + 1)) = 2 ^ (16 * i) * 65536 := by rw [Nat.mul_add, Int.pow_add]; rfl
    rw [e3]
    generalize (2 : Int) ^ (16 * i) = P at h2
    exact ⟨by omega, by omega, _, by omega, by omega, rfl⟩
  · obtain ⟨num, y', z, rfl, h1, h2, h3, h4, rfl⟩ := hI
    simp at h2
    simp
    exact ⟨h1, h2, y', h3, h4, rfl⟩
theorem take_ok {S : Store} {b : Nat} {n : Int} (hB : Bx S b) (hn : 0 < n ∧ n < 1152921504606846976) : W (m__law_take [.ref b, .int n] S) fun d S' => (∃ i : Int, d = .int i ∧ 0 ≤ i ∧ i < n) ∧ Bs S b S' := by
  obtain ⟨x, y, hS, hy1, hy2⟩ := hB
  have hb : b < S.length := (List.getElem?_eq_some_iff.mp hS).1
  have hd : divOk n = true := decide_eq_true hn
  unfold m__law_take b__law_take
  have md : ∀ z : Int, 0 ≤ z % n ∧ z % n < n := fun z => ⟨Int.emod_nonneg _ (by omega), Int.emod_lt_of_pos _ hn.1⟩
  by_cases c1 : 0 ≤ x
  · by_cases c2 : x < n
    · simp [hS, c1, c2]
      refine (more_ok hS ⟨hy1, hy2⟩).mono ?_
      rintro _ _ ⟨i, y', rfl, i1, i2, k1, k2, rfl⟩
      have e : mulOk n i = true := mulOk_lt (n := 61) (m := 193) (by omega) (by omega) (by decide)
      simp [e, hb, bDivmod, hd]
      exact ⟨md _, _, y', k1, k2, rfl⟩
    · simp [hS, c1, c2, bDivmod, hd]
      exact ⟨md _, _, y, hy1, hy2, rfl⟩
  · simp [hS, c1, bDivmod, hd]
    exact ⟨md _, _, y, hy1, hy2, rfl⟩
def boxTail : ES :=
  (sSeq (sIf (bVal (eOp eqD (eOp modD (eVar 2) (eC (.int 2))) (eC (.int 0)))) (sRet (eLstM (aCons (eOp fdivD (eVar 2) (eC (.int 2))) (aCons (eOp modD (eB bAbs (aCons (eVar 2) aNil)) (eC (.int 2147483647))) aNil)))) sPass)
  (sSeq (sSet 3 (eC (.int 0)))
  (sSeq (sFor (itR1 (aCons (eC (.int 16)) aNil)) (pName 4) (sSeq (sSet 5 (eOp modD (eOp addD (eOp addD (eOp mulD (eOp modD (eVar 2) (eC (.int 2147483647))) (eC (.int 48271))) (eOp mulD (eC (.int 7919)) (eVar 4))) (eC (.int 1))) (eC (.int 2147483647))))
  (sSeq (sSet 5 (eOp modD (eOp mulD (eVar 5) (eVar 5)) (eC (.int 2147483629))))
  (sSet 3 (eOp addD (eOp mulD (eVar 3) (eC (.int 2147483647))) (eOp modD (eOp mulD (eVar 5) (eOp addD (eVar 5) (eC (.int 13)))) (eC (.int 2147483647))))))))
  (sRet (eLstM (aCons (eVar 3) (aCons (eOp modD (eB bAbs (aCons (eVar 2) aNil)) (eC (.int 2147483647))) aNil)))))))
/-- a fresh box of the script -/
theorem box_ok {S : Store} {ns : List Int} {k : Nat} (hl : ns.length ≤ 63) (hk : k < 63) : W (m__law_box [.scr ns, .int k] S) fun d S' => ∃ x y : Int, d = .ref S.length ∧ S' = S ++ [.lst [.int x, .int y]] ∧ 0 ≤ y ∧ y < 2147483647 := by
  have eb : b__law_box = sSeq (sSet 2 (eOp addD (eOp mulD (eC (.int 7919)) (eVar 1)) (eC (.int 13)))) (sSeq (sIf (bVal (eOp ltA (eVar 1) (eB bLenA (aCons (eVar 0) aNil)))) (sSet 2 (eIdxB (eVar 0) (eVar 1))) sPass) boxTail) := rfl
  unfold m__law_box
  rw [eb]
  have e0 : mulOk 7919 k = true := mulOk_lt (n := 13) (m := 7) (by decide) (by omega) (by decide)
  have key : ∀ h : Int, W (boxTail [some (.scr ns), some (.int k), some (.int h), none, none, none] S) (fun c S' => ∃ x y : Int, c = .rt (.ref S.length) ∧ S' = S ++ [.lst [.int x, .int y]] ∧ 0 ≤ y ∧ y < 2147483647) := by
    intro h
    unfold boxTail
    have ab : ∀ z : Int, 0 ≤ z % 2147483647 ∧ z % 2147483647 < 2147483647 := fun z => ⟨by omega, by omega⟩
    by_cases c : h % 2 = 0
    · simp [c, bAbs]
      exact ⟨_, _, ⟨rfl, rfl⟩, (ab _).1, (ab _).2⟩
    · simp [c]
      refine W.loop (I := fun i env S' => ∃ (num : Int) (z w : Option D), env = [some (.scr ns), some (.int k), some (.int h), some (.int num), z, w] ∧ 0 ≤ num ∧ num < 2 ^ (31 * i) ∧ S' = S) (k := 0)
        ⟨0, none, none, rfl, by omega, by decide, rfl⟩ (fun i d env S' hi hd hI => ?_) (fun env S' hI => ?_)
      · obtain ⟨num, z, w, rfl, h1, h2, rfl⟩ := hI
        obtain ⟨hi16, rfl⟩ := rng_get hd
        refine ⟨_, rfl, ?_⟩
        have hpow : (2 : Int) ^ (31 * i) ≤ 2 ^ 496 := by
          have : (2 : Nat) ^ (31 * i) ≤ 2 ^ 496 := Nat.pow_le_pow_right (by decide) (by simp at hi16; omega)
          exact_mod_cast this
        have e2 : mulOk num 2147483647 = true := mulOk_lt (n := 497) (m := 31) (by
          have h : num < 2 ^ 496 := Int.lt_of_lt_of_le h2 hpow
          have : num.natAbs < 2 ^ 496 := by omega
          omega) (by decide) (by decide)
        have e3 : ∀ z : Int, mulOk (z % 2147483647) 48271 = true := fun z => mulOk_lt (n := 31) (m := 16) (by omega) (by decide) (by decide)
        have e4 : mulOk 7919 i = true := mulOk_lt (n := 13) (m := 5) (by decide) (by simp at hi16; omega) (by decide)
        have e5 : ∀ z : Int, mulOk (z % 2147483647) (z % 2147483647) = true := fun z => mulOk_lt (n := 31) (m := 31) (by omega) (by omega) (by decide)
        have e6 : ∀ z : Int, mulOk (z % 2147483629) (z % 2147483629 + 13) = true := fun z => mulOk_lt (n := 32) (m := 32) (by omega) (by omega) (by decide)
        simp [e2, e3, e4, e5, e6]
        have e7 : (2 : Int) ^ (31 * (i + 1)) = 2 ^ (31 * i) * 2147483648 := by rw [Nat.mul_add, Int.pow_add]; rfl
        rw [e7]
        generalize (2 : Int) ^ (31 * i) = P at h2
        exact ⟨by omega, by omega⟩
      · obtain ⟨num, z, w, rfl, h1, h2, rfl⟩ := hI
        simp [bAbs]
        exact ⟨_, _, ⟨rfl, rfl⟩, (ab _).1, (ab _).2⟩
  by_cases c : k < ns.length
  · have hix : atP ns (k : Int) = some ns[k] := by
      unfold atP
      rw [ix_nn _ _ c]
      simp [c]
    simp only [u_fnM, W_bnd]
    simp [e0, bLenA, bLen, lenD, c, hix]
    refine ((key ns[k])).mono ?_
    rintro _ _ ⟨x, y, rfl, rfl, h1, h2⟩
    simp
    exact ⟨_, _, ⟨rfl, rfl⟩, h1, h2⟩
  · simp only [u_fnM, W_bnd]
    simp [e0, bLenA, bLen, lenD, c]
    refine ((key (7919 * k + 13))).mono ?_
    rintro _ _ ⟨x, y, rfl, rfl, h1, h2⟩
    simp
    exact ⟨_, _, ⟨rfl, rfl⟩, h1, h2⟩
end Ro
end
section
set_option Elab.async false
set_option linter.all false
set_option maxRecDepth 100000
set_option maxHeartbeats 4000000
namespace Ro
open PySem PySem.Spec PyProof.Rows L2
variable {T : Tb} {E : XK} {X : Cx} {a b c e : Expr} {es : List Expr} {f g h : EX} {fa ga fk : AX} {fb gb : BX} {pos : Pos} {st : Stmt} {sts rest : List Stmt} {s t : ES}
theorem ie_fnF {k n kn pn : Nat} {d : He.DefD} {x : Str} {p : Pos} {kws : List Keyword} {ps ks : List Str} {m : Fn} {pk : List (Nat × Nat)} {dfs : List D} (F : OkF T X.prog X.w X.mg X.base k d ps m) (hK : X.K = T.K) (hr : RG k X.A) (hg : Gl X x) (hm : X.mg x = some (.ref (He.fAd T.K d.at_)))
    (hb : ∀ fd, FunD T.K d.name d.qual d.params d.body d.scope (d.dvs T.K) [] (He.fAd T.K d.at_) fd → KBD T fd ps n ks pk dfs) (tk : Takes X fun c d _ H => E c d H) (ha : AK T E X es kws pos ks fa fk) (hdb : (x == ("__debug__" : Str)) = false := by decide +kernel) (h2 : ks.length = kn := by rfl) (h3 : ps.length = pn := by rfl) :
    IE T E X (.Call (.Name x p) es kws pos) (eFn (callM m n kn pn pk dfs) fa fk) := by
  subst h2 h3
  exact ie_fn F hK hr hg hm hb tk ha hdb
theorem ie_newF {k n n' kn pn : Nat} {cn : String} {d : He.DefD} {p : Pos} {kws : List Keyword} {ps ks : List Str} {m : Fn} {pk : List (Nat × Nat)} {dfs : List D} (F : OkF T X.prog X.w X.mg X.base k d ps m) (M : Mk T.K (He.ga T.K (cn : Str)) (He.fAd T.K d.at_)) (hK : X.K = T.K) (hr : RG (k + 1) X.A) (hg : Gl X (cn : Str)) (hm : X.mg (cn : Str) = some (.ref (He.ga T.K (cn : Str))))
    (hb : ∀ fd, FunD T.K d.name d.qual d.params d.body d.scope (d.dvs T.K) [] (He.fAd T.K d.at_) fd → KBD T fd ps n' ks pk dfs) (tk : Takes X fun c d _ H => E c d H) (ha : AK T E X es kws pos ks fa fk) (h1 : n' = n + 1) (hdb : ((cn : Str) == ("__debug__" : Str)) = false := by decide +kernel) (h2 : ks.length = kn := by rfl) (h3 : ps.length = pn := by rfl) :
    IE T E X (.Call (.Name (cn : Str) p) es kws pos) (eFn (newM cn (callM m n' kn pn pk dfs)) fa fk) := by
  subst h1 h2 h3
  exact ie_new F M hK hr hg hm hb tk ha hdb
end Ro
end
section
set_option Elab.async false
set_option linter.all false
set_option maxRecDepth 100000
set_option maxHeartbeats 4000000
namespace Ro
open PySem PySem.Spec PyProof.Rows L2
mutual
def noThk : D → Bool
  | .non => true
  | .bl _ => true
  | .int _ => true
  | .str _ => true
  | .tup l => noThks l
  | .lst l => noThks l
  | .dct l => noThkK l
  | .obj _ l => noThks l
  | .scr _ => true
  | .ref _ => true
  | .fn _ => true
  | .thk _ _ => false
def noThks : List D → Bool
  | [] => true
  | d :: l => noThk d && noThks l
def noThkK : List (D × D) → Bool
  | [] => true
  | (_, d) :: l => noThk d && noThkK l
end
def Tb.at (T : Tb) (x : Option XC) : Tb := { T with xc := x }
mutual
theorem Rep.noThk {T : Tb} {w : Wd} (hx : T.xc = none) : ∀ {d : D} {v : V}, Rep T w d v → noThk d = true
  | _, _, .non => rfl
  | _, _, .bl _ => rfl
  | _, _, .int _ => rfl
  | _, _, .str _ => rfl
  | _, _, .tup _ r => by rw [Ro.noThk]; exact r.noThk hx
  | _, _, .scr _ => rfl
  | _, _, .lst _ r => by rw [Ro.noThk]; exact r.noThk hx
  | _, _, .dct _ r => by rw [Ro.noThk]; exact r.noThk hx
  | _, _, .obj _ _ r => by rw [Ro.noThk]; exact r.noThk hx
  | _, _, .ref _ => rfl
  | _, _, .fn _ => rfl
  | _, _, .xc0 h _ => by rw [hx] at h; cases h
  | _, _, .xc1 h _ _ _ _ => by rw [hx] at h; cases h
theorem Reps.noThk {T : Tb} {w : Wd} (hx : T.xc = none) : ∀ {l : List D} {vs : List V}, Reps T w l vs → noThks l = true
  | _, _, .nil => rfl
  | _, _, .cons q r => by rw [noThks, q.noThk hx, r.noThk hx]; rfl
theorem RepK.noThk {T : Tb} {w : Wd} (hx : T.xc = none) : ∀ {l : List (D × D)} {vs : List (Key × V)}, RepK T w l vs → noThkK l = true
  | _, _, .nil => rfl
  | _, _, .int q r => by rw [noThkK, q.noThk hx, r.noThk hx]; rfl
  | _, _, .str q r => by rw [noThkK, q.noThk hx, r.noThk hx]; rfl
end
mutual
theorem Rep.at {T : Tb} {w : Wd} {x y : Option XC} : ∀ {d : D} {v : V}, Ro.noThk d = true → Rep (T.at x) w d v → Rep (T.at y) w d v
  | _, _, _, .non => .non
  | _, _, _, .bl b => .bl b
  | _, _, _, .int i => .int i
  | _, _, _, .str s => .str s
  | _, _, h, .tup q r => .tup q (Reps.at (by rw [Ro.noThk] at h; exact h) r)
  | _, _, _, .scr q => .scr q
  | _, _, h, .lst q r => .lst q (Reps.at (by rw [Ro.noThk] at h; exact h) r)
  | _, _, h, .dct q r => .dct q (RepK.at (by rw [Ro.noThk] at h; exact h) r)
  | _, _, h, .obj q n r => .obj q n (Reps.at (by rw [Ro.noThk] at h; exact h) r)
  | _, _, _, .ref q => .ref q
  | _, _, _, .fn z => .fn z
  | _, _, h, .xc0 _ _ => by rw [Ro.noThk] at h; cases h
  | _, _, h, .xc1 _ _ _ _ _ => by rw [Ro.noThk] at h; cases h
theorem Reps.at {T : Tb} {w : Wd} {x y : Option XC} : ∀ {l : List D} {vs : List V}, noThks l = true → Reps (T.at x) w l vs → Reps (T.at y) w l vs
  | _, _, _, .nil => .nil
  | _, _, h, .cons q r => by
    rw [noThks, Bool.and_eq_true] at h
    exact .cons (Rep.at h.1 q) (Reps.at h.2 r)
theorem RepK.at {T : Tb} {w : Wd} {x y : Option XC} : ∀ {l : List (D × D)} {vs : List (Key × V)}, noThkK l = true → RepK (T.at x) w l vs → RepK (T.at y) w l vs
  | _, _, _, .nil => .nil
  | _, _, h, .int q r => by
    rw [noThkK, Bool.and_eq_true] at h
    exact .int (Rep.at h.1 q) (RepK.at h.2 r)
  | _, _, h, .str q r => by
    rw [noThkK, Bool.and_eq_true] at h
    exact .str (Rep.at h.1 q) (RepK.at h.2 r)
end
def noThkC : Cell → Bool
  | .dead => true
  | .lst l => noThks l
  | .dct l => noThkK l
  | .ins _ fs => noThks (fs.map (·.2))
  | .dcT l => noThks (l.map (·.2))
theorem CellR.noThk {T : Tb} {w : Wd} {H : Hp} {a : Addr} (hx : T.xc = none) : ∀ {c : Cell}, CellR T w H a c → noThkC c = true
  | .dead, _ => rfl
  | .lst _, ⟨_, _, r⟩ => r.noThk hx
  | .dct _, ⟨_, _, r⟩ => r.noThk hx
  | .ins _ _, ⟨_, _, _, _, r⟩ => r.noThk hx
  | .dcT _, ⟨_, _, _, r⟩ => r.noThk hx
theorem CellR.at {T : Tb} {w : Wd} {H : Hp} {a : Addr} {x y : Option XC} : ∀ {c : Cell}, noThkC c = true → CellR (T.at x) w H a c → CellR (T.at y) w H a c
  | .dead, _, _ => trivial
  | .lst _, h, ⟨vs, e, r⟩ => ⟨vs, e, r.at h⟩
  | .dct _, h, ⟨vs, e, r⟩ => ⟨vs, e, r.at h⟩
  | .ins _ _, h, ⟨dx, gs, e, n, r⟩ => ⟨dx, gs, e, n, r.at h⟩
  | .dcT _, h, ⟨vs, e, n, r⟩ => ⟨vs, e, n, r.at h⟩
/-- a store and hidden lists that hold no exception in hand -/
def Clean (S : Store) (hid : List (Addr × List D)) : Prop := (∀ c ∈ S, noThkC c = true) ∧ ∀ p ∈ hid, noThks p.2 = true
theorem WR.clean {T : Tb} {w : Wd} {S : Store} {H : Hp} (hx : T.xc = none) (r : WR T w S H) : Clean S w.hid := by
  refine ⟨fun c hc => ?_, fun p hp => ?_⟩
  · obtain ⟨n, hn, e⟩ := List.mem_iff_getElem.mp hc
    have h1 : S[n]? = some c := by rw [List.getElem?_eq_getElem hn, e]
    have hl : n < w.am.length := by rw [r.len]; exact hn
    exact (r.cell n c w.am[n] h1 (List.getElem?_eq_getElem hl)).noThk hx
  · obtain ⟨_, _, vs, _, z⟩ := r.hd p hp
    exact z.noThk hx
theorem WR.at {T : Tb} {w : Wd} {S : Store} {H : Hp} {x y : Option XC} (k : Clean S w.hid) (r : WR (T.at x) w S H) : WR (T.at y) w S H :=
  ⟨r.sub, r.len, r.nd, r.has, r.out, fun n c a h1 h2 => (r.cell n c a h1 h2).at (k.1 c (List.mem_of_getElem? h1)), r.tabs, r.hn, fun p hp => (r.hd p hp).imp id fun z => ⟨z.1, z.2.elim fun vs z => ⟨vs, z.1, z.2.at (k.2 p hp)⟩⟩, r.nt⟩
theorem ER.at {T : Tb} {w : Wd} {env : Env} {σ : St} {x y : Option XC} (k : ∀ d, some d ∈ env → Ro.noThk d = true) (r : ER (T.at x) w env σ) : ER (T.at y) w env σ := ⟨r.1, fun i d e => by
  obtain ⟨v, h1, h2⟩ := r.2 i d e
  exact ⟨v, h1, h2.at (k d (List.mem_of_getElem? e))⟩⟩
/-- all but the tables of code objects stay -/
theorem WR.growN {T : Tb} {w : Wd} {S : Store} {H H' : Hp} (r : WR T w S H) (k : LamX.ExtN H H') (t : LamX.Tabs T.tabs H') : WR T w S H' := by
  have kt : ∀ {a : Addr} {u : HO}, NoTab u → H a = some u → H' a = some u := fun {a u} n e => k a u e n.1
  refine ⟨fun a u e => k a u (r.sub a u e) fun ps z => r.nt a ps (by rw [e, z]), r.len, r.nd, fun a ha => ?_, r.out, fun n c a h1 h2 => ?_, t, r.hn, fun p hp => ?_, r.nt⟩
  · obtain ⟨u, e, nt⟩ := r.has a ha
    exact ⟨u, k a u e nt, nt⟩
  · have h := r.cell n c a h1 h2
    cases c with
    | dead => trivial
    | lst l => obtain ⟨vs, e, q⟩ := h; exact ⟨vs, kt noTab_lst e, q⟩
    | dct l => obtain ⟨vs, e, q⟩ := h; exact ⟨vs, kt noTab_dK e, q⟩
    | dcT l => obtain ⟨vs, e, q⟩ := h; exact ⟨vs, kt noTab_dT e, q⟩
    | ins c fs => obtain ⟨dx, gs, e, q⟩ := h; exact ⟨dx, gs, kt noTab_ins e, q⟩
  · obtain ⟨z1, z2, vs, z3, z4⟩ := r.hd p hp
    exact ⟨z1, z2, vs, kt noTab_lst z3, z4⟩
end Ro
end
section
set_option Elab.async false
set_option linter.all false
set_option maxRecDepth 100000
set_option maxHeartbeats 4000000
namespace Ro
open PySem PySem.Spec PyProof.Rows L2 L2H
variable {T : Tb} {E : XK} {X : Cx} {a b c e : Expr} {es : List Expr} {f g h : EX} {fa ga fk : AX} {pos : Pos}
structure RGH (k : Nat) (A : Around) : Prop where
  rm : RoomH k A
  gd : A.guards = some []
theorem RGH.mono {j k : Nat} {A : Around} (r : RGH k A) (h : j ≤ k) : RGH j A := ⟨r.rm.mono h, r.gd⟩
theorem RGH.deeper {k : Nat} {A : Around} (r : RGH (k + 1) A) (env : PySem.Env) : RGH k (A.deeper env) := ⟨r.rm.deeper env, r.gd⟩
theorem roomH_units {k : Nat} {A : Around} (r : RoomH k A) : A.units + 64 < cLine := by have := r.un; omega
theorem RGH.hu {k : Nat} {A : Around} (r : RGH k A) : A.units + 64 < cLine := roomH_units r.rm
/-- what is known of the exception in hand: its object -/
structure XHand (T : Tb) (z : XC) (p : Addr × Obj) : Prop where
  at_ : p.1 = z.a
  zc : Zc (.ref (He.ga T.K (z.c : Str))) z.dx p.2
  fl : ∃ vs, p.2.data = .fields vs
structure FnP (P : Program) (w : World) (T : Tb) (mg : Str → Option Value) (base : Heap) (k : Nat) (fp : Addr) (fd : FuncData) (ps : List Str) (cn : String) (m : Fn) : Prop where
  run : ∀ (A : Around) (below : List PySem.Env) (s : Shared) (H : Hp) (ar : Args) (Q : VK) (p : Addr × Obj) (z : XC) (fs : List D) (w0 : Wd) (S : Store), RGH k A → PinOk below H s p → XHand T z p → z.c = cn → Env0 P w T.K mg base A below s H → BindsTo s fd ar (ps.zip [.ref p.1]) →
    WR (T.at (some z)) w0 S H → Rep (T.at (some z)) w0 (.thk 0 fs) (.ref z.a) → RP (m [.thk 0 fs] S) (Pk (T.at (some z)) w0 Q) (XW (T.at (some z)) w0 E00) → codeAny (model P w) A (.call (.ref fp) ar) (CR (L2.CX P w) below P w H s Q E00) s
/-- the context of such a def's body -/
abbrev cxP (P : Program) (w : World) (K : PySem.W.Frag) (mg : Str → Option Value) (base : Heap) (N : List Str) (qual : Str) (scope : Scope) (f : Addr) (cd : Value) (A : Around) (outer : List PySem.Env) (s : Shared) (H : Hp) (p : Addr × Obj) : Cx :=
  cxH (L2.CX P w) P w K mg base N qual scope f cd A outer s H E00 p
structure OkP (T : Tb) (P : Program) (w : World) (mg : Str → Option Value) (base : Heap) (k : Nat) (d : He.DefD) (ps : List Str) (cn : String) (m : Fn) : Prop where
  ex : ∃ fd, FunD T.K d.name d.qual d.params d.body d.scope (d.dvs T.K) [] (He.fAd T.K d.at_) fd ∧ FnP P w T mg base k (He.fAd T.K d.at_) fd ps cn m
theorem OkP.mk' {P : Program} {w : World} {mg : Str → Option Value} {base : Heap} {k : Nat} {d : He.DefD} {x : Str} {N : List Str} {body : ES} {fd : FuncData} {cn : String}
    (F : FunD T.K d.name d.qual d.params d.body d.scope (d.dvs T.K) [] (He.fAd T.K d.at_) fd) (Sc : FnScope N [x] d.scope)
    (h : ∀ (cdv : Value) (A : Around) (outer : List PySem.Env) (s : Shared) (H : Hp) (p : Addr × Obj) (z : XC), XHand T z p → z.c = cn → RGH k (A.deeper (envOfC d.qual d.scope s.heap.objs.size (He.fAd T.K d.at_) cdv)) →
      ISs (T.at (some z)) E00 (cxP P w T.K mg base N d.qual d.scope (He.fAd T.K d.at_) cdv A outer s H p) d.body body) : OkP T P w mg base (k + 1) d [x] cn (fnM N.length body) := by
  refine ⟨fd, F, ?_⟩
  obtain ⟨oc, od, dV, kV, doc, pm, an, cdv, ct, osl, rfl, lk, hcd, _, _⟩ := F.ex
  constructor
  intro A below s H ar Q p z fs w0 S hr hp hx hcn env0 hbd wr hz hm
  have inK : T.K.In s.heap := env0.mod.kin.keeps fun b o q => (env0.bs b o q).1
  have noLim : s.heap.NoLimit := env0.mod.nolimit.keeps fun b o q => (env0.bs b o q).1
  have kinds : ∀ z ∈ [x].zip [Value.ref p.1], d.scope.names.lookup z.1 = some .local ∨ (d.scope.names.lookup z.1 = some .cell ∧ ((cellsFrom (s.heap.objs.size + 1) d.scope.names []).lookup z.1).isSome = true) := by
    rintro ⟨n, v⟩ hz
    rcases Sc.par n (List.of_mem_zip hz).1 with k1 | k1
    · exact Or.inl k1
    · exact Or.inr ⟨k1, PySem.W.cellsFrom_some _ _ _ (Or.inl k1)⟩
  refine codeAny_call_function hr.rm.depth (inK _ _ lk) rfl Sc.co Sc.gen rfl (PySem.W.codeRec_of inK hcd) (hbd _ _ _ _ ?_)
  refine wpAny_newFunctionEnv_cells Sc.kind kinds fun en hen st hx2 => ?_
  subst hen
  have rv : Vals [V.ref p.1] [Value.ref p.1] := .cons rfl .nil
  have J0 : Inv (cxP P w T.K mg base N d.qual d.scope (He.fAd T.K d.at_) cdv A below s H p) [] (L2.start N [V.ref p.1]) H st := inv_startH Sc hp env0 rfl rv hx2
  have ends : tIs (T.at (some z)) E00 body { nx := fun _ H' => Q .non H', rt := Q } (L2.start N [V.ref p.1]) H := by
    have px : Reps (T.at (some z)) w0 [.thk 0 fs] [V.ref p.1] := by
      rw [hx.at_]
      exact .cons hz .nil
    refine ⟨w0, _, S, wr, er_start px, (RP.bnd hm).mono (fun c S1 h1 => ?_) fun _ _ _ z => z⟩
    cases c with
    | rt d => exact h1
    | nx e => exact fun w' H' σ' l r' q' => h1 w' H' .non l r' .non
    | bk e => exact (show False from h1).elim
    | ct e => exact (show False from h1).elim
  refine ⟨noLim.keeps hx2.toInCall.keep, codeAny_func (wpAny_mono ((h cdv A below s H p z hx hcn (hr.deeper _)).run [] st (L2.start N [V.ref p.1]) H _ J0 ends) (fun fl st' hs => ?_) fun e st' hs => hs)⟩
  cases fl with
  | ret u =>
    obtain ⟨v, _, H', J, r1, q⟩ := hs
    exact ⟨v, H', J.os, J.bare, J.base, J.hok, r1, q⟩
  | next =>
    obtain ⟨_, H', J, q⟩ := hs
    exact ⟨V.non, H', J.os, J.bare, J.base, J.hok, rfl, q⟩
  | brk => exact hs.elim fun _ z => z.elim fun _ z => z.2.elim
  | cont => exact hs.elim fun _ z => z.elim fun _ z => z.2.elim
/-- the value is the exception in hand -/
def isHand : D → Bool
  | .thk 0 _ => true
  | _ => false
theorem hand_rep {w : Wd} {z : XC} {d : D} {x : V} (h : isHand d = true) (r : Rep (T.at (some z)) w d x) : ∃ fs, d = .thk 0 fs ∧ x = .ref z.a := by
  unfold isHand at h
  split at h
  · cases r with
    | xc0 q1 q2 => cases q1; exact ⟨_, rfl, rfl⟩
    | xc1 q1 q2 q3 q4 q5 => cases q1; exact ⟨_, rfl, rfl⟩
  · cases h
theorem hand_inv {w : Wd} {z : XC} {fs : List D} {v : V} (r : Rep (T.at (some z)) w (.thk 0 fs) v) : v = .ref z.a ∧ ((z.dx = none ∧ fs = []) ∨ ∃ dd gs, z.dx = some dd ∧ w.G dd = some (.xd gs) ∧ (∀ f ∈ T.cf z.c, ∃ v, gs.lookup (Str.ofString f) = some v) ∧ Reps (T.at (some z)) w fs ((T.cf z.c).map fun f : String => (gs.lookup (Str.ofString f)).getD .non)) := by
  cases r with
  | xc0 q1 q2 => cases q1; exact ⟨rfl, .inl ⟨q2, rfl⟩⟩
  | xc1 q1 q2 q3 q4 q5 => cases q1; exact ⟨rfl, .inr ⟨_, _, q2, q3, q4, q5⟩⟩
/-- a call that hands it on -/
def eFnP (m : Fn) (f : EX) : EX := fun env S => (f env S).bnd fun x S1 => if isHand x then m [x] S1 else .bad
theorem ie_fnP {k : Nat} {d : He.DefD} {x y : Str} {q : Pos} {p : Addr × Obj} {z : XC} {cn : String} {m : Fn} (hp : p ∈ X.pn) (hx : XHand T z p) (hcn : z.c = cn) (F : OkP T X.prog X.w X.mg X.base k d [y] cn m) (hK : X.K = T.K) (hr : RGH k X.A) (hg : Gl X x) (hm : X.mg x = some (.ref (He.fAd T.K d.at_)))
    (hb : ∀ fd, FunD T.K d.name d.qual d.params d.body d.scope (d.dvs T.K) [] (He.fAd T.K d.at_) fd → L2.Binds T.K fd [y] []) (tk : Takes X fun c d _ H => E00 c d H) (ha : IE (T.at (some z)) E00 X a f) (hdb : (x == ("__debug__" : Str)) = false := by decide +kernel)
    (he : starEach [a] X.env = (false, eval a X.env) :: starEach [] X.env := by rfl) (hpl : (backTo pos (starEach [] X.env)).any (·.1) = false := by rfl) :
    IE (T.at (some z)) E00 X (.Call (.Name x q) [a] [] pos) (eFnP m f) := by
  obtain ⟨fd, FD, FO⟩ := F.ex
  refine ⟨fun pins s σ H Q I h => ?_⟩
  obtain ⟨w, env, S, r, e, qq⟩ := h
  refine wpAny_Call_Name_kw (ld_glob I hg hm ?_ hdb)
  have hone : PA X [a] (tIa (T.at (some z)) E00 (aCons f aNil)) := ia_cons ha ia_nil he
  refine PySem.W.callWith_K (h₀ := X.base) I.ok.mod.kin (by rw [hK]; exact FD.kp) (thn (hone.run pos pins s σ H (fun vs H1 => ∃ w1 S1 fs, w.le w1 ∧ vs = [.ref z.a] ∧ WR (T.at (some z)) w1 S1 H1 ∧ Rep (T.at (some z)) w1 (.thk 0 fs) (.ref z.a) ∧ RP (m [.thk 0 fs] S1) (Pk (T.at (some z)) w1 Q) (XW (T.at (some z)) w1 E00)) I ⟨w, env, S, r, e, ?_⟩) fun us s1 ⟨vs, H1, I1, rv, w1, S1, fs, l1, ev, r1, z1, q1⟩ => ⟨I1.kIn, ?_⟩) he hpl
  · show RP ((f env S).bnd fun x S1 => (aNil env S1).bnd fun xs S2 => .ok (x :: xs) S2) _ _
    have qq : RP ((f env S).bnd fun x S1 => if isHand x then m [x] S1 else .bad) (Pk (T.at (some z)) w Q) (XW (T.at (some z)) w E00) := qq
    cases zz : f env S with
    | ok x S1 =>
      rw [zz] at qq
      rw [bnd_ok] at qq ⊢
      show ∀ w' H' vs, w.le w' → WR (T.at (some z)) w' S1 H' → Reps (T.at (some z)) w' [x] vs → _
      intro w' H' vs l r' rx
      by_cases hh : isHand x = true
      · rw [if_pos hh] at qq
        cases rx with
        | cons q1 q2 =>
          cases q2
          obtain ⟨fs, rfl, rfl⟩ := hand_rep hh q1
          exact ⟨w', S1, fs, l, rfl, r', q1, qq.mono (fun d S' q w2 H2 v l2 => q w2 H2 v (l.trans l2)) fun _ _ _ x => x.le l⟩
      · rw [if_neg hh] at qq
        exact qq.elim
    | err c fs S1 => rw [zz] at qq; exact qq
    | bad => rw [zz] at qq; exact qq.elim
  · subst ev
    have rv' := rv
    cases rv' with
    | cons ru rn =>
      cases rn
      rename_i u us'
      obtain rfl : u = Value.ref z.a := ru
      have P1 := I1.pin p (List.mem_append_left _ hp)
      have hpin : PinOk X.stack H1 s1 p := ⟨P1.1, P1.2.1, fun hm => (List.mem_cons.mp (I1.stkSub p.1 hm)).elim P1.2.2.1 P1.2.2.2.1, P1.2.2.2.2⟩
      have bt := hb fd FD s1 [.ref z.a] (by rw [← hK]; exact I1.kIn) rfl
      have env0 : Env0 X.prog X.w T.K X.mg X.base X.A X.stack s1 H1 := by rw [← hK]; exact I1.env0
      refine wpAny_call (codeAny_mono (FO.run X.A X.stack s1 H1 ⟨[.ref z.a], []⟩ Q p z fs w1 S1 hr hpin hx hcn env0 (by rw [hx.at_]; exact bt) r1 z1 q1) fun r s' hq => ?_)
      cases r with
      | error e => exact passes_call tk (fun _ _ _ _ h => h) pins σ H1 s1 e s' I1 hq
      | ok fl =>
        cases fl with
        | ret u => exact I1.after hq
        | next => exact False.elim hq
        | brk => exact False.elim hq
        | cont => exact False.elim hq
/-- isinstance(e, c) where the class says b -/
def eIsX (b : Bool) (f : EX) : EX := fun env S => (f env S).bnd fun x S1 => if isHand x then .ok (.bl b) S1 else .bad
def rIsX (T : Tb) (K : PySem.W.Frag) (z : XC) (cv : Value) (b : Bool) : List V → Hp → VK → Prop := fun xs H Q => ∃ (c : V) (w : Wd) (S : Store) (fs : List D), xs = [.ref z.a, c] ∧ (∀ u, RelV c u → u = cv) ∧ WR (T.at (some z)) w S H ∧ Rep (T.at (some z)) w (.thk 0 fs) (.ref z.a) ∧ Q (.bl b) H
theorem call_isX {p : Addr × Obj} {z : XC} {cv : Value} {b : Bool} (hp : p ∈ X.pn) (hx : XHand T z p) (hK : X.K = T.K) (C : ExC T.K (He.ga T.K (z.c : Str))) (hk : PySem.W.kitOne T.K (.ref (He.ga T.K (z.c : Str))) cv = some b) : CallR X (.builtin "isinstance") (rIsX T X.K z cv b) := by
  intro pins s σ H xs us Q I r h
  obtain ⟨c, w, S, fs, rfl, hcv, wr, hz, q⟩ := h
  cases r with
  | cons rx rr =>
    cases rr with
    | cons rt rr =>
      cases rr
      cases rx
      have ec := hcv _ rt
      subst ec
      obtain ⟨hget, _⟩ := I.pin p (List.mem_append_left _ hp)
      obtain ⟨vs, hv⟩ := hx.fl
      obtain ⟨hz1, hz2⟩ := hx.zc
      have J : ∃ od, PySem.W.InstAt s.heap z.a p.2 (He.ga T.K (z.c : Str)) od := by
        rw [hx.at_] at hget
        have nc : PySem.W.notCls p.2 = true := by unfold PySem.W.notCls; rw [hv] <;> rfl
        cases hd : z.dx with
        | none => exact ⟨none, hget, hz1, nc, by rw [hz2, hd]; trivial⟩
        | some dd =>
          rcases (hand_inv hz).2 with ⟨q2, _⟩ | ⟨d2, gs, q2, q3, _⟩
          · rw [hd] at q2; cases q2
          · rw [hd] at q2
            cases q2
            obtain ⟨o, ho⟩ := objOk_get (I.hok _ _ (wr.sub _ _ q3))
            exact ⟨some o, hget, hz1, nc, by rw [hz2, hd]; exact ho⟩
      obtain ⟨od, J⟩ := J
      obtain ⟨gt, hgt⟩ := C.gt
      exact PySem.W.kia_one (PySem.W.kitx_exc (od := od) C.cl C.ga hgt C.sb C.ca C.sp C.tk C.mr) (by rw [← hK]; exact I.kIn) J hk (fun y => nomatch y) fun tk => ⟨.bl b, H, I.kept (t' := tk) fun _ _ y => y, rfl, q⟩
theorem ie_isX {q : Pos} {p : Addr × Obj} {z : XC} {Tt : Ty} {k : Bool} (hp : p ∈ X.pn) (hx : XHand T z p) (hK : X.K = T.K) (C : ExC T.K (He.ga T.K (z.c : Str))) (hk : PySem.W.kitOne T.K (.ref (He.ga T.K (z.c : Str))) (tyV' T.K Tt) = some k) (hg : Gl X "isinstance") (hn : X.mg "isinstance" = none)
    (ha : IE (T.at (some z)) E00 X a f) (hb : IsTyE T X b Tt) (he : starEach (a :: [b]) X.env = (false, eval a X.env) :: starEach [b] X.env := by rfl) (hpl : (backTo pos (starEach [b] X.env)).any (·.1) = false := by rfl) (he2 : starEach [b] X.env = (false, eval b X.env) :: starEach [] X.env := by rfl) :
    IE (T.at (some z)) E00 X (.Call (.Name "isinstance" q) [a, b] [] pos) (eIsX k f) :=
  PE.mono (pe_callB (call_isX hp hx hK C hk) hg hn (by decide +kernel) (pa_cons ha (pa_cons hb pa_nil he2) he) (by decide +kernel) (by decide +kernel) he hpl) fun σ H Q ⟨w, env, S, r, e, qq⟩ => ⟨w, env, S, r, e, (RP.bnd qq).mono (fun d S1 h1 w1 H1 x l1 r1 p1 => by
    by_cases hh : isHand d = true
    · rw [if_pos hh] at h1
      obtain ⟨fs, rfl, rfl⟩ := hand_rep hh p1
      refine ⟨_, w1, S1, fs, rfl, ?_, r1, p1, h1 w1 H1 _ l1 r1 (.bl _)⟩
      cases Tt with
      | b n => exact fun u hu => hu
      | o c => exact fun u hu => hu
    · rw [if_neg hh] at h1
      exact (show False from h1).elim) fun _ _ _ x => x⟩
end Ro
end
section
set_option Elab.async false
set_option linter.all false
set_option maxRecDepth 100000
set_option maxHeartbeats 4000000
namespace Ro
open PySem PySem.Spec PyProof.Rows L2
variable {T : Tb} {E : XK} {X : Cx} {a b c e : Expr} {es : List Expr} {f g h : EX} {fa ga fk : AX} {pos : Pos}
theorem toPys_map : ∀ l : List D, toPys l = l.map toPy
  | [] => rfl
  | x :: l => by rw [List.map_cons, ← toPys_map l]; rfl
/-- data that the lists' methods look at -/
def shpL (l : List D) (y : D) : Bool := l.all (plN 8) && (plN 8 y && (SeqAt.shaped (.list (toPys l)) && SeqAt.shaped (toPy y)))
def idxOfD (x y : D) : Option D := match x with
  | .lst l => if shpL l y then (l.findIdx? fun z => pyEq z y).map fun j => .int (j : Nat) else none
  | _ => none
def cntD (x y : D) : Option D := match x with
  | .lst l => if shpL l y then some (.int (l.countP fun z => pyEq z y : Nat)) else none
  | _ => none
/-- a method's promise by what it does to values -/
def rMD (T : Tb) (op : D → D → Option D) : V → List V → Hp → VK → Prop := fun x xs H Q => ∃ w d e r S y, xs = [y] ∧ WR T w S H ∧ Rep T w d x ∧ Rep T w e y ∧ op d e = some r ∧ ∀ w' H' z, w.le w' → WR T w' S H' → Rep T w' r z → Q z H'
theorem eqv_at {l : List D} {y : D} (h1 : l.all (plN 8) = true) (h2 : plN 8 y = true) {m : Nat} {z : PyData} (h : (toPys l)[m]? = some z) : ∃ d, l[m]? = some d ∧ PyData.eqv z (toPy y) = pyEq d y := by
  rw [toPys_map, List.getElem?_map] at h
  cases e : l[m]? with
  | none => rw [e] at h; cases h
  | some d =>
    rw [e] at h
    cases h
    exact ⟨d, rfl, eqv_py 8 d y (List.all_eq_true.mp h1 d (List.mem_of_getElem? e)) h2⟩
theorem mt_idxD (hK : X.K = T.K) (hu : X.A.units + 65 < cLine) : MtR X "list.index" (rMD T idxOfD) := fun pins s σ H x xs v us Q I rx rxs h => by
  obtain ⟨w, d, e, r, S, y, rfl, wr, p1, p2, hop, q⟩ := h
  unfold idxOfD at hop
  split at hop
  · rename_i l
    split at hop
    · rename_i hs
      unfold shpL at hs
      simp only [Bool.and_eq_true] at hs
      obtain ⟨h1, h2, h3, h4⟩ := hs
      cases hj : l.findIdx? fun z => pyEq z e with
      | none => rw [hj] at hop; cases hop
      | some j =>
        rw [hj] at hop
        cases hop
        obtain ⟨hlt, e1, e2⟩ := List.findIdx?_eq_some_iff_getElem.mp hj
        have hD : Dp X.K H x (.list (toPys l)) := by rw [hK]; exact dp_of wr 9 (.lst l) x h1 p1
        have hE : Dp X.K H y (toPy e) := by rw [hK]; exact dp_of wr 8 e y h2 p2
        cases p1 with
        | lst q1 q2 =>
          have hg : (toPys l)[j]? = some (toPy l[j]) := by rw [toPys_map, List.getElem?_map, List.getElem?_eq_getElem hlt]; rfl
          refine mt_indexD hu pins s σ H _ _ v us Q I rx rxs ⟨_, y, toPy e, toPys l, j, toPy l[j], rfl, rfl, hD, hE, h3, h4, hg, ?_, fun m z' hm hz => ?_, q w H _ (Wd.le.refl _) wr (.int _)⟩
          · rw [eqv_py 8 _ e (List.all_eq_true.mp h1 _ (List.getElem_mem hlt)) h2]
            exact e1
          · obtain ⟨d', k1, k2⟩ := eqv_at h1 h2 hz
            rw [k2]
            have := e2 m hm
            obtain ⟨_, k3⟩ := List.getElem?_eq_some_iff.mp k1
            rw [← k3]
            simpa using this
    · cases hop
  · cases hop
theorem mt_cntD (hK : X.K = T.K) (hu : X.A.units + 65 < cLine) : MtR X "list.count" (rMD T cntD) := fun pins s σ H x xs v us Q I rx rxs h => by
  obtain ⟨w, d, e, r, S, y, rfl, wr, p1, p2, hop, q⟩ := h
  unfold cntD at hop
  split at hop
  · rename_i l
    split at hop
    · rename_i hs
      unfold shpL at hs
      simp only [Bool.and_eq_true] at hs
      obtain ⟨h1, h2, h3, h4⟩ := hs
      cases hop
      have hE : Dp X.K H y (toPy e) := by rw [hK]; exact dp_of wr 8 e y h2 p2
      cases p1 with
      | @lst _ a vs q1 q2 =>
        cases rx
        cases rxs with
        | cons ry rt =>
          rename_i uy ut
          cases rt
          have hA : DpAll X.K H vs (toPys l) := by rw [hK]; exact dpAll_of wr 8 l vs h1 q2
          obtain ⟨bs, r1⟩ := Dp.reads I (toPy e) y uy hE ry
          have hxs : PyData.canLayAll0 (toPys l) = true := SeqAt.canLay_of_shaped h3
          obtain ⟨its, rv, ⟨⟨cls, dd, data, sls⟩, n, ho, hc, hdn, hdt⟩, hlen⟩ := I.list (show SqL X.K H a vs from .inl (.inl (wr.sub _ _ q1)))
          simp only at hc hdt
          subst hc hdt
          obtain ⟨as, k4⟩ := Dp.readsAll I (toPys l) _ its hA rv
          have hroom : X.A.units + 1 + min (PyData.depthAll (toPys l)) (toPy e).depth < cLine := room_in_shaped h4 hu
          have hmap : its.map (SeqAt.readOf s.heap) = toPys l := SeqAt.readsAll_map (toPys l) its as hxs k4
          have hcnt : its.toArray.toList.countP (fun u => PyData.eqv (SeqAt.readOf s.heap u) (toPy e)) = l.countP fun z => pyEq z e := by
            have e1 : its.countP (fun u => PyData.eqv (SeqAt.readOf s.heap u) (toPy e)) = (its.map (SeqAt.readOf s.heap)).countP fun z => PyData.eqv z (toPy e) := by rw [List.countP_map]; rfl
            show its.countP _ = _
            rw [e1, hmap, toPys_map, List.countP_map]
            refine List.countP_congr fun d hd => ?_
            show PyData.eqv (toPy d) (toPy e) = true ↔ _
            rw [eqv_py 8 d e (List.all_eq_true.mp h1 d hd) h2]
          refine call_meets PySem.F.slot_list_count ⟨_, ho, rfl⟩ PySem.F.entry_list_count (PySem.F.args_list_count_2 _ _)
            (SeqAt.list_countAt a its.toArray n dd sls uy fun u => PyData.eqv (SeqAt.readOf s.heap u) (toPy e)) ⟨ho, SeqAt.items_eqAt (vs := its.toArray) (show ReadsAll s.heap its.toArray.toList (toPys l) as from k4) r1 hxs (SeqAt.canLay_of_shaped h4) hroom, ?_⟩
          refine ⟨.int (l.countP fun z => pyEq z e : Nat), H, I.tok _, ⟨s.toks, ?_⟩, q w H _ (Wd.le.refl _) wr (.int _)⟩
          rw [hcnt]
    · cases hop
  · cases hop
/-- o.m(x) by values -/
def eM1 (tn : String) (op : D → D → Option D) (a b : EX) : EX := fun env S => (a env S).bnd fun x S1 => if tyD x S1 = some (.b tn) then (b env S1).bnd fun y S2 => lift (op x y) S2 else .bad
theorem ie_index {apos : Pos} (hK : X.K = T.K) (hu : X.A.units + 65 < cLine) (ho : IE T E X a f) (hb : IE T E X b g) (hbase : attributeBase a "index" X.env (eval a X.env) = eval a X.env := by rfl)
    (hfew : ((backTo pos (starEach [b] X.env)).all (fun x => !x.1) && (backToKw pos (keywordEach [] X.env)).all (fun x => x.1.isSome)
      && decide (([b]).length + ([] : List Keyword).length + (if ([] : List Keyword).isEmpty then 0 else 1) < 30)) = true := by rfl)
    (hline : (apos.endLine == pos.line) = true := by rfl) (hs : starEach [b] X.env = (false, eval b X.env) :: starEach [] X.env := by rfl) (hpl : (backTo pos (starEach [] X.env)).any (·.1) = false := by rfl) :
    IE T E X (.Call (.Attribute a "index" apos) [b] [] pos) (eM1 "list" idxOfD f g) :=
  PE.mono (pe_bm PySem.F.plainAttrs_list PySem.F.slot_list_index PySem.F.type_list_index (mt_idxD hK hu) ho (pa_cons hb pa_nil hs) hbase hfew hline hs hpl) fun σ H Q ⟨w, env, S, r, e, q⟩ => ⟨w, env, S, r, e, (RP.bnd q).mono (fun d S1 h1 w1 H1 x l1 r1 p1 => by
    by_cases ht : tyD d S1 = some (.b "list")
    · rw [if_pos ht] at h1
      refine ⟨by rw [hK]; exact tyV_list r1 p1 ht, w1, env, S1, r1, e.mono l1, (RP.bnd h1).mono (fun y S2 h2 w2 H2 yv l2 r2 p2 => ?_) fun _ _ _ x => x.le l1⟩
      cases z : idxOfD d y with
      | none => rw [z] at h2; exact (show False from h2).elim
      | some v =>
        rw [z] at h2
        exact ⟨w2, d, y, v, S2, yv, rfl, r2, p1.mono l2, p2, z, fun w3 H3 u l3 => h2 w3 H3 u ((l1.trans l2).trans l3)⟩
    · rw [if_neg ht] at h1
      exact (show False from h1).elim) fun _ _ _ x => x⟩
theorem ie_count {apos : Pos} (hK : X.K = T.K) (hu : X.A.units + 65 < cLine) (ho : IE T E X a f) (hb : IE T E X b g) (hbase : attributeBase a "count" X.env (eval a X.env) = eval a X.env := by rfl)
    (hfew : ((backTo pos (starEach [b] X.env)).all (fun x => !x.1) && (backToKw pos (keywordEach [] X.env)).all (fun x => x.1.isSome)
      && decide (([b]).length + ([] : List Keyword).length + (if ([] : List Keyword).isEmpty then 0 else 1) < 30)) = true := by rfl)
    (hline : (apos.endLine == pos.line) = true := by rfl) (hs : starEach [b] X.env = (false, eval b X.env) :: starEach [] X.env := by rfl) (hpl : (backTo pos (starEach [] X.env)).any (·.1) = false := by rfl) :
    IE T E X (.Call (.Attribute a "count" apos) [b] [] pos) (eM1 "list" cntD f g) :=
  PE.mono (pe_bm PySem.F.plainAttrs_list PySem.F.slot_list_count PySem.F.type_list_count (mt_cntD hK hu) ho (pa_cons hb pa_nil hs) hbase hfew hline hs hpl) fun σ H Q ⟨w, env, S, r, e, q⟩ => ⟨w, env, S, r, e, (RP.bnd q).mono (fun d S1 h1 w1 H1 x l1 r1 p1 => by
    by_cases ht : tyD d S1 = some (.b "list")
    · rw [if_pos ht] at h1
      refine ⟨by rw [hK]; exact tyV_list r1 p1 ht, w1, env, S1, r1, e.mono l1, (RP.bnd h1).mono (fun y S2 h2 w2 H2 yv l2 r2 p2 => ?_) fun _ _ _ x => x.le l1⟩
      cases z : cntD d y with
      | none => rw [z] at h2; exact (show False from h2).elim
      | some v =>
        rw [z] at h2
        exact ⟨w2, d, y, v, S2, yv, rfl, r2, p1.mono l2, p2, z, fun w3 H3 u l3 => h2 w3 H3 u ((l1.trans l2).trans l3)⟩
    · rw [if_neg ht] at h1
      exact (show False from h1).elim) fun _ _ _ x => x⟩
end Ro
end
section
set_option Elab.async false
set_option linter.all false
set_option maxRecDepth 100000
set_option maxHeartbeats 4000000
namespace Ro
open PySem PySem.Spec PyProof.Rows L2
/-- the ends of a clause's suite: the name goes -/
def offN (i : Nat) (D : Ends) : Ends := { nx := fun σ' H' => D.nx (σ'.set i none) H', rt := D.rt, bk := fun σ' H' => D.bk (σ'.set i none) H', ct := fun σ' H' => D.ct (σ'.set i none) H' }
/-- what the clauses wish, the one after the other -/
def wAll (K : PySem.W.Frag) (i : Nat) (Wout : WX) (D : Ends) : List (Value × (Addr → Value → Option Addr → TS)) → WX
  | [] => Wout
  | (c, ts) :: r => fun cls d σ H => ∃ b, PySem.W.exmOne K cls c = some b ∧ (b = true → ∀ a, H a = none → ts a cls d (offN i D) (σ.set i (some (.ref a))) H) ∧ (b = false → wAll K i Wout D r cls d σ H)
inductive HdA (X : Cx) (n : Str) : List ExceptHandler → List (Value × (Addr → Value → Option Addr → TS)) → Prop
  | nil : HdA X n [] []
  | cons {x : Str} {c : Value} {ts : Addr → Value → Option Addr → TS} {b₀ : Stmt} {suite : List Stmt} {np pos' : Pos} {hds : List ExceptHandler} {l : List (Value × (Addr → Value → Option Addr → TS))} (hc : Names X x c)
      (hsu : ∀ (a : Addr) (oe : Obj) (cls : Value) (d : Option Addr) (pn : List (Addr × Obj)), Zc cls d oe → (∃ vs, oe.data = .fields vs) → PSs (X.suite a ((a, oe) :: pn)) (b₀ :: suite) (ts a cls d)) (r : HdA X n hds l) :
      HdA X n (.ExceptHandler (some (.Name x np)) (some n) (b₀ :: suite) pos' :: hds) ((c, ts) :: l)
section
variable {X : Cx} {n : Str} {i : Nat} {body : List Stmt} {h₀ : ExceptHandler} {hds : List ExceptHandler} {l : List (Value × (Addr → Value → Option Addr → TS))} {pos : Pos} {tb : WX → TS} {Wout : WX}
theorem ps_try_all (hst : X.stack = X.env :: X.outer) (hfm : X.env.frame = some X.env.locals) (hN : X.N.Nodup) (hi : X.N[i]? = some n) (hln : X.env.kindOf n = some .local) (tk : Takes X Wout)
    (hb : ∀ (W : WX) (pn : List (Addr × Obj)) (xe : Value → Shared → Prop), Takes (X.tr pn xe) W → PassesOwn (model X.prog X.w) X.A X.env xe → PSs (X.tr pn xe) body (tb W))
    (hh : HdA X n (h₀ :: hds) l) : PS X (.Try body (h₀ :: hds) [] [] pos) (fun D σ H => tb (wAll X.K i Wout D l) D σ H) := by
  constructor
  intro pins s σ H D I h
  have okX := I.ok
  have frames : X.A.frames = some (X.env :: X.outer) := by rw [okX.frames, hst]
  have locN : Loc X.env.scope n := Or.inl hln
  apply wpAny_Try_except
  refine wpAny_mono ((hb (wAll X.K i Wout D l) (X.pn ++ pins) (fun e s1 => wpAny (model X.prog X.w) X.A (noteFrame e X.env) (fun _ s2 => wpAny (model X.prog X.w) X.A (setFlight e none) (fun _ s3 =>
    wpAny (model X.prog X.w) X.A (handleBy e X.env (h₀ :: hds)) (SP X pins D) X.xe s3) X.xe s2) X.xe s1) (fun u s' caught => ?_) PassesOwn.looking).run [] s σ H D (I.toTry _) h) (fun f s1 ended => ?_) (fun e s1 he => he)
  · -- caught
    obtain ⟨a, B, sI, pins', σ', H', cls, d, rfl, J', nb, up, sky, na, os, ag, wish⟩ := caught
    have J : Inv X pins σ' H' sI := J'.ofTry okX
    have sky1 : Sky B (X.env :: X.outer) a (Zc cls d) X.env.locals s'.heap := by rw [← hst]; exact sky
    show wpAny (model X.prog X.w) X.A (noteFrame (.ref a) X.env) _ _ _
    refine Sky.land Zc.steady frames hfm sky1 fun h3 fl3 up3 => ?_
    have J3 : Inv X pins σ' H' { s' with heap := h3 } := J.landed nb fl3.1 (up.trans up3) os ag
    obtain ⟨oe3, vs3, he3, hz3, hd3⟩ := fl3.there
    have apart : ∀ {h : Heap} {o : Obj} {vs : Array Value}, h.FunFrames B (X.env :: X.outer) → h.get? a = some o → o.data = .fields vs → a ∉ frs (X.env :: X.outer) := by
      intro h o vs ff e dd hm
      obtain ⟨_, o', e', hnf⟩ := ff.mem hm
      rw [e] at e'
      cases e'
      exact hnf _ dd
    have nfr := apart fl3.2.2.1 he3 hd3
    have neL : a ≠ X.env.locals := fun y => nfr (List.mem_filterMap.mpr ⟨X.env, List.mem_cons_self, by rw [hfm, y]⟩)
    have notF : a ∉ X.fs := by
      intro hm
      obtain ⟨e, he, q⟩ := List.mem_filterMap.mp hm
      exact nfr (List.mem_filterMap.mpr ⟨e, List.mem_cons_of_mem _ he, q⟩)
    have S3 := J3.suite he3 hd3 na neL notF
    have run : ∀ {hs : List ExceptHandler} {m : List (Value × (Addr → Value → Option Addr → TS))}, HdA X n hs m → wAll X.K i Wout D m cls d σ' H' →
        wpAny (model X.prog X.w) X.A (handleBy (.ref a) X.env hs) (SP X pins D) X.xe { s' with heap := h3 } := by
      intro hs m hk
      induction hk with
      | nil =>
        intro ww
        apply wpAny_handleBy_nil
        obtain ⟨k1, k2, k3, oe, vs, T', oT, ts', he, hz, hd, h1, hr⟩ := id fl3
        unfold PySem.passOn
        refine wpAny_bind (wpAny_field he hd h1 ?_)
        rw [if_neg (show ¬ ((Value.ref T' == Value.none) = true) from by simp)]
        have last : wpAny (model X.prog X.w) X.A (setFlight (.ref a) X.env.frame) (fun _ s4 => wpAny (model X.prog X.w) X.A (throw (.ref a) : Sem Flow) (SP X pins D) X.xe s4) X.xe { s' with heap := h3 } := by
          rw [hfm]
          refine HandSPX.setFlight_upZ fl3 fun h4 hh4 up4 => wpAny_throw (tk _ _ ?_)
          exact ⟨a, B, sI, pins, σ', H', cls, d, rfl, J, nb, (up.trans up3).trans up4, Or.inr (Or.inr (by rw [hst]; exact hh4)), na, os, ag, ww⟩
        first
          | exact wpAny_bind (wpAny_pure (wpAny_bind last))
          | exact wpAny_bind last
      | @cons x c ts b₀ suite np pos' hds2 l2 hc hsu r ih =>
        intro ww
        obtain ⟨b, hb1, hyes, hno⟩ := ww
        refine wpAny_handleBy_cons (codeAny_handlers_test ?_) (by intro q; cases q)
        have LT : PySem.W.Looks (model X.prog X.w) h3 (typeOf (.ref a)) cls := fun A Q E s k q => wpAny_typeOf_ref (k _ _ he3) (by rw [hz3.1]; exact q)
        have LM := PySem.W.exm_one (M := model X.prog X.w) (J3.kIn) LT hb1
        have asked : ∀ {Q : Value → Shared → Prop} {E : Value → Shared → Prop}, Q c { s' with heap := h3 } → wpAny (model X.prog X.w) (X.A.mark (some (.ref a))) (eval (.Name x np) X.env) Q E { s' with heap := h3 } := by
          intro Q E q
          obtain ⟨hg, hdbg, hm | ⟨hm, hv, hnn⟩⟩ := hc
          · exact ld_glob (X := X.suite a ((a, oe3) :: (X.pn ++ pins))) S3 hg hm q hdbg
          · exact ld_blt (X := X.suite a ((a, oe3) :: (X.pn ++ pins))) S3 hg hm hv q hnn hdbg
        refine asked (LM.here ?_)
        cases b with
        | true =>
          apply codeAny_handlers_suite_as
          refine HandSPX.lands_againZ fl3 fun h4 fl4 up4 => ?_
          have J4 : Inv X pins σ' H' { s' with heap := h4 } := J.landed nb fl4.1 ((up.trans up3).trans up4) os ag
          obtain ⟨oe4, vs4, he4, hz4, hd4⟩ := fl4.there
          have S4 := J4.suite he4 hd4 na neL notF
          refine store_ok (X := X.suite a ((a, oe4) :: (X.pn ++ pins))) (v := .ref a) S4 hN hi locN rfl (fun s5 S5 => ?_) (Or.inr hln)
          refine wpAny_mono ((hsu a oe4 cls d (X.pn ++ pins) hz4 ⟨_, hd4⟩).run [] s5 _ H' _ S5 (hyes rfl a na)) (fun f s6 q6 => ?_) (fun _ _ y => y.elim)
          have off : ∀ {σ6 : L2.St} {H6 : Hp} {Q : Shared → Prop}, Inv (X.suite a ((a, oe4) :: (X.pn ++ pins))) [] σ6 H6 s6 → (∀ s7, Inv X pins (σ6.set i none) H6 s7 → Q s7) →
              wpAny (model X.prog X.w) X.A (do bindName X.env n .none; unbindBehindTheSuite X.env n pos') (fun _ s7 => Q s7) X.xe s6 := by
            intro σ6 H6 Q S6 hq
            exact gone_ok (S6.unsuite okX) hN hi hln hq
          cases f with
          | next =>
            obtain ⟨_, _, S6, q7⟩ := q6
            exact off S6 fun s7 J7 => ⟨_, _, J7, q7⟩
          | brk =>
            obtain ⟨_, _, S6, q7⟩ := q6
            exact off S6 fun s7 J7 => ⟨_, _, J7, q7⟩
          | cont =>
            obtain ⟨_, _, S6, q7⟩ := q6
            exact off S6 fun s7 J7 => ⟨_, _, J7, q7⟩
          | ret u =>
            obtain ⟨_, _, _, S6, r6, q7⟩ := q6
            exact off S6 fun s7 J7 => ⟨_, _, _, J7, r6, q7⟩
        | false =>
          show wpAny _ X.A (handleBy (.ref a) X.env hds2) _ _ _
          exact ih (hno rfl)
    exact run hh wish
  · cases f with
    | next =>
      obtain ⟨_, _, J', q⟩ := ended
      exact wpAny_execs_nil ⟨_, _, J'.ofTry okX, q⟩
    | brk =>
      obtain ⟨_, _, J', q⟩ := ended
      exact ⟨_, _, J'.ofTry okX, q⟩
    | cont =>
      obtain ⟨_, _, J', q⟩ := ended
      exact ⟨_, _, J'.ofTry okX, q⟩
    | ret u =>
      obtain ⟨_, _, _, J', r, q⟩ := ended
      exact ⟨_, _, _, J'.ofTry okX, r, q⟩
end
end Ro
end
section
set_option Elab.async false
set_option linter.all false
set_option maxRecDepth 100000
set_option maxHeartbeats 4000000
namespace Ro
open PySem PySem.Spec PyProof.Rows L2 LamX
section
variable {X : Cx} {pins : List (Addr × Obj)} {σ : L2.St} {H HZ : Hp} {s s1 : Shared}
/-- a() in the def that was handed the lambda -/
theorem act_of {Eg : XK} {Ng : List Str} {qg : Str} {sg : Scope} {g f c' : Addr} {cdg pm ctv : Value} {params : Arguments} {body : Expr} {scope : Scope} {k i : Nat} {a : Str} {pn : List (Addr × Obj)} {xe : Value → Shared → Prop} {W : WX} {E : XK} {tb : TE} {p1 p2 : Pos}
    (I : Inv X pins σ H s) (L : LamS X.env.scope scope) (hf : s.heap.get? f = some (PySem.W.kla_obj "<lambda>" (X.env.qual ++ "<lambda>") params body scope (cloFrom X.env.cells scope.names []) pm c' ctv)) (hfn : H f = none) (hfr : f ∉ frs X.stack)
    (hbind : bindArgs (PySem.W.kla_fn "<lambda>" (X.env.qual ++ "<lambda>") params body scope (cloFrom X.env.cells scope.names []) pm (.ref c') ctv) ⟨[], []⟩ = pure [])
    (tk : Takes ((cxOf (L2.CX X.prog X.w) X.prog X.w X.K X.mg X.base Ng qg sg g cdg X.A X.stack s H Eg).tr pn xe) W) (hW : ∀ cls d σ' H', E cls d H' → W cls d σ' H') (hr : RG (k + 1) (X.A.deeper (envOfC qg sg s.heap.objs.size g cdg)))
    (hbody : ∀ (A : Around) (outer : List PySem.Env) (s : Shared) (H : Hp), RG k (A.deeper (lamEnv X scope s.heap.objs.size f c')) → PE (lamCx X A outer s H E scope f c') body tb)
    (hN : Ng[i]? = some a) (hv : Vis sg a) (hd : (a == ("__debug__" : Str)) = false) (hcd : (a == ("__classdict__" : Str)) = false) :
    PE ((cxOf (L2.CX X.prog X.w) X.prog X.w X.K X.mg X.base Ng qg sg g cdg X.A X.stack s H Eg).tr pn xe) (.Call (.Name a p1) [] [] p2)
      (fun σZ HZ Q => σZ[i]? = some (some (.ref f)) ∧ HZ c' = some (CodeO c' (X.env.qual ++ "<lambda>")) ∧ tb σ HZ Q) := by
  constructor
  intro pinsZ sZ σZ HZ Q IZ ⟨hs, hc, ht⟩
  refine wpAny_Call_Name_kw (thn ((pe_var (pos := p1) (i := i) hN hv hd hcd).run pinsZ sZ σZ HZ (fun v H1 => v = .ref f ∧ H1 = HZ) IZ ⟨.ref f, hs, rfl, rfl⟩) fun u s1 ⟨v, H1, I1, r1, q1⟩ => ?_)
  obtain ⟨rfl, rfl⟩ := q1
  obtain rfl : u = Value.ref f := r1
  have still : s1.heap.get? f = some (PySem.W.kla_obj "<lambda>" (X.env.qual ++ "<lambda>") params body scope (cloFrom X.env.cells scope.names []) pm c' ctv) := I1.base.keep f _ hf hfn hfr (fun y => nomatch (show f ∈ ([] : List Addr) from y))
  refine PySem.W.callWith_F0 ⟨_, _, _, _, still⟩ ?_
  have kept : Un (frs X.stack) [] H H1 s.heap s1.heap := I1.base
  obtain ⟨⟨oc, vs, t, hoc, hdc, hvc⟩, _, _⟩ := I1.hok c' _ hc
  have ran : codeAny (model X.prog X.w) (X.A.deeper (envOfC qg sg s.heap.objs.size g cdg)) (.call (.ref f) ⟨[], []⟩) (CR (L2.CX X.prog X.w) (envOfC qg sg s.heap.objs.size g cdg :: X.stack) X.prog X.w H1 s1 Q E) s1 := by
    refine PySem.W.kla_callFunE hr.rm.depth still rfl L.co L.gen rfl ⟨c', oc, vs, t, rfl, hoc, hdc, hvc⟩ ?_
    rw [hbind]
    refine wpAny_pure (wpAny_newFunctionEnv (fun y hy => (L.own y hy).2) (fun y hy => absurd hy (by simp)) (fun h1 hns hsb => ⟨I1.nolimit.fresh _ hsb, ?_⟩) L.kind)
    show codeAny _ _ (.expr body (lamEnv X scope s1.heap.objs.size f c')) _ _
    have grow : ∀ b o, s1.heap.get? b = some o → h1.get? b = some o := fun b o e => hsb.extBut b o (Nat.ne_of_lt (Heap.lt_size e)) (Heap.get?_push_of_some _ e)
    have J : Inv (lamCx X (X.A.deeper (envOfC qg sg s.heap.objs.size g cdg)) (envOfC qg sg s.heap.objs.size g cdg :: X.stack) s1 H1 E scope f c') [] σ H1 { s1 with heap := h1, toks := s1.toks + ([] : List (Str × Value)).length } :=
      lam_start2 I L I1.env0 hr.rm.hd kept hns grow
    refine PySem.W.kla_codeExpr (wpAny_mono ((hbody _ _ s1 H1 (hr.deeper _)).run [] _ _ H1 Q J ht) (fun v s' hq => ?_) fun e s' hq => hq)
    obtain ⟨w', H', J', rv, q⟩ := hq
    exact ⟨w', H', J'.os, J'.bare, J'.base, J'.hok, rv, q⟩
  have out : Passes (L2.CX X.prog X.w) ((cxOf (L2.CX X.prog X.w) X.prog X.w X.K X.mg X.base Ng qg sg g cdg X.A X.stack s H Eg).tr pn xe) E := passes_call tk hW
  refine wpAny_call (codeAny_mono ran fun r s' hq => ?_)
  match r, hq with
  | .error e, hq => exact out pinsZ σZ H1 s1 e s' I1 hq
  | .ok (.ret u), hq => exact I1.after hq
end
/-- a def that calls what it is handed: TT is what it makes of the lambda's reading -/
def Makes (X : Cx) (k : Nat) (Ng : List Str) (qg : Str) (sg : Scope) (g : Addr) (cdg : Value) (bg : List Stmt) (a : Str) (TT : (XK → Hp → VK → Prop) → Hp → VK → Prop) : Prop :=
  ∀ (f c' : Addr) (s : Shared) (H : Hp) (Q : VK) (q : Str) (tl : XK → Hp → VK → Prop), RG k (X.A.deeper (envOfC qg sg s.heap.objs.size g cdg)) →
    (∀ (W : WX) (pn : List (Addr × Obj)) (xe : Value → Shared → Prop) (E : XK) (p1 p2 : Pos), Takes ((cxOf (L2.CX X.prog X.w) X.prog X.w X.K X.mg X.base Ng qg sg g cdg X.A X.stack s H E00).tr pn xe) W → (∀ cls d σ' H', E cls d H' → W cls d σ' H') →
      PE ((cxOf (L2.CX X.prog X.w) X.prog X.w X.K X.mg X.base Ng qg sg g cdg X.A X.stack s H E00).tr pn xe) (.Call (.Name a p1) [] [] p2) (fun σZ HZ Q => σZ[0]? = some (some (.ref f)) ∧ HZ c' = some (CodeO c' q) ∧ tl E HZ Q)) →
    H c' = some (CodeO c' q) → TT tl H Q →
    ∃ t, PSs (cxOf (L2.CX X.prog X.w) X.prog X.w X.K X.mg X.base Ng qg sg g cdg X.A X.stack s H E00) bg t ∧ t { nx := fun _ H' => Q .non H', rt := Q } (L2.start Ng [.ref f]) H
section
variable {X : Cx}
/-- x(lambda: body) -/
theorem lam_call {Ts : List (Addr × Str)} {TT : (XK → Hp → VK → Prop) → Hp → VK → Prop} {x a qg : Str} {g c P : Addr} {k : Nat} {pg : Arguments} {bg : List Stmt} {sg : Scope} {dV kV doc pm cdv ct oc : Value} {an od : Option Addr} {osl : Array (Option Value)} {Ng : List Str}
    {params : Arguments} {body : Expr} {scope : Scope} {t : XK → TE} {p lpos pos : Pos} (hg : Gl X x) (hm : X.mg x = some (.ref g)) (hk : PySem.W.keepIn X.K (.ref g) = true)
    (lk : X.K.lookup g = some ⟨oc, od, .func (PySem.W.fnOf x qg pg bg sg dV kV doc pm an cdv ct), osl⟩) (hcg : PySem.W.codeIn X.K cdv qg = true) (hb : L2.Binds X.K (PySem.W.fnOf x qg pg bg sg dV kV doc pm an cdv ct) [a] []) (Sg : FnScope Ng [a] sg) (hNg : Ng[0]? = some a) (hva : Vis sg a)
    (hG : Makes X (k + 1) Ng qg sg g cdv bg a TT)
    (TB : TabB X.base X.mg c P) (hcode : X.env.code = .ref c) (hmT : (P, X.env.qual ++ "<lambda>") ∈ Ts) (hu : ∀ p ∈ Ts, p.1 = P → p.2 = X.env.qual ++ "<lambda>") (hr : RG (k + 2) X.A) (L : LamS X.env.scope scope) (hdef : defaultsOf params X.env = ([], []))
    (hbind : ∀ (q : Str) (cl : List (Str × Addr)) (pm cv ctv : Value), bindArgs (PySem.W.kla_fn "<lambda>" q params body scope cl pm cv ctv) ⟨[], []⟩ = pure [])
    (hbody : ∀ (A : Around) (outer : List PySem.Env) (s : Shared) (H : Hp) (E : XK) (f c' : Addr), RG k (A.deeper (lamEnv X scope s.heap.objs.size f c')) → PE (lamCx X A outer s H E scope f c') body (t E))
    (hx : Takes X fun _ _ _ _ => False) (hdb : (x == ("__debug__" : Str)) = false) (hd : (a == ("__debug__" : Str)) = false) (hcd : (a == ("__classdict__" : Str)) = false) :
    PE X (.Call (.Name x p) [.Lambda params body scope lpos] [] pos) (tLam Ts TT t) := by
  constructor
  intro pins s σ H Q I ⟨hT, h⟩
  refine wpAny_Call_Name_kw (ld_glob I hg hm ?_ hdb)
  refine PySem.W.callWith_K (h₀ := X.base) I.ok.mod.kin hk ?_ (by rfl) (by rfl)
  show wpAny _ _ (spliced ((false, eval (.Lambda params body scope lpos) X.env) :: backTo pos (starEach [] X.env))) _ _ s
  refine Calls.spliced_cons (lam_make2 I TB hcode hmT hu hT hdef (L.has I.ok) fun f c' pm' ctv H1 s' I1 eN T1 hf hfn hfr hco => ?_)
  refine Calls.spliced_nil ⟨I1.kIn, ?_⟩
  have ran : codeAny (model X.prog X.w) X.A (.call (.ref g) ⟨[.ref f], []⟩) (CR (L2.CX X.prog X.w) X.stack X.prog X.w H1 s' Q E00) s' := by
    refine run_ofS (CX := L2.CX X.prog X.w) (N := Ng) (ps := [a]) (us := [.ref f]) (vs := [.ref f]) lk hcg Sg hr.rm I1.env0 (hb s' [.ref f] I1.kIn rfl) (.cons rfl .nil) rfl fun _ => ?_
    exact hG f c' s' H1 Q (X.env.qual ++ "<lambda>") (fun E H' Q' => t E σ H' Q') (hr.deeper _) (fun W pn xe E p1 p2 tk hW => act_of (i := 0) I1 L hf hfn hfr (hbind _ _ _ _ _) tk hW (hr.deeper _) (fun A outer s H hr2 => hbody A outer s H E f c' hr2) hNg hva hd hcd) hco (h H1 eN T1)
  refine wpAny_call (codeAny_mono ran fun r s2 hq => ?_)
  match r, hq with
  | .error e, hq => exact passes_call hx (fun _ _ _ _ h => h) pins σ H1 s' e s2 I1 hq
  | .ok (.ret u), hq => exact I1.after hq
end
end Ro
end
section
set_option Elab.async false
set_option linter.all false
set_option maxRecDepth 100000
set_option maxHeartbeats 4000000
namespace Ro
open PySem PySem.Spec PyProof.Rows L2 LamX
variable {T : Tb} {E : XK} {X : Cx}
theorem lookup_none_ok {w : Wd} {S : Store} {H : Hp} {dd : Addr} {gs : List (Str × V)} (r : WR T w S H) (hd : H dd = some (.xd gs)) : ∃ w', w.le w' ∧ WR T w' S H ∧ w'.G dd = some (.xd gs) := by
  cases z : w.G dd with
  | some o =>
    have e := r.sub _ _ z
    rw [hd] at e
    cases e
    exact ⟨w, Wd.le.refl _, r, z⟩
  | none =>
    have l : w.le ⟨upd w.G dd (.xd gs), w.am, w.hid⟩ := ⟨⟨fun b u e => by show upd w.G dd (.xd gs) b = some u; rw [upd_ne (ne_of_none e z)]; exact e, [], by simp⟩, rfl⟩
    refine ⟨_, l, ⟨fun b u e => ?_, r.len, r.nd, r.has, fun m c1 b h1 h2 h3 => ?_, fun m c1 b h1 h2 => (r.cell m c1 b h1 h2).keep l.tosb fun _ e => e, r.tabs, r.hn, fun q hq => ?_, fun b ps e => ?_⟩, upd_same⟩
    · have e : upd w.G dd (.xd gs) b = some u := e
      by_cases h : b = dd
      · subst h
        rw [upd_same] at e
        rw [← e]
        exact hd
      · rw [upd_ne h] at e
        exact r.sub _ _ e
    · show upd w.G dd (.xd gs) b = none
      rw [upd_ne (fun y => ?_)]
      · exact r.out m c1 b h1 h2 h3
      · subst y
        have hc := r.cell m c1 _ h1 h2
        cases c1 with
        | dead => exact h3 rfl
        | lst l => obtain ⟨_, k1, _⟩ := hc; rw [hd] at k1; cases k1
        | dct l => obtain ⟨_, k1, _⟩ := hc; rw [hd] at k1; cases k1
        | ins c fs => obtain ⟨_, _, k1, _⟩ := hc; rw [hd] at k1; cases k1
        | dcT l => obtain ⟨_, k1, _⟩ := hc; rw [hd] at k1; cases k1
    · obtain ⟨y1, y2, us, y3, y4⟩ := r.hd q hq
      refine ⟨?_, y2, us, y3, y4.mono l⟩
      show upd w.G dd (.xd gs) q.1 = none
      rw [upd_ne (fun y => by rw [y, hd] at y3; cases y3)]
      exact y1
    · have e : upd w.G dd (.xd gs) b = some (.tbl ps) := e
      by_cases h : b = dd
      · rw [h, upd_same] at e
        cases e
      · rw [upd_ne h] at e
        exact r.nt b ps e
/-- what a clause's suite makes of the exception, by its class -/
def tsX (T : Tb) (sx : String → ES) (cns : List String) (a : Addr) (cls : Value) (d : Option Addr) : TS := fun D σ H => ∃ cn ∈ cns, cls = .ref (He.ga T.K (cn : Str)) ∧ tIs (T.at (some ⟨a, d, cn⟩)) E00 (sx cn) D σ H
theorem suite_of {sts : List Stmt} {sx : String → ES} {cns : List String} {a : Addr} {oe : Obj} {cls : Value} {d : Option Addr} {pn : List (Addr × Obj)} (hz : Zc cls d oe) (hf : ∃ vs, oe.data = .fields vs)
    (h : ∀ cn ∈ cns, ∀ (z : XC) (p : Addr × Obj), XHand T z p → z.c = cn → ISs (T.at (some z)) E00 (X.suite z.a (p :: pn)) sts (sx cn)) : PSs (X.suite a ((a, oe) :: pn)) sts (tsX T sx cns a cls d) := by
  refine ⟨fun pins s σ H D I q => ?_⟩
  obtain ⟨cn, hcn, rfl, q⟩ := q
  exact (h cn hcn ⟨a, d, cn⟩ (a, oe) ⟨rfl, hz, hf⟩ rfl).run pins s σ H D I q
/-- the clause that takes an exception of the class cls -/
def pickF (K : PySem.W.Frag) (cls : Value) : List (Value × (String → ES)) → Option (String → ES)
  | [] => none
  | (c, sx) :: r => match PySem.W.exmOne K cls c with
    | some true => some sx
    | some false => pickF K cls r
    | none => none
def clsL (T : Tb) (cns : List String) (cl : List (Value × (String → ES))) : List (Value × (Addr → Value → Option Addr → TS)) := cl.map fun p => (p.1, tsX T p.2 cns)
theorem wAll_pick {cns : List String} {cn : String} (hcn : cn ∈ cns) {i : Nat} {Wout : WX} {D : Ends} {d : Option Addr} {σ : St} {H : Hp} {sx : String → ES} :
    ∀ {cl : List (Value × (String → ES))}, pickF T.K (.ref (He.ga T.K (cn : Str))) cl = some sx → (∀ a, H a = none → tIs (T.at (some ⟨a, d, cn⟩)) E00 (sx cn) (offN i D) (σ.set i (some (.ref a))) H) → wAll T.K i Wout D (clsL T cns cl) (.ref (He.ga T.K (cn : Str))) d σ H
  | [], h, _ => by cases h
  | (c, sy) :: r, h, k => by
    unfold pickF at h
    show ∃ b, _
    split at h
    · rename_i e
      cases h
      exact ⟨true, e, (fun _ a ha => ⟨cn, hcn, rfl, k a ha⟩), fun z => by cases z⟩
    · rename_i e
      exact ⟨false, e, (fun z => by cases z), fun _ => wAll_pick hcn h k⟩
    · cases h
theorem takes_len {W : WX} (tk : Takes X W) : Takes X fun c d σ H => σ.length = X.N.length → W c d σ H := fun u s' ⟨a, B, sI, pins, σ, H, cls, d, e, I, nb, up, sky, na, os, ag, w⟩ =>
  tk u s' ⟨a, B, sI, pins, σ, H, cls, d, e, I, nb, up, sky, na, os, ag, w I.len⟩
/-- what is wished of an exception: the suites say what hp says -/
def EchS (T : Tb) (hp : String → List D → Option D) (cns : List String) (Q : VK) : XK := fun cls d H' => ∃ cn ∈ cns, ∃ (w : Wd) (fs : List D) (r : D) (S' : Store), cls = .ref (He.ga T.K (cn : Str)) ∧ WR T w S' H' ∧ XRep T w H' cn fs cls d ∧ hp cn fs = some r ∧
  ∀ w2 H2 v, w.le w2 → WR T w2 S' H2 → Rep T w2 r v → Q v H2
def TTsaid (T : Tb) (hp : String → List D → Option D) (cns : List String) (told : Str) : (XK → Hp → VK → Prop) → Hp → VK → Prop := fun tl H Q => tl (EchS T hp cns Q) H fun v H' => 2 ≤ sizeLine ∧ ∀ p, H' p = none → Q (.ref p) (upd H' p (.tup [.str told, v]))
theorem said_makes (hK : X.K = T.K) (hx0 : T.xc = none) {k i j0 kk : Nat} {Ng : List Str} {qg a e told : Str} {sg : Scope} {g : Addr} {cdg : Value} {p0 p1 p2 p3 p4 p5 : Pos} {h₀ : ExceptHandler} {hds : List ExceptHandler} {cns : List String} {cl : List (Value × (String → ES))} {hp : String → List D → Option D}
    (hN : Ng.Nodup) (hi : Ng[i]? = some e) (hi0 : 0 < i) (hln : (envOfC qg sg 0 g cdg).kindOf e = some .local)
    (hh : ∀ (s : Shared) (H : Hp), RG k (X.A.deeper (envOfC qg sg s.heap.objs.size g cdg)) → HdA (cxOf (L2.CX X.prog X.w) X.prog X.w X.K X.mg X.base Ng qg sg g cdg X.A X.stack s H E00) e (h₀ :: hds) (clsL T cns cl))
    (hnt : ∀ cn fs r, hp cn fs = some r → noThks fs = true → noThk r = true)
    (hpk : ∀ cn ∈ cns, ∃ sx, pickF T.K (.ref (He.ga T.K (cn : Str))) cl = some sx ∧ ∀ fs r S, hp cn fs = some r → sx cn ((List.replicate Ng.length none).set i (some (.thk 0 fs))) S = .ok (.rt r) S) :
    Makes X k Ng qg sg g cdg [.Try [.Return (some (.Tuple [.Constant (.str told) j0 p0, .Call (.Name a p1) [] [] p2] kk p3)) p4] (h₀ :: hds) [] [] p5] a (TTsaid T hp cns told) := by
  intro f c' s H Q q tl hr act hc h
  have h0 : (L2.start Ng [V.ref f])[0]? = some (some (V.ref f)) := rfl
  refine ⟨_, pss_one (ps_try_all (X := cxOf (L2.CX X.prog X.w) X.prog X.w X.K X.mg X.base Ng qg sg g cdg X.A X.stack s H E00) (i := i) (Wout := fun _ _ _ _ => False)
    (tb := fun W D σ H => ∃ Ech : XK, (∀ cls d σ' H', σ'.length = Ng.length → Ech cls d H' → W cls d σ' H') ∧ σ[0]? = some (some (.ref f)) ∧ H c' = some (CodeO c' q) ∧ tl Ech H fun v H' => 2 ≤ sizeLine ∧ ∀ p, H' p = none → D.rt (.ref p) (upd H' p (.tup [.str told, v])))
    rfl rfl hN hi hln LamX.takes0 (fun W pn xe tk _ => ?_) (hh s H hr)), ?_⟩
  · constructor
    intro pins s' σ H D I ⟨Ech, hW, h1, h2, h3⟩
    have hp := act _ pn xe Ech p1 p2 (takes_len tk) fun cls d σ' H' q hl => hW cls d σ' H' hl q
    exact (pss_one (ps_ret (pos := p4) (pe_tup (x1 := kk) (pos := p3) (pa_cons (pe_str (x := told) (j := j0) (pos := p0)) (pa_cons hp pa_nil))))).run pins s' σ H D I ⟨h1, h2, h3⟩
  · refine ⟨EchS T hp cns Q, fun cls d σ' H' hσ hE => ?_, h0, hc, ?_⟩
    · obtain ⟨cn, hcn, w, fs, r, S', rfl, wr, xr, hr, hq⟩ := hE
      obtain ⟨sx, hs1, hs2⟩ := hpk cn hcn
      show wAll X.K i _ _ (clsL T cns cl) _ d σ' H'
      rw [hK]
      refine wAll_pick hcn hs1 fun b hb => ?_
      have hfs : noThks fs = true := by
        rcases xr.2 with ⟨rfl, _⟩ | ⟨_, _, _, _, _, q⟩
        · rfl
        · exact q.noThk hx0
      have cl0 := wr.clean hx0
      have T0 : T = T.at none := by
        cases T
        cases hx0
        rfl
      obtain ⟨w2, l2, wr2, hz⟩ : ∃ w2, w.le w2 ∧ WR T w2 S' H' ∧ Rep (T.at (some ⟨b, d, cn⟩)) w2 (.thk 0 fs) (.ref b) := by
        rcases xr.2 with ⟨rfl, rfl⟩ | ⟨dd, gs, rfl, q1, q2, q3⟩
        · exact ⟨w, Wd.le.refl _, wr, .xc0 (z := ⟨b, none, cn⟩) rfl rfl⟩
        · obtain ⟨w2, l2, wr2, hg⟩ := lookup_none_ok wr q1
          refine ⟨w2, l2, wr2, .xc1 (z := ⟨b, some dd, cn⟩) rfl rfl hg q2 ?_⟩
          have q4 := q3.mono l2
          rw [T0] at q4
          exact q4.at hfs
      have cl2 : Clean S' w2.hid := by rw [l2.hid]; exact cl0
      have wr3 : WR (T.at (some ⟨b, d, cn⟩)) w2 S' H' := by
        rw [T0] at wr2
        exact wr2.at cl2
      have er : ER (T.at (some ⟨b, d, cn⟩)) w2 ((List.replicate Ng.length none).set i (some (.thk 0 fs))) (σ'.set i (some (.ref b))) := by
        have base : ER (T.at (some ⟨b, d, cn⟩)) w2 (List.replicate Ng.length none) σ' := ⟨by rw [List.length_replicate]; exact hσ.symm, fun j y e => by
          rw [List.getElem?_replicate] at e
          split at e <;> cases e⟩
        exact base.set hz i
      refine ⟨w2, _, S', wr3, er, ?_⟩
      rw [hs2 fs r S' hr]
      show ∀ w' H' v, w2.le w' → WR (T.at (some ⟨b, d, cn⟩)) w' S' H' → Rep (T.at (some ⟨b, d, cn⟩)) w' r v → Q v H'
      intro w' H2 v l3 wr4 pr
      have cl4 : Clean S' w'.hid := by rw [l3.hid]; exact cl2
      refine hq w' H2 v (l2.trans l3) ?_ ?_
      · rw [T0]
        exact wr4.at cl4
      · rw [T0]
        exact pr.at (hnt cn fs r hr hfs)
    · exact h
end Ro
end
section
set_option Elab.async false
set_option linter.all false
set_option maxRecDepth 100000
set_option maxHeartbeats 4000000
namespace Ro
open PySem PySem.Spec PyProof.Rows L2 LamX
variable {T : Tb} {E : XK} {X : Cx}
def eSaid (told : Str) (hp : String → List D → Option D) (m : EX) : EX := fun env S => match m env S with
  | .ok d S1 => .ok (.tup [.str told, d]) S1
  | .err c fs S1 => lift (hp c fs) S1
  | .bad => .bad
theorem said_read {told : Str} {hp : String → List D → Option D} {cns : List String} (hcn : ∀ c fs r, hp c fs = some r → c ∈ cns) {m : EX} {σ : St} {H : Hp} {Q : VK} (q : tI T E (eSaid told hp m) σ H Q) : tLam T.tabs (TTsaid T hp cns told) (fun E' => tI T E' m) σ H Q := by
  obtain ⟨w, env, S, r, e, q⟩ := q
  refine ⟨r.tabs, fun H1 eN T1 => ?_⟩
  refine ⟨w, env, S, r.growN eN T1, e, ?_⟩
  unfold eSaid at q
  cases z : m env S with
  | ok d S1 =>
    rw [z] at q
    have q : ∀ w' H' v, w.le w' → WR T w' S1 H' → Rep T w' (.tup [.str told, d]) v → Q v H' := q
    show ∀ w' H' v, w.le w' → WR T w' S1 H' → Rep T w' d v → _
    intro w' H' v l r' p
    refine ⟨by rw [sizeLine_eq]; omega, fun pa hpa => ?_⟩
    obtain ⟨l2, r2⟩ := r'.new hpa (.tup [.str told, v])
    exact q _ _ _ (l.trans l2) r2 (.tup (.inl (.inl upd_same)) (.cons (.str told) (.cons (p.mono l2) .nil)))
  | err c fs S1 =>
    rw [z] at q
    have q : RP (lift (hp c fs) S1) (fun d S' => ∀ w' H' v, w.le w' → WR T w' S' H' → Rep T w' d v → Q v H') (XW T w E) := q
    cases y : hp c fs with
    | none => rw [y] at q; exact (show False from q).elim
    | some d =>
      rw [y] at q
      have q : ∀ w' H' v, w.le w' → WR T w' S1 H' → Rep T w' d v → Q v H' := q
      show ∀ w' H' cls dx, w.le w' → WR T w' S1 H' → XRep T w' H' c fs cls dx → EchS T hp cns Q cls dx H'
      intro w' H' cls dx l r' x
      exact ⟨c, hcn c fs d y, w', fs, d, S1, x.1, r', x, y, fun w2 H2 v l2 => q w2 H2 v (l.trans l2)⟩
  | bad => rw [z] at q; exact (show False from q).elim
theorem OkF.mkL {P : Program} {w : World} {mg : Str → Option Value} {base : Heap} {k : Nat} {d : He.DefD} {ps N : List Str} {body : ES} {fd : FuncData}
    (F : FunD T.K d.name d.qual d.params d.body d.scope (d.dvs T.K) [] (He.fAd T.K d.at_) fd) (Sc : FnScope N ps d.scope)
    (h : ∀ (cdv : Value) (A : Around) (outer : List PySem.Env) (s : Shared) (H : Hp) (E : XK), cdv = .ref (He.codeOf T.K d.at_) → RG k (A.deeper (envOfC d.qual d.scope s.heap.objs.size (He.fAd T.K d.at_) cdv)) →
      ISs T E (cxOf (L2.CX P w) P w T.K mg base N d.qual d.scope (He.fAd T.K d.at_) cdv A outer s H E) d.body body) : OkF T P w mg base (k + 1) d ps (fnM N.length body) := by
  refine ⟨fd, F, ?_⟩
  obtain ⟨oc, od, dV, kV, doc, pm, an, cdv, ct, osl, rfl, lk, hcd, _, _⟩ := F.ex
  obtain ⟨c, hc⟩ := He.codeIn_ref hcd
  have ec : cdv = .ref (He.codeOf T.K d.at_) := by
    rw [He.codeOf_eq lk (show (PySem.W.fnOf d.name d.qual d.params d.body d.scope dV kV doc pm an cdv ct).code = .ref c from hc)]
    exact hc
  refine fnG_of lk hcd Sc (fun vs H Q E h => h.1) fun A outer s H vs Q E hr hsp => ⟨_, h cdv A outer s H E ec hr, ?_⟩
  obtain ⟨hl, w0, ds, S, r, q, hm⟩ := hsp
  refine ⟨w0, _, S, r, er_start q, (RP.bnd hm).mono (fun c S1 h1 => ?_) fun _ _ _ x => x⟩
  cases c with
  | rt d => exact h1
  | nx e => exact fun w' H' σ' l r' q' => h1 w' H' .non l r' .non
  | bk e => exact (show False from h1).elim
  | ct e => exact (show False from h1).elim
/-- the tables of the code objects of the defs tf -/
def TabsB (K : PySem.W.Frag) (mg : Str → Option Value) (base : Heap) (tf : List He.Defn) : Prop := ∀ p ∈ tf, TabB base mg (He.cT K p).1 (He.cT K p).2
theorem TabsB.at_ {K : PySem.W.Frag} {mg : Str → Option Value} {base : Heap} {tf : List He.Defn} (h : TabsB K mg base tf) (p : He.Defn) (hp : p ∈ tf := by decide +kernel) : TabB base mg (He.codeOf K p) (He.tabOf K (He.codeOf K p)) := h p hp
theorem ie_said {x a e told : Str} {k i j0 kk : Nat} {d : He.DefD} {Ng : List Str} {h₀ : ExceptHandler} {hds : List ExceptHandler} {params : Arguments} {body : Expr} {scope : Scope} {p lpos pos p0 p1 p2 p3 p4 p5 : Pos} {cns : List String} {cl : List (Value × (String → ES))} {hp : String → List D → Option D} {m : EX} {c P : Addr}
    (hK : X.K = T.K) (hx0 : T.xc = none) (hg : Gl X x) (hm : X.mg x = some (.ref (He.fAd T.K d.at_))) (hFd : ∃ fd, FunD T.K d.name d.qual d.params d.body d.scope (d.dvs T.K) [] (He.fAd T.K d.at_) fd) (hnm : d.name = x) (hdv : d.dvs T.K = [])
    (hbd : d.body = [.Try [.Return (some (.Tuple [.Constant (.str told) j0 p0, .Call (.Name a p1) [] [] p2] kk p3)) p4] (h₀ :: hds) [] [] p5])
    (hbi : ∀ fd, FunD T.K d.name d.qual d.params d.body d.scope (d.dvs T.K) [] (He.fAd T.K d.at_) fd → L2.Binds T.K fd [a] []) (Sg : FnScope Ng [a] d.scope) (hNg : Ng[0]? = some a) (hva : Vis d.scope a)
    (hN : Ng.Nodup) (hi : Ng[i]? = some e) (hi0 : 0 < i) (hln : d.scope.names.lookup e = some .local)
    (hh : ∀ (cdv : Value) (s : Shared) (H : Hp), RG (k + 1) (X.A.deeper (envOfC d.qual d.scope s.heap.objs.size (He.fAd T.K d.at_) cdv)) → HdA (cxOf (L2.CX X.prog X.w) X.prog X.w X.K X.mg X.base Ng d.qual d.scope (He.fAd T.K d.at_) cdv X.A X.stack s H E00) e (h₀ :: hds) (clsL T cns cl))
    (hnt : ∀ cn fs r, hp cn fs = some r → noThks fs = true → noThk r = true) (hcn : ∀ c fs r, hp c fs = some r → c ∈ cns)
    (hpk : ∀ cn ∈ cns, ∃ sx, pickF T.K (.ref (He.ga T.K (cn : Str))) cl = some sx ∧ ∀ fs r S, hp cn fs = some r → sx cn ((List.replicate Ng.length none).set i (some (.thk 0 fs))) S = .ok (.rt r) S)
    (TB : TabB X.base X.mg c P) (hcode : X.env.code = .ref c) (hmT : (P, X.env.qual ++ "<lambda>") ∈ T.tabs) (hu : ∀ p ∈ T.tabs, p.1 = P → p.2 = X.env.qual ++ "<lambda>") (hr : RG (k + 2) X.A) (L : LamS X.env.scope scope) (hdef : defaultsOf params X.env = ([], []))
    (hbind : ∀ (q : Str) (cl : List (Str × Addr)) (pm cv ctv : Value), bindArgs (PySem.W.kla_fn "<lambda>" q params body scope cl pm cv ctv) ⟨[], []⟩ = pure [])
    (hbody : ∀ (A : Around) (outer : List PySem.Env) (s : Shared) (H : Hp) (E' : XK) (f c' : Addr), RG k (A.deeper (lamEnv X scope s.heap.objs.size f c')) → IE T E' (lamCx X A outer s H E' scope f c') body m)
    (hdb : (x == ("__debug__" : Str)) = false := by decide +kernel) (hd : (a == ("__debug__" : Str)) = false := by decide +kernel) (hcd : (a == ("__classdict__" : Str)) = false := by decide +kernel) :
    IE T E X (.Call (.Name x p) [.Lambda params body scope lpos] [] pos) (eSaid told hp m) := by
  obtain ⟨fd, FD⟩ := hFd
  have B := hbi fd FD
  have kp := FD.kp
  obtain ⟨oc, od, dV, kV, doc, pm, an, cdv, ct, osl, rfl, lk, hcdv, _, _⟩ := FD.ex
  have lk' := lk
  rw [hnm] at lk' B
  have kp2 : PySem.W.keepIn X.K (.ref (He.fAd T.K d.at_)) = true := by rw [hK]; exact kp
  have lk2 := lk'
  rw [← show X.K.lookup (He.fAd T.K d.at_) = T.K.lookup (He.fAd T.K d.at_) from by rw [hK]] at lk2
  have B2 : L2.Binds X.K (PySem.W.fnOf x d.qual d.params d.body d.scope dV kV doc pm an cdv ct) [a] [] := by rw [hK]; exact B
  have cd2 : PySem.W.codeIn X.K cdv d.qual = true := by rw [hK]; exact hcdv
  refine PE.mono (lam_call (qg := d.qual) (bg := d.body) (TT := TTsaid T hp cns told) (t := fun E' => tI T E' m) hg hm kp2 lk2 cd2 B2 Sg hNg hva ?_ TB hcode hmT hu hr L hdef hbind hbody LamX.takes0 hdb hd hcd) fun σ H Q q => said_read hcn q
  rw [hbd]
  exact said_makes hK hx0 hN hi hi0 hln (hh cdv) hnt hpk
end Ro
end
section
set_option Elab.async false
set_option linter.all false
set_option maxRecDepth 100000
set_option maxHeartbeats 4000000
namespace Ro
open PySem PySem.Spec PyProof.Rows L2 LamX
variable {T : Tb} {E : XK} {X : Cx}
theorem is_raise0 {c : String} {m : Str} {j : Nat} {p p2 p3 pos : Pos} (hK : X.K = T.K) (hc : X.calm = true) (tk : Takes X fun c d _ H => E c d H) (hf : (He.Fa.exc (c : Str)).ok T.K = true) (hg : Gl X (c : Str)) (hm : X.mg (c : Str) = some (.ref (He.ga T.K (c : Str)))) (hdb : ((c : Str) == ("__debug__" : Str)) = false := by decide +kernel) :
    IS T E X (.Raise (some (.Call (.Name (c : Str) p) [.Constant (.str m) j p2] [] p3)) none pos) (sRaise c aNil) := by
  obtain ⟨e1, e2, e3, e4⟩ := He.exc_ok hf
  rw [← hK] at e1 e2 e3 e4
  refine PS.mono (ps_raise hc tk (pmk_own PySem.F.excBase_ValueError e1 (by rw [hK]; exact hm) e2 (raises_own e3 e4) hg hdb)) fun D σ H ⟨w, env, S, r, e, q⟩ => ?_
  have q : XW T w E c [] S := q
  rw [hK]
  exact q w H _ none (Wd.le.refl _) r ⟨rfl, .inl ⟨rfl, rfl⟩⟩
theorem names_of {c : String} (hg : Gl X (c : Str)) (hm : X.mg (c : Str) = some (.ref (He.ga T.K (c : Str)))) (hdb : ((c : Str) == ("__debug__" : Str)) = false := by decide +kernel) : Names X (c : Str) (.ref (He.ga T.K (c : Str))) := ⟨hg, hdb, .inl hm⟩
/-- the law's own names of what is refused -/
def refD : String → List D → Option D
  | "NoRates", [] => some (.tup [.str "rates"])
  | "NoSpot", [] => some (.tup [.str "spot"])
  | "NoShare", [] => some (.tup [.str "share"])
  | "NoBook", [] => some (.tup [.str "book"])
  | "NoPlace", [] => some (.tup [.str "place"])
  | "Absent", [] => some (.tup [.str "absent"])
  | "Nothing", [] => some (.tup [.str "nothing"])
  | "NoTable", [] => some (.tup [.str "table"])
  | "NoLine", [] => some (.tup [.str "line"])
  | "NoSpending", [p] => some (.tup [.str "spending", p])
  | "NoRule", [p] => some (.tup [.str "rule", p])
  | "NoJourney", [p] => some (.tup [.str "journey", p])
  | "NoText", [r] => some (.tup [.str "text", r])
  | "TooMany", [m, n] => some (.tup [.str "many", m, n])
  | "NoRate", [m, d] => some (.tup [.str "rate", m, d])
  | "NoDay", [d] => some (.tup [.str "day", d])
  | "NoName", [n] => some (.tup [.str "name", n])
  | "NoHeads", [h] => some (.tup [.str "heads", h])
  | _, _ => none
/-- .. of some classes alone -/
def refL (cns : List String) : String → List D → Option D := fun c fs => if c ∈ cns then refD c fs else none
theorem refD_nt {c : String} {fs : List D} {r : D} (h : refD c fs = some r) (hf : noThks fs = true) : noThk r = true := by
  unfold refD at h
  split at h <;> first | cases h | skip
  all_goals simp_all [noThk, noThks]
theorem refL_nt {cns : List String} (c : String) (fs : List D) (r : D) (h : refL cns c fs = some r) (hf : noThks fs = true) : noThk r = true := by
  unfold refL at h
  split at h
  · exact refD_nt h hf
  · cases h
theorem refL_in {cns : List String} (c : String) (fs : List D) (r : D) (h : refL cns c fs = some r) : c ∈ cns := by
  unfold refL at h
  split at h
  · assumption
  · cases h
end Ro
end
section
set_option Elab.async false
set_option linter.all false
set_option maxRecDepth 100000
set_option maxHeartbeats 4000000
namespace Ro
open PySem PySem.Spec PyProof.Rows L2 LamX
/-- the tables' rows that T tells -/
def tabsOf (K : PySem.W.Frag) (tf : List (He.Defn × String)) : List (Addr × Str) := tf.map fun p => ((He.cT K p.1).2, (p.2 : Str) ++ ("<lambda>" : Str))
/-- what is known of the tables at the heap h -/
structure TabF (K : PySem.W.Frag) (tf : List (He.Defn × String)) (h : Heap) : Prop where
  hd : ∀ p ∈ tf, PySem.W.codeHdIn K (He.cT K p.1).1 (He.cT K p.1).2 = true
  out : ∀ p ∈ tf, K.lookup (He.cT K p.1).2 = none
  emp : ∀ p ∈ tf, h.get? (He.cT K p.1).2 = some { cls := .none, data := .fields #[] }
/-- the law's promise at the heap behind the top, tables told -/
theorem lawGT {P : Program} {w : World} {T : Tb} {mg mb : Str → Option Value} {k : Nat} {fa a : Addr} {fd : FuncData} {x : Str} {m : Fn} {st : Shared} {vs : List Value} {ns : List Int} {tf : List (He.Defn × String)} (hT : T.tabs = tabsOf T.K tf)
    (inK : T.K.In st.heap) (hns : st.heap.Ns mainGlobals mg) (hbt : st.heap.Ns builtinsNs mb) (boot : ∀ x : Str, x ≠ "__name__" → mb x = bootBuiltins x) (lim : st.heap.NoLimit) (gens : st.gens = #[]) (tF : TabF T.K tf st.heap)
    (hbm : ∃ (bm : Addr) (ob : Obj), mg "__builtins__" = some (.ref bm) ∧ bm ≠ builtinsNs ∧ st.heap.get? bm = some ob ∧ ob.cls = .type "module" ∧ ob.dict = some builtinsNs ∧ ob.data = .plain)
    (ha : st.heap.get? a = some { cls := .type "list", data := .seq vs.toArray }) (hi : IntsAre vs ns) (hl : ns.length ≤ sizeLine) (hr : RG k callerA)
    (F : ∀ base : Heap, T.K.In base → base.Ns mainGlobals mg → TabsB T.K mg base (tf.map (·.1)) → FnG P w T.K mg base k fa fd [x] (spI T 1 m)) (bind : ∀ (s : Shared) (u : Value), BindsTo s fd ⟨[u], []⟩ [(x, u)])
    (hm : ∃ S, m [.scr ns] [] = .ok (.bl true) S) :
    codeAny (model P w) callerA (.call (.ref fa) ⟨[.ref a], []⟩) (fun r s' => r = .ok (.ret (.bool true)) ∧ OldK st.heap s'.heap ∧ s'.os = st.os ∧ AllBare s'.gens) st := by
  have rv := vals_ints hi
  have lv := hi.length
  let tl : List Addr := tf.map fun p => (He.cT T.K p.1).2
  have tMem : ∀ {b : Addr}, b ∈ tl → ∃ p ∈ tf, (He.cT T.K p.1).2 = b := fun {b} hb => by
    obtain ⟨p, hp, e⟩ := List.mem_map.mp hb
    exact ⟨p, hp, e⟩
  have tAt : ∀ {b : Addr}, b ∈ tl → st.heap.get? b = some { cls := .none, data := .fields #[] } := fun {b} hb => by
    obtain ⟨p, hp, rfl⟩ := tMem hb
    exact tF.emp p hp
  have aNot : a ∉ tl := fun z => by
    have q := tAt z
    rw [ha] at q
    exact nomatch (congrArg Obj.data (Option.some.inj q) : Data.seq vs.toArray _ = Data.fields #[])
  have from_ : ∀ Hs : Hp, Only Hs → SqL T.K Hs a (ns.map V.int) → HOk P w Hs st.heap → (∀ b, Hs b ≠ none → b = a) → (Hs a ≠ none → T.K.lookup a = none) →
      codeAny (model P w) callerA (.call (.ref fa) ⟨[.ref a], []⟩) (fun r s' => r = .ok (.ret (.bool true)) ∧ OldK st.heap s'.heap ∧ s'.os = st.os ∧ AllBare s'.gens) st := by
    intro Hs only sq okS sole away
    have hno : ∀ {b : Addr}, b ≠ a → Hs b = none := fun {b} hb => by
      cases z : Hs b with
      | none => rfl
      | some u => exact absurd (sole b (by rw [z]; simp)) hb
    obtain ⟨H, hH⟩ : ∃ H : Hp, H = fun b => if b ∈ tl then some (.tbl #[]) else Hs b := ⟨_, rfl⟩
    have inT : ∀ {b : Addr}, b ∈ tl → H b = some (.tbl #[]) := fun {b} hb => by rw [hH]; exact if_pos hb
    have offT : ∀ {b : Addr}, b ∉ tl → H b = Hs b := fun {b} hb => by rw [hH]; exact if_neg hb
    have up : ∀ {b : Addr} {u : HO}, Hs b = some u → H b = some u := fun {b u} e => by
      rw [offT fun z => ?_]
      · exact e
      · have : b = a := sole b (by rw [e]; simp)
        exact aNot (this ▸ z)
    have ok : HOk P w H st.heap := fun b u e => by
      by_cases hb : b ∈ tl
      · rw [inT hb] at e
        cases e
        exact tAt hb
      · rw [offT hb] at e
        exact (okS b u e).stay (fun _ _ _ q => q) (fun _ q => up q) fun _ _ q => up q
    have untr : ∀ {b : Addr}, b ≠ a → b ∉ tl → H b = none := fun {b} h1 h2 => by rw [offT h2]; exact hno h1
    have free_ : ∀ {b : Addr} {o : Obj}, st.heap.get? b = some o → (∀ vs n, o.data ≠ .seq vs n) → o.data ≠ .fields #[] → H b = none := fun {b o} e h1 h2 => by
      refine untr (fun z => ?_) fun z => ?_
      · rw [z, ha] at e
        cases e
        exact h1 _ _ rfl
      · rw [tAt z] at e
        cases e
        exact h2 rfl
    have nsB : ∀ {b : Addr} {f : Str → Option Value}, st.heap.Ns b f → (hidT st.heap H).Ns b f := fun {b f} ⟨o, es, ep, e, d, r⟩ => ⟨o, es, ep, hidT_get e (free_ e (fun vs n z => by rw [d] at z; cases z) fun z => by rw [d] at z; cases z), d, r⟩
    have inB : T.K.In (hidT st.heap H) := fun b o e => hidT_get (inK b o e) (by
      by_cases ht : b ∈ tl
      · obtain ⟨p, hp, rfl⟩ := tMem ht
        rw [tF.out p hp] at e
        cases e
      · rw [offT ht]
        by_cases hb : b = a
        · subst hb
          cases z : Hs b with
          | none => rfl
          | some u => rw [away (by rw [z]; simp)] at e; cases e
        · exact hno hb)
    have md : Mod T.K mg (hidT st.heap H) := ⟨inB, nsB hns, ⟨mb, nsB hbt, boot⟩, let ⟨mc, h1, h2⟩ := lim; ⟨mc, nsB h1, h2⟩⟩
    have TBs : TabsB T.K mg (hidT st.heap H) (tf.map (·.1)) := fun q hq => by
      obtain ⟨p, hp, rfl⟩ := List.mem_map.mp hq
      have hat := tF.emp p hp
      have g1 : mainGlobals ≠ (He.cT T.K p.1).2 := fun z => by
        obtain ⟨o, es, ep, e, d, _⟩ := hns
        rw [z, hat] at e
        cases e
        cases d
      refine NdefX.tabB_of_K inB (tF.hd p hp) ?_ g1
      obtain ⟨bm, ob, b1, b2, b3, b4, b5, b6⟩ := hbm
      refine ⟨bm, ob, b1, b2, fun z => ?_, fun z => ?_, hidT_get b3 (free_ b3 (fun vs n z => by rw [b6] at z; cases z) fun z => by rw [b6] at z; cases z), b4, b5, b6⟩
      · obtain ⟨o, es, ep, e, d, _⟩ := hns
        rw [z, e] at b3
        cases b3
        rw [d] at b6
        cases b6
      · rw [z, hat] at b3
        cases b3
        cases b6
    have env0 : Env0 P w T.K mg (hidT st.heap H) callerA [] st H := ⟨rfl, md, fun b o e => of_hidT e, Nat.le_of_eq (hidT_size _ _), trivial, fun b hb => (by cases hb), ok, .of_eq gens⟩
    obtain ⟨S, hS⟩ := hm
    have wr : WR T ⟨Hs, [], []⟩ [] H := by
      refine ⟨fun _ _ h => up h, rfl, List.nodup_nil, ?_, ?_, ?_, ?_, List.nodup_nil, ?_, fun b ps e => ?_⟩
      · intro b hb; cases hb
      · intro n c b h; simp at h
      · intro n c b h; simp at h
      · rw [hT]
        intro p hp
        obtain ⟨q, hq, rfl⟩ := List.mem_map.mp hp
        exact TabS.nil (inT (List.mem_map.mpr ⟨q, hq, rfl⟩))
      · intro p hp; cases hp
      · rcases only b with z | ⟨_, _, z⟩
        · rw [show Hs b = _ from e] at z; cases z
        · rw [show Hs b = _ from e] at z; cases z
    have sp : spI T 1 m [.ref a] H (fun v _ => v = .bl true) (fun _ _ _ => False) := ⟨rfl, ⟨Hs, [], []⟩, [.scr ns], [], wr, .cons (.scr sq) .nil, by
      rw [hS]
      intro w' H' v _ _ p
      cases p
      rfl⟩
    refine codeAny_mono ((F _ inB (nsB hns) TBs).run callerA [] st H ⟨[.ref a], []⟩ [.ref a] [.ref a] _ _ hr env0 (bind st (.ref a)) (.cons rfl .nil) sp) fun r s' h => ?_
    match r, h with
    | .error e, h =>
      obtain ⟨_, _, _, _, _, _, _, _, _, _, _, _, z⟩ := h
      exact z.elim
    | .ok (.ret u), h =>
      obtain ⟨v, H', os, bare, un, ok', r', q⟩ := h
      have q : v = .bl true := q
      subst q
      obtain rfl : u = Value.bool true := r'
      have key : ∀ b o, b ∉ tl → st.heap.get? b = some o → s'.heap.get? b = some o := fun b o nb e => by
        rcases only b with z | ⟨ob, xs, z⟩
        · exact un.keep b o e (by rw [offT nb]; exact z) (by intro y; cases y) (by simp)
        · have z2 := un.frzs b ob _ (up z)
          obtain ⟨e1, _⟩ := okS b _ z
          obtain ⟨e2, _⟩ := ok' b _ z2
          rw [e] at e1
          cases e1
          exact e2
      have grown : ∀ b, b ∈ tl → ∃ more : Array Value, s'.heap.get? b = some { cls := .none, data := .fields more } := fun b hb => by
        obtain ⟨more, z⟩ := un.tbls b #[] (inT hb)
        exact ⟨_, ok' b _ z⟩
      refine ⟨rfl, ⟨fun b o e => ?_, fun b o e => ?_⟩, os, bare⟩
      · by_cases hb : b ∈ tl
        · obtain ⟨more, hmo⟩ := grown b hb
          obtain ⟨p, hp, rfl⟩ := tMem hb
          rw [tF.emp p hp] at e
          cases e
          exact .inr (.inl ⟨((PySem.W.codeHd_of_K inK (tF.hd p hp)).tab (tF.emp p hp)).isCodeTable, rfl, #[], more, rfl, by rw [Array.empty_append]; exact hmo⟩)
        · exact .inl (key b o hb e)
      · by_cases hb : b ∈ tl
        · obtain ⟨more, hmo⟩ := grown b hb
          exact ⟨_, hmo⟩
        · exact ⟨o, key b o hb e⟩
  cases hk : T.K.lookup a with
  | some o =>
    have e := inK a o hk
    rw [ha] at e
    cases e
    exact from_ (fun _ => none) (fun _ => .inl rfl) (.inr ⟨_, vs.toArray, _, hk, rfl, rfl, rfl, by rw [List.size_toArray, lv]; exact hl, by simpa using rv⟩) (fun b u z => (by cases z)) (fun b z => absurd rfl z) fun z => absurd rfl z
  | none =>
    have hyes : ∀ {u : HO}, (fun b => if b = a then some u else none) a = some u := fun {u} => if_pos rfl
    have hno : ∀ {u : HO} {b : Addr}, b ≠ a → (fun b => if b = a then some u else none) b = none := fun {u b} hb => if_neg hb
    refine from_ (fun b => if b = a then some (.frz { cls := .type "list", data := .seq vs.toArray } (.lst (ns.map V.int))) else none) (fun b => ?_) (.inl (.inr ⟨_, hyes⟩)) (fun b u z => ?_) (fun b z => ?_) fun _ => hk
    · by_cases hb : b = a
      · subst hb; exact .inr ⟨_, _, hyes⟩
      · exact .inl (hno hb)
    · by_cases hb : b = a
      · subst hb
        have z := hyes.symm.trans z
        cases z
        exact ⟨ha, by rw [List.length_map]; exact hl, vs, _, rv, ha⟩
      · have z := (hno hb).symm.trans z
        cases z
    · by_cases hb : b = a
      · exact hb
      · exact absurd (hno hb) z
theorem walkGT {l : PySem.W.OpenLaw} {n k : Nat} {q : Program} {loose : List Str} {XP : (Str → Option Value) → Heap → Prop} {YP : World → Heap → Prop} {d : DefRec} {x : Str} {m : Fn} (hn : l.most = some n) (hn2 : n ≤ sizeLine) (hdf : d.params.defaults = []) (hk : k ≤ 200)
    (F : ∀ (w : World) (mg : Str → Option Value) (fa : Addr) (h : Heap), YP w h → h.Ns mainGlobals mg → mg d.name = some (.ref fa) →
      ∃ (T : Tb) (fd : FuncData) (tf : List (He.Defn × String)), T.tabs = tabsOf T.K tf ∧ T.K.In h ∧ TabF T.K tf h ∧ (∀ (s : Shared) (u : Value), BindsTo s fd ⟨[u], []⟩ [(x, u)]) ∧
        ∀ base : Heap, T.K.In base → base.Ns mainGlobals mg → TabsB T.K mg base (tf.map (·.1)) → FnG l.prog w T.K mg base k fa fd [x] (spI T 1 m))
    (hm : ∀ ns : List Int, ns.length ≤ n → (∀ z ∈ ns, bits20 z) → ∃ S, m [.scr ns] [] = .ok (.bl true) S) :
    PySem.W.WalkO q loose XP YP l.row.toRowW d [] (fun f vs => PySem.call f vs) := by
  refine Att.attach_callB hn hdf fun w s₀ st mg mb fa o pm cd doc a vs ns G Y ho hd hcd hmg hobj hints hlen hbits hg => ?_
  obtain ⟨T, fd, tf, hT, inK, tF, hb, hF⟩ := F w mg fa _ Y G.T.g hmg
  exact lawGT hT inK G.T.g G.T.b G.T.builtins G.T.nolimit hg tF G.T.bmain hobj hints (Nat.le_trans hlen hn2) (callerG.mono hk) hF hb (hm ns hlen hbits)
def hookM (n : Nat) (L : Lw) (ts : List He.Tab) : PySem.W.Hook := He.hookX n [] L.defs ts (L.tf.map (·.1)) L.ok
def obM (n : Nat) (L : Lw) (ts : List He.Tab) (g : Addr → Option Obj) : He.AlX := He.obsX n [] L.defs ts (L.tf.map (·.1)) L.ok g
theorem obM_eq {n : Nat} {L : Lw} {ts : List He.Tab} {g : Addr → Option Obj} {s : Shared} (h : ∀ a, g a = s.heap.get? a) : obM n L ts g = (hookM n L ts).obs s := He.obsX_eq h
theorem says_fx {T : Tb} {L : Lw} {ts : List He.Tab} {w : World} {h : Heap} {mg : Str → Option Value} (X : T.K.In h) (G : h.Ns mainGlobals mg) (c : He.SaysX [] L.defs ts (L.tf.map (·.1)) L.ok w h T.K) : Fx T mg L ∧ TabF T.K L.tf h := by
  have e : He.obsD [] L.defs T.K = He.valD L.defs := c.t.d
  have e2 : (L.defs.map fun d => He.fnW T.K d.at_) = L.defs.map He.DefD.val := congrArg (fun z : He.AlD => z.2) e
  refine ⟨fx_of X G (show (L.ok T.K, L.defs.map fun d => He.fnW T.K d.at_) = _ by rw [c.more, e2]), ⟨fun p hp => c.hd p.1 (List.mem_map_of_mem hp), fun p hp => c.out p.1 (List.mem_map_of_mem hp), fun p hp => c.empty p.1 (List.mem_map_of_mem hp)⟩⟩
/-- a def's table, told by its place -/
theorem tab_in {K : PySem.W.Frag} {tf : List (He.Defn × String)} (p : He.Defn) (q : String) (h : (p, q) ∈ tf := by decide +kernel) : (He.tabOf K (He.codeOf K p), (q : Str) ++ ("<lambda>" : Str)) ∈ tabsOf K tf := List.mem_map.mpr ⟨(p, q), h, rfl⟩
theorem tab_one {K : PySem.W.Frag} {tf : List (He.Defn × String)} (hn : (tf.map fun p => (He.cT K p.1).2).Nodup) (p : He.Defn) (q : String) (h : (p, q) ∈ tf := by decide +kernel) : ∀ r ∈ tabsOf K tf, r.1 = He.tabOf K (He.codeOf K p) → r.2 = (q : Str) ++ ("<lambda>" : Str) := by
  intro r hr e
  obtain ⟨s, hs, rfl⟩ := List.mem_map.mp hr
  have key : s = (p, q) := by
    obtain ⟨i, hi, e1⟩ := List.mem_iff_getElem.mp hs
    obtain ⟨j, hj, e2⟩ := List.mem_iff_getElem.mp h
    have e : (He.cT K s.1).2 = (He.cT K p).2 := e
    have li : i < (tf.map fun p => (He.cT K p.1).2).length := by simpa using hi
    have lj : j < (tf.map fun p => (He.cT K p.1).2).length := by simpa using hj
    have : i = j := (List.getElem_inj (h₀ := li) (h₁ := lj) hn).mp (by
      rw [List.getElem_map, List.getElem_map, e1, e2]
      exact e)
    subst this
    rw [← e1, e2]
  rw [key]
end Ro
end
section
set_option Elab.async false
set_option linter.all false
set_option maxRecDepth 100000
set_option maxHeartbeats 4000000
namespace Ro
open PySem PySem.Spec PyProof.Rows L2 LamX
variable {T : Tb} {E : XK} {X : Cx}
theorem tk_lam {X : Cx} {A : Around} {outer : List PySem.Env} {s : Shared} {H : Hp} {E : XK} {scope : Scope} {f c' : Addr} : Takes (lamCx X A outer s H E scope f c') (fun c d _ H => E c d H) := takes_of rfl rfl rfl rfl
theorem RG.mark {k : Nat} {A : Around} (r : RG k A) (v : Option Value) : RGH k (A.mark v) := ⟨⟨r.rm.dp, r.rm.un⟩, r.gd⟩
theorem RGH.hu0 {k : Nat} {A : Around} (r : RGH k A) : A.units < cLine := by have := r.hu; omega
theorem RGH.hu1 {k : Nat} {A : Around} (r : RGH k A) : A.units + 1 < cLine := by have := r.hu; omega
theorem RGH.hu65 {k : Nat} {A : Around} (r : RGH k A) : A.units + 65 < cLine := by have := r.rm.un; omega
theorem hu65 {k : Nat} {A : Around} (r : RG k A) : A.units + 65 < cLine := by have := r.rm.un; omega
end Ro
end
section
set_option Elab.async false
set_option linter.all false
set_option maxRecDepth 100000
set_option maxHeartbeats 4000000
namespace PySem
namespace RoXb
open Builtin Builtin.ObjectAttr
/-- own classes, then the built-in class and what is above it -/
def Tail (bt l : List Value) : Prop := ∃ cs : List Addr, l = cs.map Value.ref ++ bt
def tailB (bt : List Value) : List Value → Bool
  | .ref _ :: r => tailB bt r
  | l => l == bt
theorem tail_of {bt l : List Value} (h : tailB bt l = true) : Tail bt l := by
  fun_induction tailB bt l with
  | case1 a r ih =>
    obtain ⟨cs, rfl⟩ := ih h
    exact ⟨a :: cs, rfl⟩
  | case2 l _ => exact ⟨[], beq_iff_eq.mp h⟩
structure XB (bt : List Value) (B newId initId : String) : Prop where
  F : ExcBaseFacts B newId initId bt
  pass : ∀ self : Value, refuseLoop self "__setattr__" bt = pure ()
  obj : bt.contains (.type "object") = true
  ne : bt.isEmpty = false
  hand : W.handedIn (.builtin initId) = true
section
variable {bt l : List Value} {B newId initId : String}
theorem Tail.pass (X : XB bt B newId initId) (self : Value) (h : Tail bt l) : refuseLoop self "__setattr__" l = pure () := by
  obtain ⟨cs, rfl⟩ := h
  induction cs with
  | nil => exact X.pass self
  | cons c cs ih =>
    show refuseLoop self "__setattr__" (Value.ref c :: (cs.map Value.ref ++ bt)) = _
    rw [refuseLoop_ref]
    exact ih
theorem Tail.has (h : Tail bt l) (X : String) : l.contains (.type X) = bt.contains (.type X) := by
  obtain ⟨cs, rfl⟩ := h
  induction cs with
  | nil => rfl
  | cons c cs ih =>
    show (Value.ref c :: (cs.map Value.ref ++ bt)).contains (.type X) = _
    rw [List.contains_cons, ih]
    rfl
theorem Tail.cons (h : Tail bt l) (C : Addr) : Tail bt (.ref C :: l) := by
  obtain ⟨cs, rfl⟩ := h
  exact ⟨C :: cs, rfl⟩
theorem Tail.ne (X : XB bt B newId initId) (h : Tail bt l) : l.isEmpty = false := by
  obtain ⟨cs, rfl⟩ := h
  cases cs with
  | nil => exact X.ne
  | cons => rfl
end
section
variable {prog : Program} {w : World} {A : Around} {R : Result → Shared → Prop} {hp : Heap} {g : Array GenState} {d : Drawn} {t : Nat} {os : OsState}
variable {K : W.Frag} {name : Str} {tk : Tok} {v : Value} {x C dx : Addr} {fv : Array Value} {cd : ClassData} {bt : List Value} {B newId initId : String}
/-- self.name = v up to the own dict -/
theorem sa_to {ox : Obj} {od : Option Obj} (XX : XB bt B newId initId) (X : K.In hp) (I : W.InstAt hp x ox C od) (hcd : W.clsIn K C = some cd) (hm : Tail bt cd.mro) (ha : W.findIn K (.ref C) name = some none)
    (hq : wpAny (model prog w) A.in1 (storeInOwnDict (.ref x) (.ref C) (.str name tk) name v false)
      (fun fin s' => match fin with | .done f => R (.ok f) s' | .again c' => c'.quiet = true ∧ codeAny (model prog w) A c' R s') (fun e s' => R (.error e) s') ⟨hp, g, d, t, os⟩) :
    codeAny (model prog w) A (.call (.builtin "object.__setattr__") ⟨[.ref x, .str name tk, v], []⟩) R ⟨hp, g, d, t, os⟩ := by
  have S0 := F.store_object
  have isObj : W.Looks (model prog w) hp (isInstance (.ref x) (.type "object")) true := I.type.andThen (W.looks_mroIn X (by
    unfold W.mroIn
    rw [hcd, Option.bind_some, if_neg (by rw [hm.ne XX]; decide), hm.has "object", XX.obj]))
  refine codeAny_call_builtin S0.slot.plain S0.entry (@W.check_slot (model prog w) _ _ ⟨hp, g, d, t, os⟩ "object.__setattr__" "object" "__setattr__" (.ref x) [.str name tk, v] [] _ S0.kind S0.split isObj (S0.args (.ref x) (.str name tk) v) ?_)
  have theMro : W.Looks (model prog w) hp (mroOf (.ref C)) cd.mro := (W.looks_clsIn X hcd).andThen .now
  have noTaker : W.Looks (model prog w) hp (storeTaker? none) none := .now
  rw [W.osa_eq, refuse_eq]
  refine wpAny_bind (wpAny_bind (I.type.at (wpAny_bind (theMro.at ?_))))
  rw [hm.pass XX]
  exact wpAny_pure (wpAny_bind (I.type.at (wpAny_bind ((W.looks_findIn X ha).at (wpAny_bind (noTaker.at hq))))))
/-- .. the first one: a dict is made -/
theorem sa_first (XX : XB bt B newId initId) (X : K.In hp) (hx : hp.get? x = some { cls := .ref C, data := .fields fv }) (hcd : W.clsIn K C = some cd) (hm : Tail bt cd.mro) (hh : cd.hasDict = true) (ha : W.findIn K (.ref C) name = some none)
    (hq : ∀ h' tk' dx, (∀ b o, b ≠ x → hp.get? b = some o → h'.get? b = some o) → hp.objs.size ≤ dx → dx ≠ x → h'.get? x = some { cls := .ref C, dict := some dx, data := .fields fv } →
      h'.Ns1 dx (fun y => if y = name then some v else none) → R (.ok (.ret .none)) ⟨h', g, d, tk', os⟩) :
    codeAny (model prog w) A (.call (.builtin "object.__setattr__") ⟨[.ref x, .str name tk, v], []⟩) R ⟨hp, g, d, t, os⟩ := by
  have I : W.InstAt hp x { cls := .ref C, data := .fields fv } C none := ⟨hx, rfl, rfl, trivial⟩
  have apart : x ≠ hp.objs.size := Nat.ne_of_lt (Heap.lt_size hx)
  refine sa_to XX X I hcd hm ha ?_
  have theCls : W.Looks (model prog w) hp (classData C) cd := W.looks_clsIn X hcd
  obtain ⟨nm, bs, mro, ns, qn, hd, sn, sb, ab, col, del⟩ := cd
  dsimp only at hh
  subst hh
  unfold storeInOwnDict ownDictForStores
  repeat (first | with_reducible refine HandSPX.store_in_new ?_ ?_ | with_reducible refine wpAny_loadPart_at hx ?_ | with_reducible refine theCls.at ?_ | wp_step)
  · exact ⟨_, #[], _, (Heap.get?_update_ne _ _ _ _ apart.symm).trans (Heap.get?_push_at rfl rfl), rfl, fun e he => absurd he (by simp), fun _ => rfl⟩
  · intro h' tk' hn' hs
    have there : (hp.push { cls := .type "dict", data := .dict #[] }).get? x = some { cls := .ref C, data := .fields fv } := Heap.get?_push_of_some _ hx
    refine hq h' tk' hp.objs.size (fun b o hb ho => ?_) (Nat.le_refl _) apart.symm ?_ hn'
    · exact (hs.2 b (Nat.ne_of_lt (Heap.lt_size ho))).trans ((Heap.get?_update_ne _ _ _ _ hb).trans (Heap.get?_push_of_some _ ho))
    · exact (hs.2 x apart).trans (Heap.get?_update_self _ there rfl)
/-- .. a further one -/
theorem sa_next {m0 : Str → Option Value} {nl : List Str} (XX : XB bt B newId initId) (X : K.In hp) (hx : hp.get? x = some { cls := .ref C, dict := some dx, data := .fields fv }) (hns : hp.Ns1 dx m0) (hw : Within m0 nl) (hz : nl.length ≤ 1000)
    (hcd : W.clsIn K C = some cd) (hm : Tail bt cd.mro) (hh : cd.hasDict = true) (ha : W.findIn K (.ref C) name = some none)
    (hq : ∀ h' tk', (∀ b o, b ≠ dx → hp.get? b = some o → h'.get? b = some o) → h'.Ns1 dx (fun y => if y = name then some v else m0 y) → R (.ok (.ret .none)) ⟨h', g, d, tk', os⟩) :
    codeAny (model prog w) A (.call (.builtin "object.__setattr__") ⟨[.ref x, .str name tk, v], []⟩) R ⟨hp, g, d, t, os⟩ := by
  obtain ⟨oD, _, _, hoD, _, _⟩ := hns.count hw
  have I : W.InstAt hp x { cls := .ref C, dict := some dx, data := .fields fv } C (some oD) := ⟨hx, rfl, rfl, hoD⟩
  refine sa_to XX X I hcd hm ha ?_
  have theCls : W.Looks (model prog w) hp (classData C) cd := W.looks_clsIn X hcd
  obtain ⟨nm, bs, mro, ns, qn, hd, sn, sb, ab, col, del⟩ := cd
  dsimp only at hh
  subst hh
  unfold storeInOwnDict ownDictForStores
  repeat (first | with_reducible refine OEX.store_in_old hns hw hz ?_ | with_reducible refine wpAny_loadPart_at hx ?_ | with_reducible refine theCls.at ?_ | wp_step)
  intro h' tk' hn' hs
  exact hq h' tk' (fun b o hb ho => (hs.2 b hb).trans ho) hn'
end
end RoXb
end PySem
namespace Ro
open PySem PySem.Spec PyProof.Rows L2 PySem.RoXb
/-- what the written part says of such a class -/
structure XCl (K : PySem.W.Frag) (C : Addr) (bt : List Value) (newId : String) : Prop where
  cls : ∃ nm q N bs bm sn sub ab col dd k0 k1 k2 k3 k5, K.lookup C = some (excClassObj nm q C N bs bm true sn sub ab col dd k0 k1 k2 k3 k5 newId) ∧ Tail bt bm
  sa : PySem.W.findIn K (.ref C) "__setattr__" = some (some (.builtin "object.__setattr__"))
  exC : PySem.W.subIn K (.ref C) (.type "BaseException") = some true
  tyC : PySem.W.typeIn K (.ref C) = some (.type "type")
  kC : PySem.W.keepIn K (.ref C) = true
section
variable {X : Cx} {pins : List (Addr × Obj)} {σ : L2.St} {H : Hp} {s : Shared} {a C dx : Addr} {f : Str} {y : V} {u : Value} {fs : List (Str × V)} {Q : Unit → Shared → Prop} {E : Value → Shared → Prop} {A : Around} {bt : List Value} {B newId initId : String}
/-- self.f = y, the first field -/
theorem xst_first (XX : XB bt B newId initId) (T : XCl X.K C bt newId) (I : Inv X pins σ H s) (e : H a = some (exo a C none)) (hno : PySem.W.findIn X.K (.ref C) f = some none) (ry : RelV y u)
    (h : ∀ dx s', H dx = none → dx ≠ a → Inv X pins σ (upd (upd H dx (exd dx [(f, y)])) a (exo a C (some dx))) s' → Q () s') : wpAny (model X.prog X.w) A (setAttr (.ref a) f u) Q E s := by
  obtain ⟨nm, q, N, bs, bm, sn, sub, ab, col, dd, k0, k1, k2, k3, k5, hC, hbm⟩ := T.cls
  have hcl : PySem.W.clsIn X.K C = some { name := nm, bases := bs, mro := .ref C :: bm, ns := N, qualname := q, hasDict := true, slotNames := sn, subclasses := sub, abstract := ab, collection := col, hasDel := false } := by unfold PySem.W.clsIn; rw [hC] <;> rfl
  obtain ⟨t1, ho⟩ := exo_at I.hok e
  obtain ⟨hp, g, d, t, os⟩ := s
  refine PySem.W.set_plain I.kIn (ox := { cls := .ref C, dict := none, data := .fields #[.ref t1, .none, .none, .none, .bool false, .none] }) (od := none) ⟨ho, rfl, rfl, trivial⟩ T.sa ?_
  refine sa_first XX I.kIn ho hcl (hbm.cons C) rfl hno (fun h' tk' dx k dn dne hx hn => ?_)
  have free : H dx = none := I.hok.fresh dn
  have nd : ∀ {b : Addr} {o : Obj}, hp.get? b = some o → b ≠ dx := fun {b o} z => Nat.ne_of_lt (Nat.lt_of_lt_of_le (Heap.lt_size z) dn)
  have na : ∀ {b : Addr}, H b = none → b ≠ a := fun {b} n z => by
    rw [z, e] at n
    cases n
  have U : Un X.fs [] H (upd (upd H dx (exd dx [(f, y)])) a (exo a C (some dx))) hp h' := ⟨fun b o z n _ _ => k b o (na n) z, fun b o z n _ _ => ⟨o.slots, k b o (na n) z⟩, fun b o z n _ => by rw [upd_ne (na n), upd_ne (nd z)]; exact n, fun b o z _ => by
      by_cases hb : b = a
      · exact ⟨_, by rw [hb]; exact hx⟩
      · exact ⟨o, k b o hb z⟩, fun b xs z => by rw [upd_ne (at_ne e z exo_tup), upd_ne (ne_of_none z free)]; exact z, fun b o v z => by rw [upd_ne (at_ne e z exo_frz), upd_ne (ne_of_none z free)]; exact z, fun b ps z => ⟨#[], by rw [upd_ne (at_ne e z exo_tbl), upd_ne (ne_of_none z free), z]; simp⟩⟩
  refine h dx _ free dne (I.un (t' := tk') U fun b o z => ?_)
  by_cases hb : b = a
  · subst hb
    rw [upd_same] at z
    cases z
    exact exo_ok hx
  · rw [upd_ne hb] at z
    by_cases hd : b = dx
    · subst hd
      rw [upd_same] at z
      cases z
      exact exd_ok hn (relO_put (fs := []) ry fun g => True.intro)
    · rw [upd_ne hd] at z
      exact (I.hok b o z).stay (fun c v hc z => k c v (hc.elim (fun hc => by rw [hc]; exact hb) fun hc => at_ne e hc exo_own) z)
        (fun c hc => by rw [upd_ne (at_ne e hc exo_own), upd_ne (ne_of_none hc free)]; exact hc) (fun c xs hc => by rw [upd_ne (at_ne e hc exo_tup), upd_ne (ne_of_none hc free)]; exact hc)
/-- self.f = y, a further field -/
theorem xst_next (XX : XB bt B newId initId) (T : XCl X.K C bt newId) (I : Inv X pins σ H s) (e : H a = some (exo a C (some dx))) (ed : H dx = some (exd dx fs)) (hl : fs.length ≤ 900) (hno : PySem.W.findIn X.K (.ref C) f = some none) (ry : RelV y u)
    (h : ∀ s', Inv X pins σ (upd H dx (exd dx ((f, y) :: fs))) s' → Q () s') : wpAny (model X.prog X.w) A (setAttr (.ref a) f u) Q E s := by
  obtain ⟨nm, q, N, bs, bm, sn, sub, ab, col, dd, k0, k1, k2, k3, k5, hC, hbm⟩ := T.cls
  have hcl : PySem.W.clsIn X.K C = some { name := nm, bases := bs, mro := .ref C :: bm, ns := N, qualname := q, hasDict := true, slotNames := sn, subclasses := sub, abstract := ab, collection := col, hasDel := false } := by unfold PySem.W.clsIn; rw [hC] <;> rfl
  obtain ⟨t1, ho⟩ := exo_at I.hok e
  obtain ⟨mA, hns, rel⟩ := exd_at I.hok ed
  have hw := within_of rel
  obtain ⟨hp, g, d, t, os⟩ := s
  obtain ⟨oD, _, _, hoD, _, _⟩ := hns.count hw
  refine PySem.W.set_plain I.kIn (ox := { cls := .ref C, dict := some dx, data := .fields #[.ref t1, .none, .none, .none, .bool false, .none] }) (od := some oD) ⟨ho, rfl, rfl, hoD⟩ T.sa ?_
  refine sa_next XX I.kIn ho hns hw (by rw [List.length_map]; omega) hcl (hbm.cons C) rfl hno (fun h' tk' k hn => ?_)
  have stays : ∃ o, h'.get? dx = some o := by
    obtain ⟨o, _, _, e', _⟩ := hn
    exact ⟨o, e'⟩
  exact h _ (I.write (t' := tk') (x := dx) (e := dx) (o := exd dx ((f, y) :: fs)) (by rw [ed]; exact True.intro) (.inl rfl) k stays (exd_ok hn (relO_put ry rel)))
/-- the built-in class's __init__ of it -/
theorem xinit_ok {us : List Value} {Q : Value → Shared → Prop} (XX : XB bt B newId initId) (T : XCl X.K C bt newId) (I : Inv X pins σ H s) (e : H a = some (exo a C none)) (hl : us.length ≤ sizeLine) (h : ∀ s', Inv X pins σ H s' → Q .none s') :
    wpAny (model X.prog X.w) A (call (.builtin initId) (.ref a :: us)) Q E s := by
  obtain ⟨nm, q, N, bs, bm, sn, sub, ab, col, dd, k0, k1, k2, k3, k5, hC, hbm⟩ := T.cls
  obtain ⟨t1, ho⟩ := exo_at I.hok e
  obtain ⟨hp, g, d, t, os⟩ := s
  refine wpAny_call (PySem.HandSPX.init_base XX.F (fun Y => hbm.has Y) (I.kIn _ _ hC) ho hl fun h' t2 k hx => ?_)
  have J := I.write (t' := t) (x := a) (e := a) (o := exo a C none) (by rw [e]; exact True.intro) (.inl rfl) k ⟨_, hx⟩ (exo_ok hx)
  have same : upd H a (exo a C none) = H := by
    funext b
    by_cases hb : b = a
    · rw [hb, upd_same, e]
    · rw [upd_ne hb]
  rw [same] at J
  exact h _ J
end
end Ro
end
section
set_option Elab.async false
set_option linter.all false
set_option maxRecDepth 100000
set_option maxHeartbeats 4000000
namespace Ro
open PySem PySem.Spec PyProof.Rows L2 PySem.RoXb
def tXin (K : PySem.W.Frag) (bt : List Value) (newId : String) (ta : TA) : TE := fun σ H Q => ta σ H fun vs H1 => ∃ (a C : Addr) (ws : List V), vs = .ref a :: ws ∧ ws.length ≤ 1000 ∧ XCl K C bt newId ∧ H1 a = some (exo a C none) ∧ Q .non H1
def tXst (K : PySem.W.Frag) (bt : List Value) (newId : String) (f : Str) (to te : TE) : TS := fun D σ H => te σ H fun y H1 => to σ H1 fun x H2 => ∃ a C : Addr, x = .ref a ∧ XCl K C bt newId ∧ PySem.W.findIn K (.ref C) f = some none ∧
  ((H2 a = some (exo a C none) ∧ ∀ dx, H2 dx = none → dx ≠ a → D.nx σ (upd (upd H2 dx (exd dx [(f, y)])) a (exo a C (some dx)))) ∨
    ∃ (dx : Addr) (fs : List (Str × V)), H2 a = some (exo a C (some dx)) ∧ H2 dx = some (exd dx fs) ∧ fs.length ≤ 900 ∧ D.nx σ (upd H2 dx (exd dx ((f, y) :: fs))))
section
variable {X : Cx} {o e : Expr} {es : List Expr} {to te : TE} {ta : TA} {f : Str} {p p' p1 p2 pos : Pos} {bt : List Value} {B newId initId : String}
theorem xin_run (XX : XB bt B newId initId) (ha : PA X (e :: es) ta) {pins : List (Addr × Obj)} {σ : L2.St} {H : Hp} {s : Shared} {Q : VK} (I : Inv X pins σ H s) (h : tXin X.K bt newId ta σ H Q)
    (he : starEach (e :: es) X.env = (false, eval e X.env) :: starEach es X.env) (hpl : (backTo pos (starEach es X.env)).any (·.1) = false) :
    wpAny (model X.prog X.w) X.A (callWith pos (Value.builtin initId) [] (backTo pos (starEach (e :: es) X.env)) []) (EP X pins σ Q) X.xe s := by
  refine PyProof.Rows.callWith_method1 (thn (ha.run pos pins s σ H _ I h) fun us s1 ⟨vs, H1, I1, r1, a, C, ws, ev, hl, T, ea, q⟩ => ?_) he hpl
  subst ev
  cases r1 with
  | @cons _ u0 _ ur ra rw' =>
    obtain rfl : u0 = Value.ref a := ra
    have few : ur.length ≤ sizeLine := by
      rw [← Paired.length rw', sizeLine_eq]
      omega
    exact xinit_ok XX T I1 ea few fun s' J => ⟨.non, H1, J, rfl, q⟩
/-- .. Base a built-in class -/
theorem pe_xin_blt {pl : Sem Bool} (XX : XB bt B newId initId) (hg : Gl X (B : Str)) (hm : X.mg (B : Str) = none) (hv : bootBuiltins (B : Str) = some (.type B)) (ty : typeOf (.type B) = pure (.type "type")) (st : Manifest.isStub B = false)
    (fi : PySem.W.findCls X.K (.type B) (.type "type") "__init__" = some (.val (.builtin initId))) (ha : PA X (e :: es) ta)
    (hc : eval (.Call (.Attribute (.Name (B : Str) p1) "__init__" p2) (e :: es) [] pos) X.env = (do
      let ov ← eval (.Name (B : Str) p1) X.env
      standAt p2.atName
      let (f, first) ← holding [ov] (getMethod ov "__init__" pl)
      callWith pos f first (backTo pos (starEach (e :: es) X.env)) (backToKw pos (keywordEach [] X.env))) := by rfl)
    (he : starEach (e :: es) X.env = (false, eval e X.env) :: starEach es X.env := by rfl) (hpl : (backTo pos (starEach es X.env)).any (·.1) = false := by rfl) (hdb : ((B : Str) == ("__debug__" : Str)) = false := by decide +kernel) (hn : (B : Str) ≠ "__name__" := by decide +kernel) :
    PE X (.Call (.Attribute (.Name (B : Str) p1) "__init__" p2) (e :: es) [] pos) (tXin X.K bt newId ta) := by
  refine ⟨fun pins s σ H Q I h => ?_⟩
  refine PySem.W.methodCall_KW (ld_blt I hg hm hv ?_ hn hdb) hc
  obtain ⟨m, fr⟩ := I.fr
  refine PySem.W.method_type fr I.ok.mod.kin ty st fi XX.hand ?_
  exact xin_run XX ha (I.tok _) h he hpl
theorem ps_xst (XX : XB bt B newId initId) (ho : PE X o to) (he : PE X e te) (hs : swapsWith e (some (.Attribute o f p')) pos.line X.env = pure false := by rfl) : PS X (.Assign [.Attribute o f p'] e pos) (tXst X.K bt newId f to te) := by
  refine ⟨fun pins s σ H D I h => ?_⟩
  refine plainObj_wpAny_Assign_Attribute (thn (he.run pins s σ H _ I h) fun v s1 ⟨y, H1, I1, r1, q1⟩ => thn (ho.run pins s1 σ H1 _ I1 q1) fun u s2 ⟨x, H2, I2, r2, a, C, ex, T, hno, q⟩ => ?_) hs
  subst ex
  obtain rfl : u = Value.ref a := r2
  rcases q with ⟨ea, q⟩ | ⟨dx, fs, ea, ed, hl, q⟩
  · exact xst_first XX T I2 ea hno r1 fun dx s' n ne J => ⟨σ, _, J, q dx n ne⟩
  · exact xst_next XX T I2 ea ed hl hno r1 fun s' J => ⟨σ, _, J, q⟩
end
def spX (C : Addr) (flds : List Str) : Sp := fun vs H Q _ => vs.length = flds.length + 1 ∧ ∃ a ws, vs = .ref a :: ws ∧ H a = some (exo a C none) ∧
  ∀ d H', H d = none → d ≠ a → H' a = some (exo a C (some d)) → H' d = some (exd d (flds.zip ws).reverse) → (∀ b, b ≠ a → b ≠ d → H' b = H b) → Q .non H'
structure InitOk (T : Tb) (P : Program) (w : World) (mg : Str → Option Value) (base : Heap) (k : Nat) (d : He.DefD) (ps : List Str) (c : String) (flds : List Str) (bt : List Value) (B newId initId : String) : Prop where
  ex : ∃ fd, FunD T.K d.name d.qual d.params d.body d.scope (d.dvs T.K) [] (He.fAd T.K d.at_) fd ∧ FnG P w T.K mg base k (He.fAd T.K d.at_) fd ps (spX (He.ga T.K (c : Str)) flds)
  xb : XB bt B newId initId
  xc : XCl T.K (He.ga T.K (c : Str)) bt newId
theorem InitOk.mono {T : Tb} {P : Program} {w : World} {mg : Str → Option Value} {base : Heap} {j k : Nat} {d : He.DefD} {ps : List Str} {c : String} {flds : List Str} {bt : List Value} {B newId initId : String} (F : InitOk T P w mg base j d ps c flds bt B newId initId) (h : j ≤ k) : InitOk T P w mg base k d ps c flds bt B newId initId := by
  obtain ⟨fd, F1, F2⟩ := F.ex
  exact ⟨⟨fd, F1, F2.mono h⟩, F.xb, F.xc⟩
section
variable {T : Tb} {P : Program} {w : World} {mg : Str → Option Value} {base : Heap} {k : Nat} {d : He.DefD} {c : String} {bt : List Value} {B newId initId : String} {fd : FuncData}
/-- two fields -/
theorem InitOk.of2 {s1 x1 x2 f1 f2 m : Str} {bx : Expr} {j : Nat} {q1 q2 q3 q4 q5 q6 q7 q8 q9 r1 r2 r3 : Pos} (XX : XB bt B newId initId) (XC : XCl T.K (He.ga T.K (c : Str)) bt newId) (F : FunD T.K d.name d.qual d.params d.body d.scope (d.dvs T.K) [] (He.fAd T.K d.at_) fd) (Sc : FnScope [s1, x1, x2] [s1, x1, x2] d.scope)
    (hb : d.body = [.Expr (.Call bx [.Name s1 q1, .Constant (.str m) j q2] [] q3) q4, .Assign [.Attribute (.Name s1 q5) f1 q6] (.Name x1 q7) q8, .Assign [.Attribute (.Name s1 q9) f2 r1] (.Name x2 r2) r3])
    (no1 : PySem.W.findIn T.K (.ref (He.ga T.K (c : Str))) f1 = some none) (no2 : PySem.W.findIn T.K (.ref (He.ga T.K (c : Str))) f2 = some none)
    (hd1 : (s1 == ("__debug__" : Str)) = false := by decide +kernel) (hd2 : (x1 == ("__debug__" : Str)) = false := by decide +kernel) (hd3 : (x2 == ("__debug__" : Str)) = false := by decide +kernel)
    (hl1 : d.scope.names.lookup s1 = some .local := by rfl) (hl2 : d.scope.names.lookup x1 = some .local := by rfl) (hl3 : d.scope.names.lookup x2 = some .local := by rfl)
    (hc1 : (s1 == ("__classdict__" : Str)) = false := by decide +kernel) (hc2 : (x1 == ("__classdict__" : Str)) = false := by decide +kernel) (hc3 : (x2 == ("__classdict__" : Str)) = false := by decide +kernel)
    (hcall : ∀ (cdv : Value) (A : Around) (outer : List PySem.Env) (s : Shared) (H : Hp) (E : XK) (ta : TA), PA (cxOf (L2.CX P w) P w T.K mg base [s1, x1, x2] d.qual d.scope (He.fAd T.K d.at_) cdv A outer s H E) [.Name s1 q1, .Constant (.str m) j q2] ta →
      PE (cxOf (L2.CX P w) P w T.K mg base [s1, x1, x2] d.qual d.scope (He.fAd T.K d.at_) cdv A outer s H E) (.Call bx [.Name s1 q1, .Constant (.str m) j q2] [] q3) (tXin T.K bt newId ta)) :
    InitOk T P w mg base (k + 1) d [s1, x1, x2] c [f1, f2] bt B newId initId := by
  refine ⟨⟨fd, F, ?_⟩, XX, XC⟩
  obtain ⟨oc, od, dV, kV, doc, pm, an, cdv, ct, osl, rfl, lk, hcd, _, _⟩ := F.ex
  refine fnG_of lk hcd Sc (fun vs H Q E h => h.1) fun A outer s H vs Q E hr hsp => ?_
  obtain ⟨hl, a, ws, rfl, ea, hq⟩ := hsp
  rw [hb]
  obtain ⟨v, u, rfl⟩ : ∃ v u, ws = [v, u] := by
    match ws, hl with
    | [v, u], _ => exact ⟨v, u, rfl⟩
  refine ⟨_, pss_cons (ps_expr (hcall cdv A outer s H E _ (pa_cons (pe_var (i := 0) rfl (.inl hl1) hd1 hc1) (pa_cons pe_str pa_nil)))) (pss_cons (ps_xst XX (pe_var (i := 0) rfl (.inl hl1) hd1 hc1) (pe_var (i := 1) rfl (.inl hl2) hd2 hc2)) (pss_one (ps_xst XX (pe_var (i := 0) rfl (.inl hl1) hd1 hc1) (pe_var (i := 2) rfl (.inl hl3) hd3 hc3)))), ?_⟩
  refine ⟨.ref a, rfl, a, He.ga T.K (c : Str), [.str m], rfl, by simp, XC, ea, ?_⟩
  refine ⟨v, rfl, .ref a, rfl, a, He.ga T.K (c : Str), rfl, XC, no1, .inl ⟨ea, fun dx hdx hne => ?_⟩⟩
  refine ⟨u, rfl, .ref a, rfl, a, He.ga T.K (c : Str), rfl, XC, no2, .inr ⟨dx, [(f1, v)], upd_same, by rw [upd_ne hne]; exact upd_same, by simp, ?_⟩⟩
  exact hq dx _ hdx hne (by rw [upd_ne (Ne.symm hne)]; exact upd_same) upd_same fun b h1 h2 => by rw [upd_ne h2, upd_ne h1, upd_ne h2]
end
def tMkX (C : Addr) (flds : List Str) (ta : TA) : L2.St → Hp → XK → Prop := fun σ H Q => ta σ H fun vs H1 => vs.length = flds.length ∧ vs.length ≤ 1000 ∧ ∀ d, H1 d = none → Q (.ref C) (some d) (upd H1 d (.xd (flds.zip vs).reverse))
section
variable {X : Cx} {T : Tb} {E : XK} {e : Expr} {es : List Expr} {p pos : Pos} {k : Nat} {d : He.DefD} {ps : List Str} {c : String} {flds : List Str} {bt : List Value} {B newId initId : String} {ta : TA}
theorem pmk_xi (hK : X.K = T.K) (F : InitOk T X.prog X.w X.mg X.base k d ps c flds bt B newId initId) (iC : PySem.W.findIn T.K (.ref (He.ga T.K (c : Str))) "__init__" = some (some (.ref (He.fAd T.K d.at_)))) (tI : PySem.W.typeIn T.K (.ref (He.fAd T.K d.at_)) = some (.type "function"))
    (hr : RG (k + 1) X.A) (hb : ∀ fd, FunD T.K d.name d.qual d.params d.body d.scope (d.dvs T.K) [] (He.fAd T.K d.at_) fd → L2.Binds T.K fd ps []) (hps : ps.length = flds.length + 1) (hx : Takes X fun _ _ _ _ => False) (hg : Gl X (c : Str)) (hm : X.mg (c : Str) = some (.ref (He.ga T.K (c : Str)))) (ha : PA X (e :: es) ta)
    (hdb : ((c : Str) == ("__debug__" : Str)) = false := by decide +kernel) (he : starEach (e :: es) X.env = (false, eval e X.env) :: starEach es X.env := by rfl) (hpl : (backTo pos (starEach es X.env)).any (·.1) = false := by rfl) :
    PMk X (.Call (.Name (c : Str) p) (e :: es) [] pos) (tMkX (He.ga T.K (c : Str)) flds ta) := by
  obtain ⟨⟨fd, FD, FO⟩, XX, XC⟩ := F
  rw [← hK] at FO iC tI XC
  have bn := hb fd FD
  rw [← hK] at bn
  generalize hC' : He.ga T.K (c : Str) = C at *
  have eC : He.ga X.K (c : Str) = C := by rw [hK]; exact hC'
  rw [eC] at FO iC XC
  intro pins s σ H Q I h
  obtain ⟨nm, q, N, bs, bm, sn, sub, ab, col, dd, k0, k1, k2, k3, k5, hC, hbm⟩ := XC.cls
  refine wpAny_Call_Name_kw (ld_glob I hg hm ?_ hdb)
  refine PySem.W.callWith_K (h₀ := X.base) I.ok.mod.kin XC.kC (thn (ha.run pos pins s σ H _ I h) fun us s1 ⟨vs, H1, I1, r1, hvl, hz, q1⟩ => ⟨I1.kIn, ?_⟩) he hpl
  show wpAny _ _ (call (.ref C) us) _ _ _
  obtain ⟨hp, g, dr, tk, os⟩ := s1
  have above : hp.objs.size ≤ hp.objs.size + 1 := Nat.le_succ _
  have hn : H1 (hp.objs.size + 1) = none := I1.hok.fresh above
  have grow : ∀ b o, hp.get? b = some o → ((hp.push (PySem.W.kdv_tup us)).push (PySem.HandSPX.excO C hp.objs.size)).get? b = some o := fun b o e => Heap.get?_push_of_some _ (Heap.get?_push_of_some _ e)
  have hget : ((hp.push (PySem.W.kdv_tup us)).push (PySem.HandSPX.excO C hp.objs.size)).get? (hp.objs.size + 1) = some (PySem.HandSPX.excO C hp.objs.size) := by heap_get
  have I2 : Inv X pins σ (upd H1 (hp.objs.size + 1) (exo (hp.objs.size + 1) C none)) ⟨(hp.push (PySem.W.kdv_tup us)).push (PySem.HandSPX.excO C hp.objs.size), g, dr, tk, os⟩ :=
    I1.laid (t' := tk) (a := hp.objs.size + 1) (o := exo (hp.objs.size + 1) C none) (h' := (hp.push (PySem.W.kdv_tup us)).push (PySem.HandSPX.excO C hp.objs.size)) grow above (exo_ok hget)
  have r2 : Vals (V.ref (hp.objs.size + 1) :: vs) (Value.ref (hp.objs.size + 1) :: us) := .cons rfl r1
  have hl : (Value.ref (hp.objs.size + 1) :: us).length = ps.length := by
    rw [← r2.length, hps, List.length_cons, hvl]
  have few : us.length ≤ sizeLine := by
    rw [← Paired.length r1, sizeLine_eq]
    omega
  have start : spX C flds (V.ref (hp.objs.size + 1) :: vs) (upd H1 (hp.objs.size + 1) (exo (hp.objs.size + 1) C none)) (fun v H2 => v = .non ∧ ∃ (d : Addr) (fs : List (Str × V)), H2 (hp.objs.size + 1) = some (exo (hp.objs.size + 1) C (some d)) ∧ H2 d = some (exd d fs) ∧ H1 d = none ∧ Q (.ref C) (some d) (upd (del H2 (hp.objs.size + 1)) d (.xd fs))) E00 := by
    refine ⟨by rw [List.length_cons, hvl], _, vs, rfl, upd_same, fun d0 H' h1 h2 h3 h4 h5 => ⟨rfl, d0, _, h3, h4, ?_, ?_⟩⟩
    · rw [upd_ne h2] at h1; exact h1
    · have hd0 : H1 d0 = none := by rw [upd_ne h2] at h1; exact h1
      have same : upd (del H' (hp.objs.size + 1)) d0 (.xd (flds.zip vs).reverse) = upd H1 d0 (.xd (flds.zip vs).reverse) := by
        funext b
        by_cases hbd : b = d0
        · rw [hbd, upd_same, upd_same]
        · rw [upd_ne hbd, upd_ne hbd]
          by_cases hba : b = hp.objs.size + 1
          · rw [hba, del_same, hn]
          · rw [del_ne hba, h5 b hba hbd, upd_ne hba]
      rw [same]
      exact q1 d0 hd0
  have bto := bn ⟨(hp.push (PySem.W.kdv_tup us)).push (PySem.HandSPX.excO C hp.objs.size), g, dr, tk, os⟩ (Value.ref (hp.objs.size + 1) :: us) I2.kIn (by rw [List.append_nil]; exact hl)
  rw [List.append_nil] at bto
  refine wpAny_call (PySem.HandSPX.call_own XX.F (fun Y => hbm.has Y) (I1.kIn _ _ hC) (PySem.W.looks_findIn I1.kIn iC) (fun self => PySem.W.bind_fn I1.kIn self tI) few
    (codeAny_mono (FO.run _ X.stack _ _ ⟨Value.ref (hp.objs.size + 1) :: us, []⟩ (Value.ref (hp.objs.size + 1) :: us) _ _ E00 (hr.make C us []) (I2.env0.make C us []) bto r2 start) fun r s' hq' => ?_))
  match r, hq' with
  | .error er, hq' => exact passes_call hx (fun _ _ _ _ h => h) pins σ _ _ er s' I2 hq'
  | .ok (.ret u), hq' =>
    obtain ⟨v, H2, os2, bare2, un2, hok2, rv, ev, d0, fs, ea, ed, hd1, q2⟩ := hq'
    subst ev
    obtain ⟨h2, g2, d2, t2, os'⟩ := s'
    exact ⟨rv, mk_end (raises_own XC.exC XC.tyC) I1 above grow un2 hok2 os2 bare2 ea ed hd1 q2⟩
/-- raise C(..), C with an own __init__ that sets the fields flds -/
theorem is_raiseI {fa : AX} {pos' : Pos} (hK : X.K = T.K) (hc : X.calm = true) (tk : Takes X fun c d _ H => E c d H) (hx : Takes X fun _ _ _ _ => False) (F : InitOk T X.prog X.w X.mg X.base k d ps c flds bt B newId initId) (iC : PySem.W.findIn T.K (.ref (He.ga T.K (c : Str))) "__init__" = some (some (.ref (He.fAd T.K d.at_)))) (tI : PySem.W.typeIn T.K (.ref (He.fAd T.K d.at_)) = some (.type "function"))
    (hr : RG (k + 1) X.A) (hb : ∀ fd, FunD T.K d.name d.qual d.params d.body d.scope (d.dvs T.K) [] (He.fAd T.K d.at_) fd → L2.Binds T.K fd ps []) (hps : ps.length = flds.length + 1) (hg : Gl X (c : Str)) (hm : X.mg (c : Str) = some (.ref (He.ga T.K (c : Str)))) (ha : IA T E X (e :: es) fa)
    (hlk : ∀ vs : List V, vs.length = flds.length → ∃ gs, gs = (flds.zip vs).reverse ∧ (∀ f ∈ T.cf c, ∃ v, gs.lookup (Str.ofString f) = some v) ∧ (T.cf c).map (fun f : String => (gs.lookup (Str.ofString f)).getD .non) = vs)
    (hdb : ((c : Str) == ("__debug__" : Str)) = false := by decide +kernel) (he : starEach (e :: es) X.env = (false, eval e X.env) :: starEach es X.env := by rfl) (hpl : (backTo pos (starEach es X.env)).any (·.1) = false := by rfl) :
    IS T E X (.Raise (some (.Call (.Name (c : Str) p) (e :: es) [] pos)) none pos') (sRaise c fun env S => (fa env S).bnd fun ds S1 => if ds.length = flds.length ∧ ds.length ≤ 1000 then .ok ds S1 else .bad) := by
  refine PS.mono (ps_raise hc tk (pmk_xi hK F iC tI hr hb hps hx hg hm ha hdb he hpl)) fun De σ H ⟨w, env, S, r, e, q⟩ => ?_
  refine ⟨w, env, S, r, e, ?_⟩
  have q : RP (((fa env S).bnd fun ds S1 => if ds.length = flds.length ∧ ds.length ≤ 1000 then (.ok ds S1 : R (List D)) else .bad).bnd fun fs S1 => (.err c fs S1 : R Ctl)) (CP T w De) (XW T w E) := q
  cases z : fa env S with
  | ok ds S1 =>
    rw [z, bnd_ok] at q
    by_cases hl : ds.length = flds.length ∧ ds.length ≤ 1000
    · rw [if_pos hl, bnd_ok] at q
      have q : XW T w E c ds S1 := q
      show ∀ w' H' vs, w.le w' → WR T w' S1 H' → Reps T w' ds vs → _
      intro w' H' vs l r' px
      refine ⟨by rw [← px.length]; exact hl.1, by rw [← px.length]; exact hl.2, fun d0 hd0 => ?_⟩
      obtain ⟨gs, hgs, g1, g2⟩ := hlk vs (by rw [← px.length]; exact hl.1)
      rw [← hgs]
      refine q w' _ _ _ l (r'.grow fun a u e => by rw [upd_ne (ne_of_none e hd0)]; exact e) ⟨rfl, .inr ⟨d0, gs, rfl, upd_same, g1, ?_⟩⟩
      rw [g2]
      exact px
    · rw [if_neg hl] at q
      exact (show False from q).elim
  | err c2 fs S1 => rw [z] at q; exact q
  | bad => rw [z] at q; exact (show False from q).elim
end
end Ro
end
section
set_option Elab.async false
set_option linter.all false
set_option maxRecDepth 100000
set_option maxHeartbeats 4000000
namespace Ro
open PySem PySem.Spec PyProof.Rows L2 PySem.RoXb
def xclB (K : PySem.W.Frag) (C : Addr) (bt : List Value) (newId : String) : Bool := (match K.lookup C with
  | some ⟨.type t, _, .cls cd, sl⟩ => decide (t = "type") && (match cd.mro, sl.toList with
    | .ref C' :: bm, [_, _, _, _, some (.builtin n), _] => decide (C' = C) && (decide (n = newId) && (!cd.hasDel && (cd.hasDict && tailB bt bm)))
    | _, _ => false)
  | _ => false) && (decide (PySem.W.findIn K (.ref C) "__setattr__" = some (some (.builtin "object.__setattr__"))) && (decide (PySem.W.subIn K (.ref C) (.type "BaseException") = some true) && (decide (PySem.W.typeIn K (.ref C) = some (.type "type")) && PySem.W.keepIn K (.ref C))))
theorem xcl_of {K : PySem.W.Frag} {C : Addr} {bt : List Value} {newId : String} (h : xclB K C bt newId = true) : XCl K C bt newId := by
  unfold xclB at h
  simp only [Bool.and_eq_true, decide_eq_true_eq] at h
  obtain ⟨h0, h1, h2, h3, h4⟩ := h
  refine ⟨?_, h1, h2, h3, h4⟩
  split at h0
  · rename_i t dd cd sl ho
    simp only [Bool.and_eq_true, decide_eq_true_eq] at h0
    obtain ⟨rfl, h0⟩ := h0
    split at h0
    · rename_i C' bm k0 k1 k2 k3 n k5 hm hs
      simp only [Bool.and_eq_true, decide_eq_true_eq, Bool.not_eq_true'] at h0
      obtain ⟨rfl, rfl, hdel, hdct, ht⟩ := h0
      obtain ⟨nm, bs, mro, ns, qn, hd, sn, sub, ab, col, del⟩ := cd
      dsimp only at hm hdel hdct
      subst hm hdel hdct
      have hsl : sl = #[k0, k1, k2, k3, some (.builtin n), k5] := by
        obtain ⟨l⟩ := sl
        simp only at hs
        rw [hs]
      subst hsl
      exact ⟨nm, qn, ns, bs, bm, sn, sub, ab, col, dd, k0, k1, k2, k3, k5, ho, tail_of ht⟩
    · cases h0
  · cases h0
def xiB (c : String) (bt : List Value) (newId : String) (flds : List Str) (K : PySem.W.Frag) : Bool := xclB K (He.ga K (c : Str)) bt newId && (decide (PySem.W.findIn K (.ref (He.ga K (c : Str))) "__init__" = some (some (.ref (He.fAd K ((c : Str), some ("__init__" : Str)))))) &&
  (decide (PySem.W.typeIn K (.ref (He.fAd K ((c : Str), some ("__init__" : Str)))) = some (.type "function")) && flds.all fun f => decide (PySem.W.findIn K (.ref (He.ga K (c : Str))) f = some none)))
structure XI (K : PySem.W.Frag) (c : String) (bt : List Value) (newId : String) (flds : List Str) : Prop where
  xc : XCl K (He.ga K (c : Str)) bt newId
  ini : PySem.W.findIn K (.ref (He.ga K (c : Str))) "__init__" = some (some (.ref (He.fAd K ((c : Str), some ("__init__" : Str)))))
  fn : PySem.W.typeIn K (.ref (He.fAd K ((c : Str), some ("__init__" : Str)))) = some (.type "function")
  no : ∀ f ∈ flds, PySem.W.findIn K (.ref (He.ga K (c : Str))) f = some none
theorem xi_of {c : String} {bt : List Value} {newId : String} {flds : List Str} {K : PySem.W.Frag} (h : xiB c bt newId flds K = true) : XI K c bt newId flds := by
  unfold xiB at h
  simp only [Bool.and_eq_true, decide_eq_true_eq, List.all_eq_true] at h
  exact ⟨xcl_of h.1, h.2.1, h.2.2.1, h.2.2.2⟩
def initIsB (c : Value) (initId : String) (K : PySem.W.Frag) : Bool := match PySem.W.findCls K c (.type "type") "__init__" with
  | some (.val (.builtin n)) => decide (n = initId)
  | _ => false
theorem initIs_of {c : Value} {initId : String} {K : PySem.W.Frag} (h : initIsB c initId K = true) : PySem.W.findCls K c (.type "type") "__init__" = some (.val (.builtin initId)) := by
  unfold initIsB at h
  split at h
  · rename_i n e
    rw [e, of_decide_eq_true h]
  · cases h
abbrev btLE : List Value := [.type "LookupError", .type "Exception", .type "BaseException", .type "object"]
theorem xbLE : XB btLE "LookupError" "LookupError.__new__" "LookupError.__init__" := ⟨PySem.F.excBase_LookupError, PySem.F.store_LookupError.passes, by decide +kernel, rfl, by decide +kernel⟩
theorem tyLE : typeOf (.type "LookupError") = pure (.type "type") := by kernel_rfl
theorem hlk2 {T : Tb} {c f1 f2 : String} (h : T.cf c = [f1, f2]) (hne : (Str.ofString f1 == Str.ofString f2) = false) : ∀ vs : List V, vs.length = [(f1 : Str), (f2 : Str)].length → ∃ gs, gs = ([(f1 : Str), (f2 : Str)].zip vs).reverse ∧ (∀ f ∈ T.cf c, ∃ v, gs.lookup (Str.ofString f) = some v) ∧ (T.cf c).map (fun f : String => (gs.lookup (Str.ofString f)).getD .non) = vs := by
  intro vs hv
  match vs, hv with
  | [v, u], _ =>
    have e1 : List.lookup (Str.ofString f1) [((f2 : Str), u), ((f1 : Str), v)] = some v := by
      show (match Str.ofString f1 == Str.ofString f2 with | true => some u | false => List.lookup (Str.ofString f1) [((f1 : Str), v)]) = some v
      rw [hne]
      simp [List.lookup]
    have e2 : List.lookup (Str.ofString f2) [((f2 : Str), u), ((f1 : Str), v)] = some u := by simp [List.lookup]
    refine ⟨_, rfl, fun f hf => ?_, ?_⟩
    · rw [h] at hf
      rcases List.mem_cons.mp hf with rfl | hf
      · exact ⟨v, e1⟩
      · obtain rfl : f = f2 := by simpa using hf
        exact ⟨u, e2⟩
    · rw [h]
      show [(List.lookup (Str.ofString f1) [((f2 : Str), u), ((f1 : Str), v)]).getD .non, (List.lookup (Str.ofString f2) [((f2 : Str), u), ((f1 : Str), v)]).getD .non] = [v, u]
      rw [e1, e2]
      rfl
def eXf (cf : String → List String) (cn fn : String) (f : EX) : EX := fun env S => (f env S).bnd fun x S1 => match x with
  | .thk 0 fs => lift (((cf cn).zip fs).lookup fn) S1
  | _ => .bad
theorem zip_look {w : Wd} {T : Tb} {fn : String} {d : D} {gs : List (Str × V)} : ∀ {ns : List String} {fs : List D}, (ns.zip fs).lookup fn = some d → (∀ f ∈ ns, ∃ v, gs.lookup (Str.ofString f) = some v) → Reps T w fs (ns.map fun f : String => (gs.lookup (Str.ofString f)).getD .non) → fn ∈ ns ∧ ∃ v, gs.lookup (Str.ofString fn) = some v ∧ Rep T w d v
  | [], fs, h, _, _ => by cases fs <;> cases h
  | n :: ns, [], h, _, _ => by cases h
  | n :: ns, x :: fs, h, ex, r => by
    cases r with
    | cons q r =>
      have h : (match fn == n with | true => some x | false => (ns.zip fs).lookup fn) = some d := h
      cases e : fn == n with
      | true =>
        rw [e] at h
        cases h
        obtain rfl : fn = n := by simpa using e
        obtain ⟨v, hv⟩ := ex fn (by simp)
        refine ⟨by simp, v, hv, ?_⟩
        have q : Rep T w d ((gs.lookup (Str.ofString fn)).getD .non) := q
        rw [hv] at q
        exact q
      | false =>
        rw [e] at h
        obtain ⟨h1, h2⟩ := zip_look h (fun f hf => ex f (by simp [hf])) r
        exact ⟨by simp [h1], h2⟩
theorem look_in {fn : String} {d : D} : ∀ {ns : List String} {fs : List D}, (ns.zip fs).lookup fn = some d → fn ∈ ns
  | [], fs, h => by cases fs <;> cases h
  | n :: ns, [], h => by cases h
  | n :: ns, x :: fs, h => by
    have h : (match fn == n with | true => some x | false => (ns.zip fs).lookup fn) = some d := h
    cases e : fn == n with
    | true => simp at e; simp [e]
    | false =>
      rw [e] at h
      simp [look_in h]
theorem ie_xf {T : Tb} {X : Cx} {cf : String → List String} {fn cn : String} {p : Addr × Obj} {z : XC} {pn : List (Addr × Obj)} {a : Expr} {f : EX} {pos : Pos} (hx : XHand T z p) (hz : z.c = cn) (hcf : T.cf = cf) (hK : X.K = T.K)
    (hf : fn ∈ cf cn → XfC T.K (He.ga T.K (cn : Str)) ∧ PySem.W.findIn T.K (.ref (He.ga T.K (cn : Str))) (fn : Str) = some none) (ha : IE (T.at (some z)) E00 (X.suite z.a (p :: pn)) a f)
    (hb : attributeBase a (fn : Str) X.env (eval a X.env) = eval a X.env := by rfl) :
    IE (T.at (some z)) E00 (X.suite z.a (p :: pn)) (.Attribute a (fn : Str) pos) (eXf cf cn fn f) := by
  refine ⟨fun pins s σ H Q I h => ?_⟩
  obtain ⟨w, env, S, r, e, q⟩ := h
  by_cases hm : fn ∈ cf cn
  · obtain ⟨h1, h2⟩ := hf hm
    obtain ⟨pa, po⟩ := p
    obtain rfl : pa = z.a := hx.at_
    rw [← hz] at h1 h2
    have h3 : XfC X.K (He.ga T.K (z.c : Str)) := by rw [hK]; exact h1
    have h4 : PySem.W.findIn X.K (.ref (He.ga T.K (z.c : Str))) (fn : Str) = some none := by rw [hK]; exact h2
    refine (pe_xf (d := z.dx) (cls := .ref (He.ga T.K (z.c : Str))) h3 h4 hx.zc hx.fl ha hb).run pins s σ H Q I ⟨w, env, S, r, e, (RP.bnd q).mono (fun d S1 k1 w1 H1 x l1 r1 p1 => ?_) fun _ _ _ x => x⟩
    split at k1
    · rename_i fs
      obtain ⟨hv, hc⟩ := hand_inv p1
      subst hv
      refine ⟨rfl, rfl, ?_⟩
      cases y : ((cf cn).zip fs).lookup fn with
      | none => rw [y] at k1; exact (show False from k1).elim
      | some d =>
        rw [y] at k1
        rcases hc with ⟨_, rfl⟩ | ⟨dd, gs, c1, c2, c3, c4⟩
        · rw [List.zip_nil_right] at y
          cases y
        · have ecf : T.cf z.c = cf cn := by rw [hcf, hz]
          rw [ecf] at c3 c4
          obtain ⟨_, v, g1, g2⟩ := zip_look y c3 c4
          exact ⟨dd, gs, v, c1, r1.sub _ _ c2, g1, k1 w1 H1 v l1 r1 g2⟩
    · exact (show False from k1).elim
  · refine attr_of hb (thn (ha.run pins s σ H (fun _ _ => False) I ⟨w, env, S, r, e, (RP.bnd q).mono (fun d S1 k1 w1 H1 x l1 r1 p1 => ?_) fun _ _ _ x => x⟩) fun u s1 ⟨v, H1, I1, rv, hh⟩ => hh.elim)
    split at k1
    · rename_i fs
      cases y : ((cf cn).zip fs).lookup fn with
      | none => rw [y] at k1; exact (show False from k1).elim
      | some d =>
        exact hm (look_in y)
    · exact (show False from k1).elim
end Ro
end
section
set_option Elab.async false
set_option linter.all false
set_option maxRecDepth 100000
set_option maxHeartbeats 4000000
namespace Ro
open PySem PySem.Spec PyProof.Rows L2 PySem.RoXb
/-- as many as asked -/
def aChk (n : Nat) (fa : AX) : AX := fun env S => (fa env S).bnd fun ds S1 => if ds.length = n ∧ ds.length ≤ 1000 then .ok ds S1 else .bad
section
variable {X : Cx} {T : Tb} {E : XK} {e : Expr} {es : List Expr} {p pos : Pos} {k : Nat} {d : He.DefD} {ps : List Str} {c : String} {flds : List Str} {bt : List Value} {B newId initId : String}
theorem is_raiseF {n : Nat} {fa : AX} {pos' : Pos} (hK : X.K = T.K) (hc : X.calm = true) (tk : Takes X fun c d _ H => E c d H) (F : InitOk T X.prog X.w X.mg X.base k d ps c flds bt B newId initId) (hat : d.at_ = ((c : Str), some ("__init__" : Str))) (XI' : XI T.K c bt newId flds)
    (hr : RG (k + 1) X.A) (hb : ∀ fd, FunD T.K d.name d.qual d.params d.body d.scope (d.dvs T.K) [] (He.fAd T.K d.at_) fd → L2.Binds T.K fd ps []) (hps : ps.length = flds.length + 1) (hg : Gl X (c : Str)) (hm : X.mg (c : Str) = some (.ref (He.ga T.K (c : Str)))) (ha : IA T E X (e :: es) fa)
    (hlk : ∀ vs : List V, vs.length = flds.length → ∃ gs, gs = (flds.zip vs).reverse ∧ (∀ f ∈ T.cf c, ∃ v, gs.lookup (Str.ofString f) = some v) ∧ (T.cf c).map (fun f : String => (gs.lookup (Str.ofString f)).getD .non) = vs)
    (hdb : ((c : Str) == ("__debug__" : Str)) = false := by decide +kernel) (he : starEach (e :: es) X.env = (false, eval e X.env) :: starEach es X.env := by rfl) (hpl : (backTo pos (starEach es X.env)).any (·.1) = false := by rfl) (hn : flds.length = n := by rfl) :
    IS T E X (.Raise (some (.Call (.Name (c : Str) p) (e :: es) [] pos)) none pos') (sRaise c (aChk n fa)) := by
  subst hn
  exact is_raiseI hK hc tk LamX.takes0 F (by rw [hat]; exact XI'.ini) (by rw [hat]; exact XI'.fn) hr hb hps hg hm ha hlk hdb he hpl
end
end Ro
end
section
set_option Elab.async false
set_option linter.all false
set_option maxRecDepth 100000
set_option maxHeartbeats 4000000
namespace Ro
open PySem PySem.Spec PyProof.Rows L2
def mulR : D → D → Option D
  | .lst l, .int k => if 0 ≤ k ∧ k ≤ 1000 ∧ l.length ≤ 1000 then some (.lst (List.replicate k.toNat l).flatten) else none
  | .tup l, .int k => if 2 ≤ k ∧ k ≤ 1000 ∧ l.length ≤ 1000 ∧ l ≠ [] then some (.tup (List.replicate k.toNat l).flatten) else none
  | .int i, .int j => if mulOk i j then some (.int (i * j)) else none
  | _, _ => none
section
variable {X : Cx} {T : Tb} {E : XK} {a b : Expr} {f g : EX} {pos : Pos}
theorem Reps.rep {w : Wd} {l : List D} {vs : List V} (r : Reps T w l vs) : ∀ n : Nat, Reps T w (List.replicate n l).flatten (List.replicate n vs).flatten
  | 0 => .nil
  | n + 1 => by
    rw [List.replicate_succ, List.replicate_succ, List.flatten_cons, List.flatten_cons]
    exact r.append (r.rep n)
theorem oi_mulR (hK : X.K = T.K) : OpR X (binaryOp .Mult) (rOp T mulR) := orOp2 fun w d e r S x y H Q h1 h2 h3 h4 h5 => by
  unfold mulR at h4
  split at h4
  · rename_i l k
    cases h2 with
    | lst q2 r2 =>
    cases h3
    split at h4
    · rename_i hl
      cases h4
      obtain ⟨k1, k2, k3⟩ := hl
      refine ⟨_, op_rep, _, _, _, rfl, rfl, h1.sub _ _ q2, by omega, by omega, ?_, fun p hp => ?_⟩
      · rw [sizeLine_eq, ← r2.length]
        have : l.length * k.toNat ≤ 1000 * 1000 := Nat.mul_le_mul k3 (by omega)
        omega
      · obtain ⟨l1, r1⟩ := h1.new hp (.lst _)
        exact h5 _ _ _ l1 r1 (.lst upd_same ((r2.rep _).mono l1))
    · cases h4
  · rename_i l k
    cases h2 with
    | tup q2 r2 =>
    cases h3
    split at h4
    · rename_i hl
      cases h4
      obtain ⟨k1, k2, k3, k4⟩ := hl
      refine ⟨_, op_repT, _, _, _, rfl, rfl, by rw [hK]; exact sqt_sub h1 q2, ?_, k1, k2, by rw [← r2.length]; exact k3, fun p hp => ?_⟩
      · intro z
        subst z
        cases r2
        exact k4 rfl
      · obtain ⟨l1, r1⟩ := h1.new hp (.tup _)
        exact h5 _ _ _ l1 r1 (.tup (.inl (.inl upd_same)) ((r2.rep _).mono l1))
    · cases h4
  · cases h2; cases h3
    split at h4
    · rename_i hl
      cases h4
      exact ⟨_, op_mulW, _, _, rfl, rfl, (by unfold CMulW; simpa [mulOk] using hl), h5 w H _ (Wd.le.refl _) h1 (.int _)⟩
    · cases h4
  · cases h4
def seeD (d : D) (S : Store) : D := match d with
  | .ref n => match S[n]? with
    | some (.lst l) => .lst l
    | _ => d
  | _ => d
def eOpS (op : D → D → Option D) (f g : EX) : EX := fun env S => (f env S).bnd fun x S1 => (g env S1).bnd fun y S2 => lift (op (seeD x S2) (seeD y S2)) S2
def rOpS (T : Tb) (op : D → D → Option D) : R2 := fun x y H Q => ∃ w d e r S, WR T w S H ∧ Rep T w d x ∧ Rep T w e y ∧ op (seeD d S) (seeD e S) = some r ∧ ∀ w' H' z, w.le w' → WR T w' S H' → Rep T w' r z → Q z H'
theorem rOpS_of {op : D → D → Option D} {w : Wd} {d e : D} {S : Store} {x y : V} {H : Hp} {Q : VK} (r : WR T w S H) (p : Rep T w d x) (q : Rep T w e y) (h : RP (lift (op (seeD d S) (seeD e S)) S) (fun d S' => ∀ w' H' v, w.le w' → WR T w' S' H' → Rep T w' d v → Q v H') (XW T w E)) : rOpS T op x y H Q := by
  cases z : op (seeD d S) (seeD e S) with
  | none => rw [z] at h; exact h.elim
  | some k => rw [z] at h; exact ⟨w, d, e, k, S, r, p, q, z, fun w' H' v l r' p' => h w' H' v l r' p'⟩
theorem ie_cmpS {o : CmpOp} {op : D → D → Option D} (ho : OpR X (compareOp o) (rOpS T op)) (ha : IE T E X a f) (hb : IE T E X b g) (hm : behindInMarks o b = false) : IE T E X (.Compare a [o] [b] pos) (eOpS op f g) :=
  PE.mono (pe_cmpR ho ha hb hm) fun σ H Q q => by
    have q2 := tI_two (k := fun x y S => lift (op (seeD x S) (seeD y S)) S) q
    obtain ⟨w, env, S, r, e, h⟩ := q2
    refine ⟨w, env, S, r, e, h.mono (fun d S1 h1 w1 H1 x l1 r1 p1 => ?_) fun _ _ _ x => x⟩
    obtain ⟨w2, env2, S2, r2, e2, h2⟩ := h1 w1 H1 x l1 r1 p1
    refine ⟨w2, env2, S2, r2, e2, h2.mono (fun d S1 h1 w1 H1 x l1 r1 p1 => ?_) fun _ _ _ x => x⟩
    obtain ⟨w3, d3, e3, S3, r3, p3, q3, h3⟩ := h1 w1 H1 x l1 r1 p1
    exact rOpS_of r3 p3 q3 h3
theorem dp_see {w : Wd} {S : Store} {H : Hp} (r : WR T w S H) {d : D} {x : V} (h : plN 8 (seeD d S) = true) (q : Rep T w d x) : Dp T.K H x (toPy (seeD d S)) := by
  cases d with
  | ref n =>
    cases q with
    | ref hn =>
    unfold seeD at h ⊢
    dsimp only at h ⊢
    cases z : S[n]? with
    | none => rw [z] at h; simp [plN] at h
    | some c =>
      rw [z] at h
      cases c with
      | lst l =>
        obtain ⟨vs, h1, h2⟩ := r.cell n _ _ z hn
        exact .lst (.inl (.inl h1)) (dpAll_of r 7 l vs h h2)
      | _ => simp [plN] at h
  | _ => exact dp_of r 8 _ x h q
end
end Ro
end
section
set_option Elab.async false
set_option linter.all false
set_option maxRecDepth 100000
set_option maxHeartbeats 4000000
namespace Ro
open PySem PySem.Spec PyProof.Rows L2
variable {T : Tb} {E : XK} {X : Cx} {a b : Expr} {f g : EX} {pos : Pos}
theorem ie_dct0 : IE T E X (.Dict [] [] pos) (eC (.dct [])) := PE.mono pe_dnewK fun σ H Q ⟨w, env, S, r, e, q⟩ => fun p hp => by
  obtain ⟨l, r'⟩ := r.new hp (.dK [])
  exact q _ _ _ l r' (.dct upd_same .nil)
/-- an expression that is a constant, whatever the heap -/
def CE (X : Cx) (e : Expr) (v : V) : Prop := PE X e (tC v)
theorem ce_int {i : Int} {j : Nat} : CE X (.Constant (.int i) j pos) (.int i) := pe_int
def atomD : D → Option V
  | .non => some .non
  | .bl b => some (.bl b)
  | .int i => some (.int i)
  | .str s => some (.str s)
  | _ => none
theorem atom_rep {w : Wd} {d : D} {v : V} (h : atomD d = some v) : Rep T w d v := by
  cases d <;> first | (cases h; first | exact .non | exact .bl _ | exact .int _ | exact .str _) | cases h
inductive CPs (X : Cx) : List (Option Expr) → List Expr → List (Key × D) → Prop
  | nil : CPs X [] [] []
  | cons {k e : Expr} {ks : List (Option Expr)} {es : List Expr} {y : Key} {d : D} {v : V} {l : List (Key × D)} (hk : CE X k (kV y)) (he : CE X e v) (hv : atomD d = some v) (r : CPs X ks es l) : CPs X (some k :: ks) (e :: es) ((y, d) :: l)
def keyD : Key → D
  | .inl i => .int i
  | .inr s => .str s
def dctC (l : List (Key × D)) : D := .dct (l.map fun p => (keyD p.1, p.2))
theorem cps_all {ks : List (Option Expr)} {es : List Expr} {l : List (Key × D)} (h : CPs X ks es l) :
    ks.all (·.isSome) = true ∧ ks.length = es.length ∧ ks.length = l.length ∧ ∃ trs vs, PPs X pos ks es trs ∧ (∀ σ H Q, Q (vs.map fun p : Key × V => (kV p.1, p.2)) H → tPairs trs σ H Q) ∧ vs.map (·.1) = l.map (·.1) ∧ ∀ w : Wd, RepK T w (l.map fun p => (keyD p.1, p.2)) vs := by
  induction h with
  | nil => exact ⟨rfl, rfl, rfl, [], [], pps_nil, fun _ _ _ q => q, rfl, fun _ => .nil⟩
  | @cons k e ks es y d v l hk he hv r ih =>
    obtain ⟨h1, h2, h3, trs, vs, h4, h5, h6, h7⟩ := ih
    refine ⟨by simp [h1], by simp [h2], by simp [h3], _, (y, v) :: vs, pps_cons hk he h4, fun σ H Q q => ?_, by simp [h6], fun w => ?_⟩
    · show tPairs trs σ H _
      exact h5 σ H _ q
    · cases y with
      | inl i => exact .int (atom_rep hv) (h7 w)
      | inr s => exact .str (atom_rep hv) (h7 w)
theorem mergeK_new : ∀ {more kvs : List (Key × V)}, ((kvs ++ more).map (·.1)).Nodup → mergeK kvs more = kvs ++ more
  | [], kvs, _ => by simp [mergeK]
  | p :: more, kvs, h => by
    have hn : (kvs.any fun kv => decide (kv.1 = p.1)) = false := by
      rw [List.any_eq_false]
      intro q hq e
      have e := of_decide_eq_true e
      rw [List.map_append, List.nodup_append] at h
      exact h.2.2 q.1 (List.mem_map_of_mem hq) p.1 (by simp) e
    show mergeK (putK kvs p.1 p.2) more = _
    unfold putK
    rw [hn]
    show mergeK (kvs ++ [(p.1, p.2)]) more = _
    rw [mergeK_new (by simpa using h)]
    simp
theorem ie_dctC {ks : List (Option Expr)} {es : List Expr} {l : List (Key × D)} (h : CPs X ks es l) (h0 : l ≠ []) (h15 : l.length ≤ 15) (hn : (l.map (·.1)).Nodup) : IE T E X (.Dict ks es pos) (eC (dctC l)) := by
  obtain ⟨h1, h2, h3, trs, vs, h4, h5, h6, h7⟩ := cps_all (T := T) (pos := pos) h
  refine PE.mono (pe_disp h4 h1 h2 (fun z => h0 (by rw [z] at h3; exact List.length_eq_zero_iff.mp h3.symm)) (by omega)) fun σ H Q ⟨w, env, S, r, e, q⟩ => fun p hp => h5 _ _ _ ⟨upd_same, vs, rfl, ?_, ?_⟩
  · have e1 : (vs.map (·.1)).length = (l.map (·.1)).length := by rw [h6]
    simp at e1
    omega
  · have e1 : upd (upd H p (.dK [])) p (.dK (mergeK [] vs)) = upd H p (.dK vs) := by
      rw [mergeK_new (by simpa [h6] using hn)]
      funext b
      by_cases hb : b = p
      · subst hb; rw [upd_same, upd_same]; rfl
      · rw [upd_ne hb, upd_ne hb, upd_ne hb]
    rw [e1]
    obtain ⟨l', r'⟩ := r.new hp (.dK vs)
    exact q _ _ _ l' r' (.dct upd_same (h7 _))
end Ro
end
section
set_option Elab.async false
set_option linter.all false
set_option maxRecDepth 100000
set_option maxHeartbeats 4000000
namespace Ro
open PySem PySem.Spec PyProof.Rows L2
variable {T : Tb} {E : XK} {X : Cx} {a b : Expr} {f g : EX} {pos : Pos}
def keyP : D → PyData
  | .int i => .int i
  | .str s => .str s
  | _ => .none
mutual
def toPx : D → PyData
  | .tup l => .tuple (toPxs l)
  | .dct l => .dict (toPxk l)
  | .bl b => .bool b
  | .int i => .int i
  | .str s => .str s
  | _ => .none
def toPxs : List D → List PyData
  | [] => []
  | x :: l => toPx x :: toPxs l
def toPxk : List (D × D) → List (PyData × PyData)
  | [] => []
  | (k, v) :: l => (keyP k, toPx v) :: toPxk l
end
def atomQ : D → Bool
  | .non => true
  | .bl _ => true
  | .int _ => true
  | .str _ => true
  | _ => false
def plQ : Nat → D → Bool
  | _, .non => true
  | _, .bl _ => true
  | _, .int _ => true
  | _, .str _ => true
  | n + 1, .tup l => l.all (plQ n)
  | n + 1, .dct l => l.all fun p => atomQ p.2
  | _, _ => false
def reprOkX (d : D) : Bool := plQ 4 d && ((toPx d).showable && (decide ((toPx d).depth ≤ 20) && decide ((toPx d).shown.length ≤ LINE)))
def bReprX : List D → Option D
  | [x] => if reprOk x then some (.str (toPy x).shown) else if reprOkX x then some (.str (toPx x).shown) else none
  | _ => none
theorem atom_reads {h : Heap} {w : Wd} {d : D} {v : V} {u : Value} (ha : atomQ d = true) (r : Rep T w d v) (ru : RelV v u) : Reads h u (toPx d) [] := by
  cases r with
  | non => cases ru; exact .none
  | bl b => cases ru; exact .bool b
  | int i => obtain ⟨t, rfl⟩ := ru; exact .int i t
  | str s => obtain ⟨t, rfl⟩ := ru; exact .str s t
  | _ => cases ha
theorem kvs_reads {h : Heap} {P : Program} {w0 : World} {w : Wd} : ∀ {l : List (D × D)} {kvs : List (Key × V)} {vs : List (Key × Value)} {es : List DictEntry}, RepK T w l kvs → KV kvs vs → Pairs (knd := mixKind P w0) es vs → (l.all fun p => atomQ p.2) = true →
    ReadsAll h (es.map (·.key)) ((toPxk l).map (·.1)) [] ∧ ReadsAll h (es.map (·.val)) ((toPxk l).map (·.2)) []
  | _, _, _, _, .nil, kv, pr, _ => by
    cases kv; cases pr
    exact ⟨.nil, .nil⟩
  | _, _, _, _, .int hd rd, kv, pr, ha => by
    obtain ⟨h1, h2⟩ := He.ba ha
    cases kv with
    | cons k1 k2 =>
      obtain ⟨e1, e2⟩ := k1
      cases pr with
      | cons p1 p2 p3 =>
        obtain ⟨i1, i2⟩ := kvs_reads (h := h) rd k2 p3 h2
        rw [← e1] at p1
        have p1 : keyIs (Sum.inl _) _ = true := p1
        rcases keyIs_shape p1 with ⟨i, t, z1, z2⟩ | ⟨x, t, z1, z2⟩
        · cases z1
          refine ⟨?_, ?_⟩
          · rw [List.map_cons, z2]
            exact ReadsAll.cons (as := []) (bs := []) (.int _ _) i1
          · rw [List.map_cons, p2]
            exact ReadsAll.cons (as := []) (bs := []) (atom_reads h1 hd e2) i2
        · cases z1
  | _, _, _, _, .str hd rd, kv, pr, ha => by
    obtain ⟨h1, h2⟩ := He.ba ha
    cases kv with
    | cons k1 k2 =>
      obtain ⟨e1, e2⟩ := k1
      cases pr with
      | cons p1 p2 p3 =>
        obtain ⟨i1, i2⟩ := kvs_reads (h := h) rd k2 p3 h2
        rw [← e1] at p1
        have p1 : keyIs (Sum.inr _) _ = true := p1
        rcases keyIs_shape p1 with ⟨i, t, z1, z2⟩ | ⟨x, t, z1, z2⟩
        · cases z1
        · cases z1
          refine ⟨?_, ?_⟩
          · rw [List.map_cons, z2]
            exact ReadsAll.cons (as := []) (bs := []) (.str _ _) i1
          · rw [List.map_cons, p2]
            exact ReadsAll.cons (as := []) (bs := []) (atom_reads h1 hd e2) i2
section
variable {pins : List (Addr × Obj)} {σ : L2.St} {H : Hp} {s : Shared} {w : Wd} {S : Store}
theorem px_reads (hK : X.K = T.K) (I : Inv X pins σ H s) (r : WR T w S H) : ∀ (n : Nat) (d : D) (v : V) (u : Value), plQ n d = true → Rep T w d v → RelV v u → ∃ as, Reads s.heap u (toPx d) as ∧ sysModules ∉ as := by
  intro n
  induction n with
  | zero =>
    intro d v u hd rd ru
    have ha : atomQ d = true := by cases d <;> first | rfl | cases hd
    exact ⟨[], atom_reads ha rd ru, by simp⟩
  | succ n ih =>
    intro d v u hd rd ru
    have all_ : ∀ (l : List D) (vs : List V) (us : List Value), l.all (plQ n) = true → Reps T w l vs → Vals vs us → ∃ as, ReadsAll s.heap us (toPxs l) as ∧ sysModules ∉ as := by
      intro l
      induction l with
      | nil =>
        intro vs us _ z1 z2
        cases z1; cases z2
        exact ⟨[], .nil, by simp⟩
      | cons x l ihl =>
        intro vs us hl z1 z2
        obtain ⟨h1, h2⟩ := He.ba (show (plQ n x && l.all (plQ n)) = true from hl)
        cases z1 with
        | cons y1 y2 =>
          cases z2 with
          | cons x1 x2 =>
            obtain ⟨as, q1, q2⟩ := ih x _ _ h1 y1 x1
            obtain ⟨bs, q3, q4⟩ := ihl _ _ h2 y2 x2
            exact ⟨as ++ bs, .cons q1 q3, by simp [q2, q4]⟩
    have rd0 := rd
    cases rd with
    | tup q1 q2 =>
      cases ru
      have h' : (X.K = T.K) := hK
      obtain ⟨its, rv, ⟨o, ho, hc, m, hdt⟩, _⟩ := I.tuple (by rw [hK]; exact sqt_sub r q1)
      obtain ⟨as, z1, z2⟩ := all_ _ _ _ hd q2 rv
      exact ⟨as, .tuple ho hc hdt z1, z2⟩
    | dct q1 q2 =>
      cases ru
      obtain ⟨_, hm, vs0, kv, o, es, ep, ho, hx, hdt, _, pr, _⟩ := dk_of I.hok (r.sub _ _ q1)
      obtain ⟨z1, z2⟩ := kvs_reads (h := s.heap) q2 kv pr hd
      refine ⟨_, .dict ho hx.1 hdt z1 z2, ?_⟩
      intro z
      have z : sysModules ∈ [_] := z
      have z := List.mem_singleton.mp z
      rw [← z] at hm
      cases hm
    | non => exact ⟨[], atom_reads rfl rd0 ru, by simp⟩
    | bl b => exact ⟨[], atom_reads rfl rd0 ru, by simp⟩
    | int b => exact ⟨[], atom_reads rfl rd0 ru, by simp⟩
    | str b => exact ⟨[], atom_reads rfl rd0 ru, by simp⟩
    | _ => cases hd
end
def rReprX (T : Tb) : List V → Hp → VK → Prop := fun vs H Q => rRepr T.K vs H Q ∨ ∃ (w : Wd) (S : Store) (d : D) (x : V), WR T w S H ∧ vs = [x] ∧ Rep T w d x ∧ reprOkX d = true ∧ reprOk d = false ∧ Q (.str (toPx d).shown) H
theorem call_reprX (hK : X.K = T.K) (gd : X.A.guards = some []) (hu : X.A.units + 64 < cLine) : CallR X (.builtin "repr") (rReprX T) := by
  intro pins s σ H xs us Q I r h
  rcases h with h | ⟨w, S, d, x, wr, rfl, rd, hd, hn, q⟩
  · exact call_reprD gd hu pins s σ H xs us Q I r (by rw [hK]; exact h)
  obtain ⟨u, rfl, ru⟩ := Vals.one r
  obtain ⟨h1, h⟩ := He.ba hd
  obtain ⟨h2, h⟩ := He.ba h
  obtain ⟨h3, h4⟩ := He.ba h
  have h3 := of_decide_eq_true h3
  have h4 := of_decide_eq_true h4
  obtain ⟨as, rr, hs⟩ := px_reads hK I wr 4 d x u h1 rd ru
  cases rd with
  | tup q1 q2 =>
    cases ru
    exact repr_of_reads' rr h2 (fun _ => hs) gd (by omega) (fun _ _ e => e) (fun h' u tk hk => ⟨.str _, H, I.kept hk, ⟨_, rfl⟩, q⟩) (by rw [sizeLine_eq]; exact h4)
  | dct q1 q2 =>
    cases ru
    exact repr_of_reads' rr h2 (fun _ => hs) gd (by omega) (fun _ _ e => e) (fun h' u tk hk => ⟨.str _, H, I.kept hk, ⟨_, rfl⟩, q⟩) (by rw [sizeLine_eq]; exact h4)
  | non =>
    cases ru
    exact PySem.P.repr_of_none ⟨.str _, H, I.tok _, ⟨_, rfl⟩, q⟩
  | bl b =>
    cases ru
    exact PySem.P.repr_of_bool ⟨.str _, H, I.tok _, ⟨_, rfl⟩, q⟩
  | int i =>
    obtain ⟨t, rfl⟩ := ru
    exact PySem.P.repr_of_int (of_decide_eq_true h2) ⟨.str _, H, I.tok _, ⟨_, rfl⟩, q⟩
  | str z =>
    obtain ⟨t, rfl⟩ := ru
    exact PySem.P.repr_of_str ⟨.str _, H, I.tok _, ⟨_, rfl⟩, q⟩ (by rw [sizeLine_eq]; exact h4)
  | _ => cases h1
theorem bo_reprX : BOk T (rReprX T) bReprX := fun w S xs vs H d Q r p h k => by
  unfold bReprX at h
  split at h
  · rename_i x
    by_cases hx : reprOk x = true
    · rw [if_pos hx] at h
      exact .inl (bo_repr w S _ vs H d Q r p (by unfold bRepr; show (if reprOk x = true then _ else _) = _; rw [if_pos hx]; exact h) k)
    · rw [if_neg hx] at h
      split at h
      · rename_i hy
        cases h
        obtain ⟨v, rfl, p2⟩ := reps_one p
        exact .inr ⟨w, S, x, v, r, rfl, p2, hy, by simpa using hx, k w H _ (Wd.le.refl _) r (.str _)⟩
      · cases h
  · cases h
end Ro
end
section
set_option Elab.async false
set_option linter.all false
set_option maxRecDepth 100000
set_option maxHeartbeats 4000000
namespace Ro
open PySem PySem.Spec PyProof.Rows L2
variable {T : Tb} {E : XK} {X : Cx} {a b c : Expr} {fa : AX}
def seqL : D → Option (List D)
  | .lst l => some l
  | .tup l => some l
  | _ => none
def zip3L : List D → List D → List D → List D
  | x :: l, y :: m, z :: n => .tup [x, y, z] :: zip3L l m n
  | _, _, _ => []
def itZipM2 (fa : AX) : AX := fun env S => (fa env S).bnd fun ds S1 => match ds with
  | [x, y] => (match seqL x, seqL y with
    | some l, some m => .ok (zipL l m) S1
    | _, _ => .bad)
  | _ => .bad
def itZipM3 (fa : AX) : AX := fun env S => (fa env S).bnd fun ds S1 => match ds with
  | [x, y, z] => (match seqL x, seqL y, seqL z with
    | some l, some m, some n => .ok (zip3L l m n) S1
    | _, _, _ => .bad)
  | _ => .bad
@[simp] theorem u_itZipM2 (fa : AX) {env : Env} {S : Store} : itZipM2 fa env S = (fa env S).bnd fun ds S1 => match ds with
  | [x, y] => (match seqL x, seqL y with
    | some l, some m => .ok (zipL l m) S1
    | _, _ => .bad)
  | _ => .bad := rfl
@[simp] theorem u_itZipM3 (fa : AX) {env : Env} {S : Store} : itZipM3 fa env S = (fa env S).bnd fun ds S1 => match ds with
  | [x, y, z] => (match seqL x, seqL y, seqL z with
    | some l, some m, some n => .ok (zip3L l m n) S1
    | _, _, _ => .bad)
  | _ => .bad := rfl
@[simp] theorem seqL_lst (l : List D) : seqL (.lst l) = some l := rfl
@[simp] theorem seqL_tup (l : List D) : seqL (.tup l) = some l := rfl
end Ro
end
section
set_option Elab.async false
set_option linter.all false
set_option maxRecDepth 100000
set_option maxHeartbeats 4000000
namespace Ro
open PySem PySem.Spec PyProof.Rows L2
def insS (x : Int) : List Int → List Int
  | [] => [x]
  | y :: l => if x < y then x :: y :: l else if x = y then y :: l else y :: insS x l
def ssort (l : List Int) : List Int := l.foldr insS []
theorem mem_insS {x z : Int} : ∀ {l : List Int}, z ∈ insS x l ↔ z = x ∨ z ∈ l
  | [] => by simp [insS]
  | y :: l => by
    unfold insS
    split
    · simp
    · split
      · rename_i h; subst h; simp
      · simp only [List.mem_cons, mem_insS]
        constructor
        · rintro (h | h | h) <;> simp [h]
        · rintro (h | h | h) <;> simp [h]
theorem mem_ssort {z : Int} : ∀ {l : List Int}, z ∈ ssort l ↔ z ∈ l
  | [] => by simp [ssort]
  | x :: l => by
    show z ∈ insS x (ssort l) ↔ _
    rw [mem_insS, mem_ssort, List.mem_cons]
theorem asc_insS {x : Int} : ∀ {l : List Int}, l.Pairwise (· < ·) → (insS x l).Pairwise (· < ·)
  | [], _ => by simp [insS]
  | y :: l, h => by
    have h1 := List.pairwise_cons.mp h
    unfold insS
    split
    · rename_i c
      refine List.pairwise_cons.mpr ⟨fun z hz => ?_, h⟩
      rcases List.mem_cons.mp hz with rfl | hz
      · exact c
      · have := h1.1 z hz; omega
    · split
      · exact h
      · refine List.pairwise_cons.mpr ⟨fun z hz => ?_, asc_insS h1.2⟩
        rcases mem_insS.mp hz with rfl | hz
        · omega
        · exact h1.1 z hz
theorem asc_ssort : ∀ (l : List Int), (ssort l).Pairwise (· < ·)
  | [] => .nil
  | x :: l => asc_insS (asc_ssort l)
theorem asc_uniq : ∀ {l m : List Int}, l.Pairwise (· < ·) → m.Pairwise (· < ·) → (∀ z, z ∈ l ↔ z ∈ m) → l = m
  | [], [], _, _, _ => rfl
  | [], y :: m, _, _, h => absurd ((h y).mpr (by simp)) (by simp)
  | x :: l, [], _, _, h => absurd ((h x).mp (by simp)) (by simp)
  | x :: l, y :: m, h1, h2, h => by
    have a1 := List.pairwise_cons.mp h1
    have a2 := List.pairwise_cons.mp h2
    have e : x = y := by
      rcases List.mem_cons.mp ((h x).mp (by simp)) with e | e
      · exact e
      · rcases List.mem_cons.mp ((h y).mpr (by simp)) with e2 | e2
        · exact e2.symm
        · have := a2.1 x e; have := a1.1 y e2; omega
    subst e
    congr 1
    refine asc_uniq a1.2 a2.2 fun z => ⟨fun hz => ?_, fun hz => ?_⟩
    · rcases List.mem_cons.mp ((h z).mp (by simp [hz])) with e | e
      · subst e; have := a1.1 z hz; omega
      · exact e
    · rcases List.mem_cons.mp ((h z).mpr (by simp [hz])) with e | e
      · subst e; have := a2.1 z hz; omega
      · exact e
end Ro
end
section
set_option Elab.async false
set_option linter.all false
set_option maxRecDepth 100000
set_option maxHeartbeats 4000000
namespace Ro
open PySem PySem.Spec PyProof.Rows L2 HT
section
variable {P : Program} {w : World} {A : Around} {E : Value → Shared → Prop} {s : Shared}
theorem back_adjust (n : Nat) : Builtin.Slice.sliceAdjust none none (-1) (n : Int) = ((n : Int) - 1, -1) := rfl
theorem back_places (n : Nat) : Builtin.Slice.slicePlaces ((n : Int) - 1) (-1) (-1) = n := by
  unfold Builtin.Slice.slicePlaces
  rw [if_neg (by decide)]
  by_cases c : (n : Int) - 1 > -1
  · rw [if_pos c]
    have e : (- -1 : Int) = 1 := by decide
    rw [e, Int.ediv_one]
    omega
  · rw [if_neg c]
    omega
theorem back_applied {sl : Addr} {vl vu vk : Value} {n : Nat} {Q : Int × Int × Nat → Shared → Prop} (hs : s.heap.IsSliceOf sl vl vu vk) (pl : IsPart vl none) (pu : IsPart vu none) (pk : IsPart vk (some (-1)))
    (h : Q ((n : Int) - 1, -1, n) s) : wpAny (model P w) A (Builtin.Slice.sliceApplied (.ref sl) (pure (n : Int))) Q E s := by
  obtain ⟨ob, g1, g2, g3⟩ := id hs
  unfold Builtin.Slice.sliceApplied Builtin.Slice.sliceFields
  refine wpAny_bind (wpAny_bind (wpAny_field g1 g3 (x := vl) rfl (wpAny_bind (wpAny_field g1 g3 (x := vu) rfl (wpAny_bind (wpAny_field g1 g3 (x := vk) rfl (wpAny_pure ?_)))))))
  refine wpAny_bind (HT.slicePart_ pk ?_)
  show wpAny _ _ (if ((-1 : Int) == 0) = true then _ else _) _ _ s
  rw [if_neg (by decide)]
  refine wpAny_bind (HT.slicePart_ pl (wpAny_bind (HT.slicePart_ pu (wpAny_bind (wpAny_pure ?_)))))
  show wpAny _ _ (match Builtin.Slice.sliceAdjust none none (-1) (n : Int) with | (lo, hi) => pure (lo, (-1 : Int), Builtin.Slice.slicePlaces lo hi (-1))) _ _ s
  rw [back_adjust]
  show wpAny _ _ (pure ((n : Int) - 1, (-1 : Int), Builtin.Slice.slicePlaces ((n : Int) - 1) (-1) (-1))) _ _ s
  rw [back_places]
  exact wpAny_pure h
theorem back_pick (xs : Array Value) : ((List.range xs.size).filterMap fun (m : Nat) => xs[(((xs.size : Int) - 1) + (m : Int) * (-1)).toNat]?).toArray = xs.toList.reverse.toArray := by
  have e : ∀ m ∈ List.range xs.size, xs[(((xs.size : Int) - 1) + (m : Int) * (-1)).toNat]? = xs[xs.size - 1 - m]? := fun m hm => by
    have := List.mem_range.mp hm
    have e2 : (((xs.size : Int) - 1) + (m : Int) * (-1)).toNat = xs.size - 1 - m := by omega
    rw [e2]
  have k := PySem.W.krv_range xs.size
  have a := PySem.W.krv_all xs
  have f : (List.range xs.size).filterMap (fun (m : Nat) => xs[(((xs.size : Int) - 1) + (m : Int) * (-1)).toNat]?) = (List.range xs.size).filterMap fun m => xs[xs.size - 1 - m]? := by
    have : ∀ (l : List Nat), (∀ m ∈ l, xs[(((xs.size : Int) - 1) + (m : Int) * (-1)).toNat]? = xs[xs.size - 1 - m]?) → l.filterMap (fun (m : Nat) => xs[(((xs.size : Int) - 1) + (m : Int) * (-1)).toNat]?) = l.filterMap fun m => xs[xs.size - 1 - m]? := by
      intro l
      induction l with
      | nil => intro _; rfl
      | cons y l ih => intro h; rw [List.filterMap_cons, List.filterMap_cons, h y (by simp), ih fun m hm => h m (by simp [hm])]
    exact this _ e
  have g : (List.range xs.size).filterMap (fun m => xs[xs.size - 1 - m]?) = ((List.range xs.size).map fun m => xs.size - 1 - m).filterMap (xs[·]?) := by
    rw [List.filterMap_map]
    rfl
  rw [f, g, k, List.filterMap_reverse, a]
theorem getItem_back {t sl : Addr} {items : Array Value} {vl vu vk : Value} {Q : Value → Shared → Prop} (ht : IsTup s.heap t items) (hs : s.heap.IsSliceOf sl vl vu vk) (pl : IsPart vl none) (pu : IsPart vu none) (pk : IsPart vk (some (-1)))
    (h : Q (.ref s.heap.objs.size) { s with heap := s.heap.push { cls := .type "tuple", data := .seq items.toList.reverse.toArray } }) (hz : items.size ≤ sizeLine) : wpAny (model P w) A (getItem (.ref t) (.ref sl)) Q E s := by
  have few : sizeOk (.seq items.toList.reverse.toArray) := by
    show items.toList.reverse.toArray.size ≤ sizeLine
    simpa using hz
  obtain ⟨ob, g1, g2, g3⟩ := id hs
  have ty : s.TypeIs (.ref sl) "slice" := ⟨ob, g1, g2⟩
  unfold getItem
  try with_reducible refine wpAny_holding ?_
  first | refine wpAny_bind (wpAny_pure ?_) | skip
  refine wpAny_bind (wpAny_sequenceKey ht.typeIs (by decide) (wpAny_bind (wpAny_callSpecial?_slot (name := Str.ofString "__getitem__") ht.typeIs PyProof.Rows.slot_tuple_getitem (wpAny_call_entry PyProof.Rows.slot_tuple_getitem ht.typeIs entry_tuple_getitem ?_ (args_tuple_getitem _ _)))))
  show wpAny _ _ (Builtin.Tuple.tupleItemsOf (.ref t) >>= _) _ _ s
  refine wpAny_bind (tupleItemsOf_ ht (wpAny_bind (wpAny_typeOf ty ?_)))
  rw [if_pos (by decide)]
  refine wpAny_bind (back_applied hs pl pu pk ?_)
  have no : ¬ ((((items.size : Int) - 1) == 0 && (-1 : Int) == 1 && items.size == items.size) = true) := by simp
  show wpAny _ _ (if (((items.size : Int) - 1) == 0 && (-1 : Int) == 1 && items.size == items.size) = true then _ else _) _ _ s
  rw [if_neg no, back_pick]
  first
    | exact wpAny_bind (m := Builtin.Tuple.tupleExact _) (wpAny_newObj_type (wpAny_pure ⟨_, rfl, wpAny_pure h⟩) few)
    | exact wpAny_bind (m := Builtin.Tuple.tupleExact _) (wpAny_newObj_type (wpAny_bind (wpAny_pure (wpAny_pure ⟨_, rfl, wpAny_pure h⟩))) few)
    | exact wpAny_bind (wpAny_bind (m := Builtin.Tuple.tupleExact _) (wpAny_newObj_type (wpAny_pure (wpAny_pure ⟨_, rfl, wpAny_pure h⟩)) few))
    | exact wpAny_bind (wpAny_bind (m := Builtin.Tuple.tupleExact _) (wpAny_newObj_type (wpAny_pure ⟨_, rfl, wpAny_pure h⟩) few))
end
section
variable {T : Tb} {E : XK} {X : Cx} {a : Expr} {f : EX} {p p2 q pos : Pos}
def tRevT (K : PySem.W.Frag) (te : TE) : TE := fun σ H Q => te σ H fun x H1 => ∃ a xs, x = .ref a ∧ SqT K H1 a xs ∧ ∀ p, H1 p = none → Q (.ref p) (upd H1 p (.tup xs.reverse))
theorem pe_revT {te : TE} {k : Nat} {p1 p2 p3 pos : Pos} (he : PE X a te) : PE X (.Subscript a (.Slice none none (some (.UnaryOp .USub (.Constant (.int 1) k p1) p2)) p3) pos) (tRevT X.K te) := by
  refine ⟨fun pins s σ H Q I h => Subscript_ (thn (he.run pins s σ H _ I h) fun v s1 ⟨x, H1, I1, r1, q1⟩ => ?_)⟩
  obtain ⟨t, xs, ex, hx, q⟩ := q1
  subst ex
  cases r1
  have st : PO X (some (.UnaryOp .USub (.Constant (.int 1) k p1) p2)) (tPart (tUn (rU fun i => .int (-i)) (tC (.int 1)))) := po_some (pe_un un_neg pe_int)
  refine wpAny_Slice (thn (po_none.run pins s1 σ H1 (fun o H2 => o = none ∧ H2 = H1) I1 ⟨rfl, rfl⟩) fun vl s2 ⟨l, H2, I2, pl, el, e2⟩ => ?_)
  subst el e2
  refine thn (po_none.run pins s2 σ H2 (fun o H3 => o = none ∧ H3 = H2) I2 ⟨rfl, rfl⟩) fun vu s3 ⟨u, H3, I3, pu, eu, e3⟩ => ?_
  subst eu e3
  refine thn (st.run pins s3 σ H3 (fun o H4 => o = some (-1) ∧ H4 = H3) I3 ⟨1, rfl, -1, rfl, rfl, rfl⟩) fun vs s4 ⟨o, H4, I4, ps, eo, e4⟩ => ?_
  subst eo e4
  obtain ⟨s5, e5⟩ : ∃ s5 : Shared, s5 = { s4 with heap := s4.heap.push { cls := .type "slice", data := .fields #[vl, vu, vs] } } := ⟨_, rfl⟩
  have I5 : Inv X pins σ H4 s5 := by rw [e5]; exact I4.kept (t' := s4.toks) fun b ob q => Heap.get?_push_of_some _ q
  have sl : s5.heap.IsSliceOf s4.heap.objs.size vl vu vs := by rw [e5]; exact Heap.IsSliceOf.new _ vl vu vs
  obtain ⟨its, r, ht, hz⟩ := I5.tuple hx
  have hlen := r.length
  show wpAny (model X.prog X.w) X.A (subscriptTail a (.Slice none none (some (.UnaryOp .USub (.Constant (.int 1) k p1) p2)) p3) (.ref t) (.ref s4.heap.objs.size)) (EP X pins σ Q) X.xe { s4 with heap := s4.heap.push { cls := .type "slice", data := .fields #[vl, vu, vs] } }
  rw [← e5]
  refine tail_any (ops := [.ref t, .ref s4.heap.objs.size]) ht.typeIs PyProof.Rows.slot_tuple_getitem.lookup ?_ (by with_unfolding_all rfl)
  refine getItem_back ht sl pl pu ps ?_ (by rw [List.size_toArray]; omega)
  refine ⟨.ref _, _, I5.laid (t' := s5.toks) (o := .tup xs.reverse) (fun b ob q => Heap.get?_push_of_some _ q) (Nat.le_refl _) ?_, rfl, q _ (I5.hok.fresh (Nat.le_refl _))⟩
  exact ⟨by rw [List.length_reverse]; exact hz, _, r.reverse, IsTup.new _ _⟩
theorem Reps.rev {w : Wd} : ∀ {l : List D} {vs : List V}, Reps T w l vs → Reps T w l.reverse vs.reverse
  | _, _, .nil => .nil
  | _, _, .cons q r => by
    rw [List.reverse_cons, List.reverse_cons]
    exact (Reps.rev r).append (.cons q .nil)
def revT : D → Option D
  | .tup l => some (.tup l.reverse)
  | _ => none
theorem ie_revT {k : Nat} {p1 p2 p3 pos : Pos} (hK : X.K = T.K) (ha : IE T E X a f) : IE T E X (.Subscript a (.Slice none none (some (.UnaryOp .USub (.Constant (.int 1) k p1) p2)) p3) pos) (eUn revT f) :=
  PE.mono (pe_revT ha) fun σ H Q ⟨w, env, S, r0, e, q⟩ => ⟨w, env, S, r0, e, (RP.bnd q).mono (fun x S1 h1 w1 H1 v l1 r1 p1 => by
    cases p1 with
    | tup h3 h4 =>
      refine ⟨_, _, rfl, by rw [hK]; exact sqt_sub r1 h3, fun r hr => ?_⟩
      obtain ⟨l2, r2⟩ := r1.new hr (.tup _)
      exact h1 _ _ _ (l1.trans l2) r2 (.tup (.inl (.inl upd_same)) ((Reps.rev h4).mono l2))
    | _ => exact (show False from h1).elim) fun _ _ _ x => x⟩
end
end Ro
end
section
set_option Elab.async false
set_option linter.all false
set_option maxRecDepth 100000
set_option maxHeartbeats 4000000
namespace Ro
open PySem PySem.Spec PyProof.Rows L2
def Pr64 (p : Int × Int) : Prop := (0 ≤ p.1 ∧ p.1 < 64) ∧ 0 ≤ p.2 ∧ p.2 < 64
def pcode (p : Int × Int) : Int := p.1 * 64 + p.2
def pdec (c : Int) : Int × Int := (c / 64, c % 64)
theorem pdec_code {p : Int × Int} (h : Pr64 p) : pdec (pcode p) = p := by
  obtain ⟨⟨h1, h2⟩, h3, h4⟩ := h
  obtain ⟨a, b⟩ := p
  simp only at h1 h2 h3 h4
  unfold pdec pcode
  simp only
  have e1 : (a * 64 + b) / 64 = a := by omega
  have e2 : (a * 64 + b) % 64 = b := by omega
  rw [e1, e2]
def psort (l : List (Int × Int)) : List (Int × Int) := (ssort (l.map pcode)).map pdec
def pairT (p : Int × Int) : D := .tup [.int p.1, .int p.2]
def pr64B (p : Int × Int) : Bool := (decide (0 ≤ p.1) && decide (p.1 < 64)) && (decide (0 ≤ p.2) && decide (p.2 < 64))
theorem pr64B_ok {p : Int × Int} (h : pr64B p = true) : Pr64 p := by
  unfold pr64B at h
  simp only [Bool.and_eq_true, decide_eq_true_eq] at h
  exact h
def dPairs : List D → Option (List (Int × Int))
  | [] => some []
  | .tup [.int a, .int b] :: l => if pr64B (a, b) then (dPairs l).map ((a, b) :: ·) else none
  | _ => none
def kL (ks : List (Addr × (Int × Int))) : List (Addr × List Int) := ks.map fun p => (p.1, [p.2.1, p.2.2])
section
variable {T : Tb} {E : XK} {X : Cx} {a : Expr} {f : EX} {p p2 q pos : Pos}
theorem reps_pr64 {w : Wd} : ∀ {l : List D} {vs : List V} {ps : List (Int × Int)}, Reps T w l vs → dPairs l = some ps → ∃ ks : List (Addr × (Int × Int)), vs = ks.map (fun p => V.ref p.1) ∧ ps = ks.map (·.2) ∧ ∀ p ∈ ks, Rep T w (pairT p.2) (.ref p.1) ∧ SqT T.K w.G p.1 [.int p.2.1, .int p.2.2] ∧ Pr64 p.2
  | [], _, _, .nil, h => by cases h; exact ⟨[], rfl, rfl, by simp⟩
  | d :: l, _, ps, .cons r rs, h => by
    unfold dPairs at h
    split at h
    · cases ‹_ :: _ = []›
    · rename_i a b l2 e
      cases e
      split at h
      · rename_i hp
        cases z : dPairs l with
        | none => rw [z] at h; cases h
        | some qs =>
          rw [z] at h
          cases h
          obtain ⟨ks, h1, h2, h3⟩ := reps_pr64 rs z
          have r0 := r
          cases r with
          | tup q1 q2 =>
            rename_i ad vs
            cases q2 with
            | cons q3 q4 =>
              cases q3
              cases q4 with
              | cons q5 q6 =>
                cases q5
                cases q6
                refine ⟨(ad, (a, b)) :: ks, by simp [h1], by simp [h2], fun p hp2 => ?_⟩
                rcases List.mem_cons.mp hp2 with e | hp2
                · subst e; exact ⟨r0, q1, pr64B_ok hp⟩
                · exact h3 p hp2
      · cases h
    · cases h
def tSortSetP (K : PySem.W.Frag) (ta : TE) : TE := fun σ H Q => ta σ H fun x H1 => ∃ (l : Addr) (ks : List (Addr × (Int × Int))), x = .ref l ∧ SqL K H1 l (ks.map fun p => V.ref p.1) ∧ (∀ p ∈ ks, SqT K H1 p.1 [.int p.2.1, .int p.2.2] ∧ Pr64 p.2) ∧ ks.length < 60 ∧
  ∀ (b r : Addr) (o : HO) (L : List (Addr × (Int × Int))), H1 b = none → upd H1 b o r = none → (∀ ps, o ≠ .tbl ps) → (∀ p ∈ L, p ∈ ks) → L.map (·.2) = psort (ks.map (·.2)) → Q (.ref r) (upd (upd H1 b o) r (.lst (L.map fun p => V.ref p.1)))
theorem pw_le_lt {l : List Int} (h : l.Pairwise (· ≤ ·)) (n : l.Nodup) : l.Pairwise (· < ·) := by
  induction l with
  | nil => exact .nil
  | cons x l ih =>
    have h1 := List.pairwise_cons.mp h
    have n1 := List.nodup_cons.mp n
    refine List.pairwise_cons.mpr ⟨fun y hy => ?_, ih h1.2 n1.2⟩
    have := h1.1 y hy
    have ne : x ≠ y := fun e => n1.1 (e ▸ hy)
    omega
theorem psort_of {ks L : List (Int × Int)} (h64 : ∀ p ∈ ks, Pr64 p) (hs : ∀ p ∈ L, p ∈ ks) (ha : ∀ p ∈ ks, p ∈ L) (hn : L.Nodup) (hp : (L.map pcode).Pairwise (· ≤ ·)) : L = psort ks := by
  have inj : ∀ p ∈ L, ∀ q ∈ L, pcode p = pcode q → p = q := fun p h1 q h2 e => by
    rw [← pdec_code (h64 p (hs p h1)), e, pdec_code (h64 q (hs q h2))]
  have nd : (L.map pcode).Nodup := by
    rw [List.nodup_iff_pairwise_ne, List.pairwise_map]
    refine List.Pairwise.imp_of_mem ?_ hn
    intro p q h1 h2 ne e
    exact ne (inj p h1 q h2 e)
  have e : L.map pcode = ssort (ks.map pcode) := asc_uniq (pw_le_lt hp nd) (asc_ssort _) fun z => by
    rw [mem_ssort]
    simp only [List.mem_map]
    exact ⟨fun ⟨p, h1, h2⟩ => ⟨p, hs p h1, h2⟩, fun ⟨p, h1, h2⟩ => ⟨p, ha p h1, h2⟩⟩
  unfold psort
  rw [← e, List.map_map]
  have : L.map (pdec ∘ pcode) = L.map id := List.map_congr_left fun p hp => pdec_code (h64 p (hs p hp))
  rw [this, List.map_id]
theorem pe_sortSetP {ta : TE} (hc : X.calm = true) (hu : X.A.units + 64 < cLine) (hg : Gl X "sorted") (hm : X.mg "sorted" = none) (hg2 : Gl X "set") (hm2 : X.mg "set" = none) (ha : PE X a ta)
    (na : starEach [a] X.env = (false, eval a X.env) :: starEach [] X.env := by rfl) : PE X (.Call (.Name "sorted" p) [.Call (.Name "set" p2) [a] [] q] [] pos) (tSortSetP X.K ta) := by
  refine ⟨fun pins s σ H Q I h => Call_ (ld_blt I hg hm boot_sorted (callWith_builtin1 (args_cons ?_ rfl) rfl rfl))⟩
  refine Call_ (ld_blt I hg2 hm2 boot_set (callWith_type1 (args_cons (thn (ha.run pins s σ H _ I h) fun v s1 ⟨x, H1, J, r, k⟩ => args_nil ?_) na) na rfl))
  obtain ⟨l, ks, rfl, hl, hk, hf, k⟩ := k
  have hrv : Vals [V.ref l] [v] := .cons r .nil
  have st := cr_setOfT (X := X) hc (by omega) pins s1 σ H1 [V.ref l] [v] (fun y H2 => ∃ (b : Addr) (L : List (Addr × List Int)), y = .ref b ∧ H1 b = none ∧ H2 = upd H1 b (SetTO X.prog X.w b L) ∧ (∀ p ∈ L, p ∈ kL ks) ∧ (∀ p ∈ kL ks, p.2 ∈ L.map (·.2))) J hrv
    ⟨l, kL ks, rfl, by unfold kL; rw [List.map_map]; exact hl, fun p hp => by
      obtain ⟨p', hp', rfl⟩ := List.mem_map.mp hp
      exact (hk p' hp').1, by unfold kL; rw [List.length_map]; omega, fun b L hb h1 h2 => ⟨b, L, rfl, hb, rfl, h1, h2⟩⟩
  refine thn st fun v2 s2 ⟨y, H2, J2, r2, b, L, ey, hb, eH, h1, h2⟩ => args_nil ?_
  subst ey
  have hrv2 : Vals [V.ref b] [v2] := .cons r2 .nil
  have hbs : H2 b = some (SetTO X.prog X.w b L) := by rw [eH]; exact upd_same
  have keep : ∀ p u, H1 p = some u → H2 p = some u := fun p u e => by rw [eH, upd_ne (ne_of_none e hb)]; exact e
  have hL : ∀ p ∈ L, ∃ z : Int × Int, p.2 = [z.1, z.2] ∧ (p.1, z) ∈ ks := fun p hp => by
    obtain ⟨p', hp', e⟩ := List.mem_map.mp (h1 p hp)
    exact ⟨p'.2, by rw [← e], by rw [← e]; exact hp'⟩
  have sq : ∀ p ∈ L, SqT X.K H2 p.1 (p.2.map V.int) := fun p hp => by
    obtain ⟨z, e1, e2⟩ := hL p hp
    rw [e1]
    exact (hk _ e2).1.elim (fun h => .inl (h.elim (fun h => .inl (keep _ _ h)) fun ⟨o, h⟩ => .inr ⟨o, keep _ _ h⟩)) .inr
  refine cr_sortedT (X := X) hc pins s2 σ H2 [V.ref b] [v2] Q J2 hrv2 ⟨b, L, 2, 64, rfl, hbs, sq, by decide, fun p hp => ?_, fun L' r' pm nd few pw hr' => ?_⟩
  · obtain ⟨z, e1, e2⟩ := hL p hp
    obtain ⟨q1, q2⟩ := (hk _ e2).2
    refine ⟨by rw [e1]; rfl, ?_⟩
    rw [e1]
    intro m hm
    simp only [List.mem_cons, List.not_mem_nil, or_false] at hm
    rcases hm with rfl | rfl
    · exact q1
    · exact q2
  · have hL' : ∀ p ∈ L', ∃ z : Int × Int, p.2 = [z.1, z.2] ∧ (p.1, z) ∈ ks := fun p hp => hL p (pm.mem_iff.mp hp)
    obtain ⟨M, hM⟩ : ∃ M : List (Addr × (Int × Int)), L' = kL M ∧ ∀ p ∈ M, p ∈ ks := by
      clear nd few pw pm
      induction L' with
      | nil => exact ⟨[], rfl, by simp⟩
      | cons p L' ih =>
        obtain ⟨M, e, hm⟩ := ih fun p hp => hL' p (by simp [hp])
        obtain ⟨z, e1, e2⟩ := hL' p (by simp)
        refine ⟨(p.1, z) :: M, ?_, fun q hq => ?_⟩
        · show p :: L' = (p.1, [z.1, z.2]) :: kL M
          rw [← e1, ← e]
        · rcases List.mem_cons.mp hq with rfl | hq
          · exact e2
          · exact hm q hq
    obtain ⟨e, hm⟩ := hM
    have es : M.map (·.2) = psort (ks.map (·.2)) := by
      refine psort_of (fun p hp => ?_) (fun p hp => ?_) (fun p hp => ?_) ?_ ?_
      · obtain ⟨q, hq, rfl⟩ := List.mem_map.mp hp
        exact (hk q hq).2
      · obtain ⟨q, hq, rfl⟩ := List.mem_map.mp hp
        exact List.mem_map_of_mem (hm q hq)
      · obtain ⟨q, hq, rfl⟩ := List.mem_map.mp hp
        have := h2 (q.1, [q.2.1, q.2.2]) (List.mem_map_of_mem hq)
        obtain ⟨u, hu, eu⟩ := List.mem_map.mp this
        have hu' := pm.mem_iff.mpr hu
        rw [e] at hu'
        obtain ⟨v, hv, ev⟩ := List.mem_map.mp hu'
        refine List.mem_map.mpr ⟨v, hv, ?_⟩
        rw [← ev] at eu
        simp only [List.cons.injEq, and_true] at eu
        exact Prod.ext eu.1 eu.2
      · rw [e] at nd
        unfold kL at nd
        rw [List.map_map] at nd
        have n2 : ((M.map (·.2)).map fun z : Int × Int => [z.1, z.2]).Nodup := by rw [List.map_map]; exact nd
        exact nodup_of_map n2
      · rw [e] at pw
        unfold kL at pw
        rw [List.pairwise_map] at pw
        rw [List.map_map, List.pairwise_map]
        refine pw.imp fun {u v} h => ?_
        rw [code_pair, code_pair] at h
        exact h
    have ev : (L'.map fun q => V.ref q.1) = M.map fun p => V.ref p.1 := by rw [e]; unfold kL; rw [List.map_map]; rfl
    rw [ev]
    rw [eH] at hr' ⊢
    exact k b r' _ M hb hr' (fun ps e => by cases e) hm es
def sortSetP : D → Option D
  | .lst l => match dPairs l with
    | some ps => if ps.length < 60 then some (.lst ((psort ps).map pairT)) else none
    | none => none
  | _ => none
def eSortSetP (f : EX) : EX := fun env S => (f env S).bnd fun x S1 => lift (sortSetP x) S1
theorem ie_sortSetP (hK : X.K = T.K) (hc : X.calm = true) (hu : X.A.units + 64 < cLine) (hg : Gl X "sorted") (hm : X.mg "sorted" = none) (hg2 : Gl X "set") (hm2 : X.mg "set" = none) (ha : IE T E X a f)
    (na : starEach [a] X.env = (false, eval a X.env) :: starEach [] X.env := by rfl) : IE T E X (.Call (.Name "sorted" p) [.Call (.Name "set" p2) [a] [] q] [] pos) (eSortSetP f) :=
  PE.mono (pe_sortSetP hc hu hg hm hg2 hm2 ha na) fun σ H Q ⟨w, env, S, r0, e, q⟩ => ⟨w, env, S, r0, e, (RP.bnd q).mono (fun x S1 h1 w1 H1 v l1 r1 p1 => by
    unfold sortSetP at h1
    split at h1
    · rename_i l
      split at h1
      · rename_i ps hx
        split at h1
        · rename_i hb
          cases p1 with
          | lst h3 h4 =>
            obtain ⟨ks, rfl, rfl, h5⟩ := reps_pr64 h4 hx
            refine ⟨_, ks, rfl, by rw [hK]; exact sql_sub r1 (.inl (.inl h3)), fun p hp => ⟨by rw [hK]; exact sqt_sub r1 (h5 p hp).2.1, (h5 p hp).2.2⟩, by simpa using hb, fun b r o L hb2 hr ho hL eL => ?_⟩
            have r2 := r1.grow (H' := upd H1 b o) fun a u e => by rw [upd_ne (ne_of_none e hb2)]; exact e
            obtain ⟨l3, r3⟩ := r2.new hr (.lst (L.map fun p => V.ref p.1))
            have rL : ∀ L : List (Addr × (Int × Int)), (∀ p ∈ L, p ∈ ks) → Reps T w1 ((L.map (·.2)).map pairT) (L.map fun p => V.ref p.1) := by
              intro L
              induction L with
              | nil => intro _; exact .nil
              | cons p L ih => intro h; exact .cons (h5 p (h p (by simp))).1 (ih fun q hq => h q (by simp [hq]))
            have rr := rL L hL
            rw [eL] at rr
            exact h1 _ _ _ (l1.trans l3) r3 (.lst upd_same (rr.mono l3))
        · exact (show False from h1).elim
      · exact (show False from h1).elim
    · exact (show False from h1).elim) fun _ _ _ x => x⟩
end
end Ro
end
section
set_option Elab.async false
set_option linter.all false
set_option maxRecDepth 100000
set_option maxHeartbeats 4000000
namespace Ro
open PySem PySem.Spec PyProof.Rows L2
theorem plN_up : ∀ {n m : Nat} {d : D}, n ≤ m → plN n d = true → plN m d = true
  | _, _, .non, _, _ => by simp [plN]
  | _, _, .bl _, _, _ => by simp [plN]
  | _, _, .int _, _, _ => by simp [plN]
  | _, _, .str _, _, _ => by simp [plN]
  | 0, _, .tup l, _, h => by simp [plN] at h
  | 0, _, .lst l, _, h => by simp [plN] at h
  | n + 1, 0, _, h, _ => by omega
  | n + 1, m + 1, .tup l, h, k => by
    have k' : ∀ x ∈ l, plN n x = true := by simpa [plN] using k
    show l.all (plN m) = true
    rw [List.all_eq_true]
    intro x hx
    exact plN_up (by omega) (k' x hx)
  | n + 1, m + 1, .lst l, h, k => by
    have k' : ∀ x ∈ l, plN n x = true := by simpa [plN] using k
    show l.all (plN m) = true
    rw [List.all_eq_true]
    intro x hx
    exact plN_up (by omega) (k' x hx)
  | n, _, .scr _, _, h => by simp [plN] at h
  | n, _, .dct _, _, h => by simp [plN] at h
  | n, _, .obj _ _, _, h => by simp [plN] at h
  | n, _, .ref _, _, h => by simp [plN] at h
  | n, _, .fn _, _, h => by simp [plN] at h
  | n, _, .thk _ _, _, h => by simp [plN] at h
/-- `in`, the lists at most 7 deep -/
def inS (x y : D) : Option D := match y with
  | .lst l => if plD x && l.all (plN 7) then some (.bl (inL x l)) else none
  | _ => none
section
variable {X : Cx} {T : Tb} {E : XK} {a b : Expr} {f g : EX} {pos : Pos}
theorem os_inS (hK : X.K = T.K) (hu : X.A.units + 64 < cLine) : OpR X (compareOp .In) (rOpS T inS) := fun pins s σ H x y v u Q I rx ry q => by
  obtain ⟨w, d, e, r, S, h1, h2, h3, h4, h5⟩ := q
  unfold inS at h4
  split at h4
  · rename_i l z
    split at h4
    · rename_i hp
      cases h4
      obtain ⟨p1, p2⟩ := Bool.and_eq_true_iff.mp hp
      have p3 : l.all (plN 8) = true := by
        rw [List.all_eq_true] at p2 ⊢
        exact fun x hx => plN_up (by decide) (p2 x hx)
      obtain ⟨as, r1⟩ := Dp.reads I _ x v (by rw [hK]; exact dp_see h1 p1 h2) rx
      obtain ⟨bs, r2⟩ := Dp.reads I _ y u (by rw [hK]; exact dp_see h1 (d := e) (by rw [z]; exact p2) h3) ry
      rw [z] at r2
      obtain ⟨k1, k2⟩ := toPy_ok 8 _ p1
      obtain ⟨k3, k4⟩ := toPys_ok p3
      refine SeqAt.in_list_data (xs := toPys l) (by simpa only [toPy] using r2) r1 k3 k1 (by omega) ⟨.bl _, H, I, rfl, ?_⟩
      rw [any_py p1 p3]
      exact h5 w H _ (Wd.le.refl _) h1 (.bl _)
    · cases h4
  · cases h4
theorem tuple_mul0 (l : Addr) (n : Nat) (dd : Option Addr) (sl : Array (Option Value)) (x : Int) (u : Tok) (c0 : (decide (x < -(2 ^ 63)) || decide (x ≥ 2 ^ 63)) = false) :
    Meets (Builtin.«tuple.__mul__» ⟨[.ref l, .int x u], []⟩) (fun _ R s => s.heap.get? l = some { cls := .type "tuple", dict := dd, data := .seq #[] n, slots := sl } ∧ R (.ok (.ret (Value.ref l))) s) :=
  .of_wp fun prog w A R s h => by
    obtain ⟨hp, g, d, tk, os⟩ := s
    obtain ⟨hl, h⟩ := h
    have f1 := AutoSeq1.idx_int
    wp_walk using wpAny_loadPart' hl
    repeat (first
      | (refine wpAny_ite_false (decide_eq_false (by rw [c0]; exact Bool.false_ne_true)) ?_; wp_walk using wpAny_loadPart' hl))
    exact ⟨_, rfl, h⟩
def rRepT0 (K : PySem.W.Frag) : R2 := fun x y H Q => ∃ l k, x = .ref l ∧ y = .int k ∧ SqT K H l [] ∧ 2 ≤ k ∧ k ≤ 1000 ∧ Q (.ref l) H
theorem op_repT0 : OpR X (binaryOp .Mult) (rRepT0 X.K) := by
  intro pins s σ H x y v u Q I rx ry h
  obtain ⟨l, k, rfl, rfl, hT, h1, h2, q⟩ := h
  cases rx
  obtain ⟨t, rfl⟩ := ry
  obtain ⟨its, r, ⟨⟨cls, dd, data, sl⟩, ho, hc, n, hd⟩, hs⟩ := I.tuple hT
  simp only at hc hd
  subst hc hd
  have he : its = [] := List.eq_nil_of_length_eq_zero r.length.symm
  subst he
  have c0 : (decide (k < -(2 ^ 63)) || decide (k ≥ 2 ^ 63)) = false := by
    rw [decide_eq_false (by omega), decide_eq_false (by omega)] <;> rfl
  exact wpAny_binaryOp_repeat_ref (T := "tuple") (U := "int") (by decide) ⟨_, ho, rfl⟩ (fun s' => typeIs_int s' k t) noFill_tuple_mul F.fills_int_mul F.slot_int_rmul repeat_tuple F.slot_int_index.lookup
    (call_meets F.slot_int_rmul (typeIs_int s k t) F.entry_int_rmul (F.args_int_rmul_2 _ _) (int_rmul_tuple k t l #[] n dd sl)
      ⟨ho, rfl, ⟨_, ho, rfl⟩, call_meets F.slot_tuple_mul ⟨_, ho, rfl⟩ F.entry_tuple_mul (F.args_tuple_mul_2 _ _) (tuple_mul0 l n dd sl k t c0) ⟨ho, (.ref l : V), H, I, rfl, q⟩⟩)
def mulR0 : D → D → Option D
  | .tup l, .int k => if 2 ≤ k ∧ k ≤ 1000 ∧ l.length ≤ 1000 then some (.tup (List.replicate k.toNat l).flatten) else none
  | _, _ => none
theorem flat_nil : ∀ n : Nat, (List.replicate n ([] : List D)).flatten = []
  | 0 => rfl
  | n + 1 => by rw [List.replicate_succ, List.flatten_cons, flat_nil n]; rfl
theorem oi_mulR0 (hK : X.K = T.K) : OpR X (binaryOp .Mult) (rOp T mulR0) := fun pins s σ H x y v u Q I rx ry q => by
  obtain ⟨w, d, e, r, S, h1, h2, h3, h4, h5⟩ := id q
  unfold mulR0 at h4
  split at h4
  · rename_i l k
    split at h4
    · rename_i hl
      cases h4
      obtain ⟨k1, k2, k3⟩ := hl
      cases l with
      | nil =>
        cases h2 with
        | tup q2 r2 =>
        cases h3
        cases r2
        refine op_repT0 pins s σ H _ _ v u Q I rx ry ⟨_, k, rfl, rfl, by rw [hK]; exact sqt_sub h1 q2, k1, k2, ?_⟩
        rw [flat_nil] at h5
        exact h5 w H _ (Wd.le.refl _) h1 (.tup q2 .nil)
      | cons a l =>
        refine oi_mulR hK pins s σ H x y v u Q I rx ry ⟨w, .tup (a :: l), .int k, _, S, h1, h2, h3, ?_, h5⟩
        show (if _ then _ else _) = _
        rw [if_pos ⟨k1, k2, k3, by simp⟩]
    · cases h4
  · cases h4
end
end Ro
end
section
set_option Elab.async false
set_option linter.all false
set_option maxRecDepth 100000
set_option maxHeartbeats 4000000
namespace Ro
open PySem PySem.Spec PyProof.Rows L2 L2H LamX PySem.RoXb
def cf : String → List String
  | "NoSpending" => ["part"]
  | "NoRule" => ["part"]
  | "NoJourney" => ["part"]
  | "NoText" => ["row"]
  | "TooMany" => ["many", "most"]
  | "NoRate" => ["money", "day"]
  | "NoDay" => ["day"]
  | "NoName" => ["name"]
  | "NoHeads" => ["heads"]
  | "Spending" => ["kind", "amount", "day", "paper", "heads", "money"]
  | _ => []
def cnsL : List String := ["NoRates", "NoRate"]
def tyX : List Ty := [.o "NoRates", .o "NoSpot", .o "NoShare", .o "NoBook", .o "NoPlace", .o "Absent", .o "Nothing", .o "NoTable", .o "NoLine", .o "NoSpending", .o "NoRule", .o "NoJourney", .o "NoText", .o "TooMany", .o "NoRate", .o "NoDay", .o "NoName", .o "NoHeads", .o "PenceError", .b "ValueError", .b "KeyError", .b "IndexError", .b "LookupError", .b "ZeroDivisionError"]
def isxT : List (String × Ty) := [("NoRates", .o "NoRates"), ("NoRates", .o "PenceError"), ("NoRates", .b "ValueError"), ("NoRate", .o "NoRate"), ("NoRate", .b "LookupError")]
def isx (cn : String) (t : Ty) : Bool := decide ((cn, t) ∈ isxT)
def tysL : List Ty := [.b "NoneType", .b "bool", .b "int", .b "str", .b "tuple", .b "list", .b "dict", .o "Spending"]
def b__law_rates : ES :=
  (sSeq (sSet 1 eDctT)
  (sSeq (sFor (itR1 (aCons (eFn (callM m__law_take 2 0 2 [(0, 0), (0, 1)] []) (aCons (eVar 0) (aCons (eC (.int 13)) aNil)) aNil) aNil)) (pName 2) (sSeq (sSet 3 (eIdxB (eLst (aCons (eC (.int 0)) (aCons (eFn (callM m__law_take 2 0 2 [(0, 0), (0, 1)] []) (aCons (eVar 0) (aCons (eC (.int 60)) aNil)) aNil) (aCons (eFn (callM m__law_take 2 0 2 [(0, 0), (0, 1)] []) (aCons (eVar 0) (aCons (eC (.int 6)) aNil)) aNil) aNil)))) (eFn (callM m__law_take 2 0 2 [(0, 0), (0, 1)] []) (aCons (eVar 0) (aCons (eC (.int 3)) aNil)) aNil)))
  (sSeq (sSet 4 (eIdxB (eLst (aCons (eC (.int 1)) (aCons (eOp powD (eC (.int 10)) (eC (.int 6))) (aCons (eOp addD (eC (.int 1)) (eFn (callM m__law_take 2 0 2 [(0, 0), (0, 1)] []) (aCons (eVar 0) (aCons (eC (.int 200)) aNil)) aNil)) aNil)))) (eFn (callM m__law_take 2 0 2 [(0, 0), (0, 1)] []) (aCons (eVar 0) (aCons (eC (.int 3)) aNil)) aNil)))
  (sPutT (eVar 1) (aCons (eOp addD (eC (.int 1)) (eFn (callM m__law_take 2 0 2 [(0, 0), (0, 1)] []) (aCons (eVar 0) (aCons (eC (.int 3)) aNil)) aNil)) (aCons (eVar 3) aNil)) (eTup (aCons (eVar 4) (aCons (eIdxB (eLst (aCons (eC (.int 1)) (aCons (eOp powD (eC (.int 10)) (eC (.int 6))) (aCons (eC (.int 100)) (aCons (eOp addD (eC (.int 1)) (eFn (callM m__law_take 2 0 2 [(0, 0), (0, 1)] []) (aCons (eVar 0) (aCons (eC (.int 200)) aNil)) aNil)) aNil))))) (eFn (callM m__law_take 2 0 2 [(0, 0), (0, 1)] []) (aCons (eVar 0) (aCons (eC (.int 4)) aNil)) aNil)) aNil)))))))
  (sRet (eB bTuple (aCons (eLC [5] (itAny (eSorted (aCons (eVar 1) aNil))) (pName 5) bYes (eOp addD (eVar 5) (eIdxB (eVar 1) (eVar 5)))) aNil)))))
def m__law_rates : Fn := fnM 6 b__law_rates
def b__law_rate : ES :=
  (sSeq (sIf (bVal (eOp eqD (eVar 1) (eC (.int 0)))) (sRet (eTup (aCons (eC (.int 1)) (aCons (eC (.int 1)) aNil)))) sPass)
  (sSeq (sSet 3 (eC .non))
  (sSeq (sFor (itAny (eVar 0)) (pTup (pCons (pName 4) (pCons (pName 5) (pCons (pName 6) (pCons (pName 7) pNil))))) (sIf (bAnd (bVal (eOp eqD (eVar 4) (eVar 1))) (bVal (eOp leD (eVar 5) (eVar 2)))) (sSet 3 (eTup (aCons (eVar 6) (aCons (eVar 7) aNil)))) sPass))
  (sRet (eVar 3)))))
def m__law_rate : Fn := fnM 8 b__law_rate
def b__law_family (cn : String) : ES :=
  (sSeq (sSet 1 (eLst (aCons (eIsX (isx cn (.o "NoRates")) (eVar 0)) (aCons (eIsX (isx cn (.o "NoSpot")) (eVar 0)) (aCons (eIsX (isx cn (.o "NoShare")) (eVar 0)) (aCons (eIsX (isx cn (.o "NoBook")) (eVar 0)) aNil))))))
  (sSeq (sSet 1 (eOp addD (eVar 1) (eLst (aCons (eIsX (isx cn (.o "NoPlace")) (eVar 0)) (aCons (eIsX (isx cn (.o "Absent")) (eVar 0)) (aCons (eIsX (isx cn (.o "Nothing")) (eVar 0)) (aCons (eIsX (isx cn (.o "NoTable")) (eVar 0)) aNil)))))))
  (sSeq (sSet 1 (eOp addD (eVar 1) (eLst (aCons (eIsX (isx cn (.o "NoLine")) (eVar 0)) (aCons (eIsX (isx cn (.o "NoSpending")) (eVar 0)) (aCons (eIsX (isx cn (.o "NoRule")) (eVar 0)) (aCons (eIsX (isx cn (.o "NoJourney")) (eVar 0)) aNil)))))))
  (sSeq (sSet 1 (eOp addD (eVar 1) (eLst (aCons (eIsX (isx cn (.o "NoText")) (eVar 0)) (aCons (eIsX (isx cn (.o "TooMany")) (eVar 0)) (aCons (eIsX (isx cn (.o "NoRate")) (eVar 0)) (aCons (eIsX (isx cn (.o "NoDay")) (eVar 0)) aNil)))))))
  (sRet (eOp addD (eVar 1) (eLst (aCons (eIsX (isx cn (.o "NoName")) (eVar 0)) (aCons (eIsX (isx cn (.o "NoHeads")) (eVar 0)) aNil)))))))))
def m__law_family (cn : String) : Fn := fnM 2 (b__law_family cn)
def b__law_word (cn : String) : ES :=
  (sSeq (sSet 1 (eFnP (m__law_family cn) (eVar 0)))
  (sSeq (sSet 2 (eLst (aCons (eC (.str "rates")) (aCons (eC (.str "spot")) (aCons (eC (.str "share")) (aCons (eC (.str "book")) (aCons (eC (.str "place")) (aCons (eC (.str "absent")) (aCons (eC (.str "nothing")) (aCons (eC (.str "table")) (aCons (eC (.str "line")) (aCons (eC (.str "spending")) (aCons (eC (.str "rule")) aNil)))))))))))))
  (sSeq (sSet 2 (eOp addD (eVar 2) (eLst (aCons (eC (.str "journey")) (aCons (eC (.str "text")) (aCons (eC (.str "many")) (aCons (eC (.str "rate")) (aCons (eC (.str "day")) (aCons (eC (.str "name")) (aCons (eC (.str "heads")) aNil))))))))))
  (sSeq (sIf (bVal (eOp neD (eM1 "list" cntD (eVar 1) (eC (.bl true))) (eC (.int 1)))) (sRet (eC (.str "other"))) sPass)
  (sSeq (sSet 3 (eM1 "list" idxOfD (eVar 1) (eC (.bl true))))
  (sSeq (sSet 4 (eLst (aCons (eIsX (isx cn (.o "PenceError")) (eVar 0)) (aCons (eIsX (isx cn (.b "ValueError")) (eVar 0)) (aCons (eIsX (isx cn (.b "KeyError")) (eVar 0)) aNil)))))
  (sSeq (sSet 4 (eOp addD (eVar 4) (eLst (aCons (eIsX (isx cn (.b "IndexError")) (eVar 0)) (aCons (eIsX (isx cn (.b "LookupError")) (eVar 0)) (aCons (eIsX (isx cn (.b "ZeroDivisionError")) (eVar 0)) aNil))))))
  (sSeq (sSet 5 (eLst (aCons (eC (.bl true)) (aCons (eC (.bl true)) (aCons (eC (.bl false)) (aCons (eC (.bl false)) (aCons (eC (.bl false)) (aCons (eC (.bl false)) aNil))))))))
  (sSeq (sIf (bVal (eOp gtD (eVar 3) (eC (.int 13)))) (sSet 5 (eLst (aCons (eC (.bl false)) (aCons (eC (.bl false)) (aCons (eOp eqD (eVar 3) (eC (.int 16))) (aCons (eOp eqD (eVar 3) (eC (.int 15))) (aCons (eOp ltA (eVar 3) (eC (.int 17))) (aCons (eOp eqD (eVar 3) (eC (.int 17))) aNil)))))))) sPass)
  (sRet (eIf (bVal (eOp eqD (eVar 4) (eVar 5))) (eIdxB (eVar 2) (eVar 3)) (eC (.str "other")))))))))))))
def m__law_word (cn : String) : Fn := fnM 6 (b__law_word cn)
def sx_0 (cn : String) : ES :=
  (sSeq (sSet 2 (eFnP (m__law_word cn) (eVar 1)))
  (sSeq (sIf (bVal (eOp inD (eVar 2) (eLst (aCons (eC (.str "spending")) (aCons (eC (.str "rule")) (aCons (eC (.str "journey")) aNil)))))) (sRet (eTup (aCons (eVar 2) (aCons (eXf cf cn "part" (eVar 1)) aNil)))) sPass)
  (sSeq (sIf (bVal (eOp eqD (eVar 2) (eC (.str "text")))) (sRet (eTup (aCons (eVar 2) (aCons (eXf cf cn "row" (eVar 1)) aNil)))) sPass)
  (sRet (eIf (bVal (eOp eqD (eVar 2) (eC (.str "many")))) (eTup (aCons (eVar 2) (aCons (eXf cf cn "many" (eVar 1)) (aCons (eXf cf cn "most" (eVar 1)) aNil)))) (eTup (aCons (eVar 2) aNil)))))))
def sx_1 (cn : String) : ES :=
  (sRet (eTup (aCons (eFnP (m__law_word cn) (eVar 1)) (aCons (eXf cf cn "heads" (eVar 1)) aNil))))
def sx_2 (cn : String) : ES :=
  (sRet (eTup (aCons (eFnP (m__law_word cn) (eVar 1)) (aCons (eXf cf cn "name" (eVar 1)) aNil))))
def sx_3 (cn : String) : ES :=
  (sRet (eTup (aCons (eFnP (m__law_word cn) (eVar 1)) (aCons (eXf cf cn "day" (eVar 1)) aNil))))
def sx_4 (cn : String) : ES :=
  (sRet (eTup (aCons (eFnP (m__law_word cn) (eVar 1)) (aCons (eXf cf cn "money" (eVar 1)) (aCons (eXf cf cn "day" (eVar 1)) aNil)))))
def clX (T : Tb) : List (Value × (String → ES)) := [(.ref (He.ga T.K ("PenceError" : PySem.Str)), sx_0), (.ref (He.ga T.K ("NoHeads" : PySem.Str)), sx_1), (.ref (He.ga T.K ("NoName" : PySem.Str)), sx_2), (.ref (He.ga T.K ("NoDay" : PySem.Str)), sx_3), (.ref (He.ga T.K ("NoRate" : PySem.Str)), sx_4)]
def b_is_whole : ES :=
  (sRet (eAnd (eIsI tysL (.b "int") (eVar 0)) (eAnd (eNot (eIsI tysL (.b "bool") (eVar 0))) (eChain leD leD (eVar 1) (eVar 0) (eVar 2)))))
def m_is_whole : Fn := fnM 3 b_is_whole
def b_is_rate : ES :=
  (sSeq (sIf (bOr (bNot (bVal (eIsI tysL (.b "tuple") (eVar 0)))) (bVal (eOp neD (eB bLenA (aCons (eVar 0) aNil)) (eC (.int 4))))) (sRet (eC (.bl false))) sPass)
  (sSeq (sIf (bOr (bNot (bVal (eFn (callM m_is_whole 3 0 3 [(0, 0), (0, 1), (0, 2)] []) (aCons (eIdxB (eVar 0) (eC (.int 0))) (aCons (eC (.int 1)) (aCons (eC (.int 3)) aNil))) aNil))) (bNot (bVal (eFn (callM m_is_whole 3 0 3 [(0, 0), (0, 1), (0, 2)] []) (aCons (eIdxB (eVar 0) (eC (.int 1))) (aCons (eC (.int 0)) (aCons (eC (.int 59)) aNil))) aNil)))) (sRet (eC (.bl false))) sPass)
  (sRet (eAnd (eFn (callM m_is_whole 3 0 3 [(0, 0), (0, 1), (0, 2)] []) (aCons (eIdxB (eVar 0) (eC (.int 2))) (aCons (eC (.int 1)) (aCons (eC (.int 1000000)) aNil))) aNil) (eFn (callM m_is_whole 3 0 3 [(0, 0), (0, 1), (0, 2)] []) (aCons (eIdxB (eVar 0) (eC (.int 3))) (aCons (eC (.int 1)) (aCons (eC (.int 1000000)) aNil))) aNil)))))
def m_is_rate : Fn := fnM 1 b_is_rate
def b_need_rates : ES :=
  (sSeq (sIf (bOr (bNot (bVal (eIsI tysL (.b "tuple") (eVar 0)))) (bOr (bVal (eOp gtD (eB bLenA (aCons (eVar 0) aNil)) (eC (.int 12)))) (bNot (bVal (eB bAll (aCons (eLC [1] (itAny (eVar 0)) (pName 1) bYes (eFn (callM m_is_rate 1 0 1 [(0, 0)] []) (aCons (eVar 1) aNil) aNil)) aNil)))))) (sRaise "NoRates" aNil) sPass)
  (sIf (bNot (bVal (eB bAll (aCons (eLC [1, 2] (itZip (aCons (eCut (eVar 0) oNone (oSome (eUn negD (eC (.int 1))))) (aCons (eCut (eVar 0) (oSome (eC (.int 1))) oNone) aNil))) (pTup (pCons (pName 1) (pCons (pName 2) pNil))) bYes (eOp ltA (eCut (eVar 1) oNone (oSome (eC (.int 2)))) (eCut (eVar 2) oNone (oSome (eC (.int 2)))))) aNil)))) (sRaise "NoRates" aNil) sPass))
def m_need_rates : Fn := fnM 3 b_need_rates
def b_rate_by : ES :=
  (sSeq (sIf (bVal (eOp eqD (eVar 1) (eC (.int 0)))) (sRet (eTup (aCons (eC (.int 1)) (aCons (eC (.int 1)) aNil)))) sPass)
  (sSeq (sSet 3 (eLC [4] (itAny (eVar 0)) (pName 4) (bAnd (bVal (eOp eqD (eIdxB (eVar 4) (eC (.int 0))) (eVar 1))) (bVal (eOp leD (eIdxB (eVar 4) (eC (.int 1))) (eVar 2)))) (eVar 4)))
  (sSeq (sIf (bVal (eOp eqD (eVar 3) (eLst aNil))) (sRaise "NoRate" (aChk 2 (aCons (eVar 1) (aCons (eVar 2) aNil)))) sPass)
  (sRet (eCut (eIdxB (eVar 3) (eUn negD (eC (.int 1)))) (oSome (eC (.int 2))) oNone)))))
def m_rate_by : Fn := fnM 5 b_rate_by
def b_rate_on : ES :=
  (sSeq (sExpr (eFn (callM m_need_rates 1 0 1 [(0, 0)] []) (aCons (eVar 0) aNil) aNil))
  (sRet (eFn (callM m_rate_by 3 0 3 [(0, 0), (0, 1), (0, 2)] []) (aCons (eVar 0) (aCons (eVar 1) (aCons (eVar 2) aNil))) aNil)))
def m_rate_on : Fn := fnM 3 b_rate_on
def b__law_right : ES :=
  (sSeq (sSet 3 (eFn (callM m__law_rate 3 0 3 [(0, 0), (0, 1), (0, 2)] []) (aCons (eVar 0) (aCons (eVar 1) (aCons (eVar 2) aNil))) aNil))
  (sSeq (sSet 3 (eIf (bVal (eOp isND (eVar 3) (eC .non))) (eTup (aCons (eC (.str "rate")) (aCons (eVar 1) (aCons (eVar 2) aNil)))) (eTup (aCons (eC (.str "told")) (aCons (eVar 3) aNil)))))
  (sSeq (sIf (bVal (eOp neD (eSaid "told" (refL cnsL) (eFn (callM m_rate_on 3 0 3 [(0, 0), (0, 1), (0, 2)] []) (aCons (eVar 0) (aCons (eVar 1) (aCons (eVar 2) aNil))) aNil)) (eVar 3))) (sRet (eC (.bl false))) sPass)
  (sRet (eOp eqD (eSaid "told" (refL cnsL) (eFn (callM m_rate_on 0 3 3 [(2, 0), (2, 2), (2, 1)] []) aNil (aCons (eVar 0) (aCons (eVar 2) (aCons (eVar 1) aNil))))) (eVar 3))))))
def m__law_right : Fn := fnM 4 b__law_right
def t__law_right_5 : ES := (sRet (eOp eqD (eSaid "told" (refL cnsL) (eFn (callM m_rate_on 0 3 3 [(2, 0), (2, 2), (2, 1)] []) aNil (aCons (eVar 0) (aCons (eVar 2) (aCons (eVar 1) aNil))))) (eVar 3)))
def t__law_right_3 : ES := (sSeq (sIf (bVal (eOp neD (eSaid "told" (refL cnsL) (eFn (callM m_rate_on 3 0 3 [(0, 0), (0, 1), (0, 2)] []) (aCons (eVar 0) (aCons (eVar 1) (aCons (eVar 2) aNil))) aNil)) (eVar 3))) (sRet (eC (.bl false))) sPass) t__law_right_5)
def t__law_right_2 : ES := (sSeq (sSet 3 (eIf (bVal (eOp isND (eVar 3) (eC .non))) (eTup (aCons (eC (.str "rate")) (aCons (eVar 1) (aCons (eVar 2) aNil)))) (eTup (aCons (eC (.str "told")) (aCons (eVar 3) aNil))))) t__law_right_3)
theorem x__law_right : b__law_right = (sSeq (sSet 3 (eFn (callM m__law_rate 3 0 3 [(0, 0), (0, 1), (0, 2)] []) (aCons (eVar 0) (aCons (eVar 1) (aCons (eVar 2) aNil))) aNil)) t__law_right_2) := rfl
def b__law_odd : ES :=
  (sSeq (sSet 1 (eLst (aCons (eC .non) (aCons (eC (.bl true)) (aCons (eC (.bl false)) (aCons (eC (.int 0)) (aCons (eUn negD (eC (.int 1))) (aCons (eC (.int 7)) (aCons (eC (.int 60)) (aCons (eOp addD (eOp powD (eC (.int 10)) (eC (.int 6))) (eC (.int 1))) (aCons (eOp powD (eC (.int 10)) (eC (.int 29))) (aCons (eC (.str "")) (aCons (eC (.str "meal")) (aCons (eC (.str "Meal")) (aCons (eC (.str "let")) (aCons (eTup aNil) (aCons (eLst aNil) (aCons (eC (.dct [])) (aCons (eTup (aCons (eC (.int 0)) aNil)) (aCons (eLst (aCons (eC (.int 0)) aNil)) aNil))))))))))))))))))))
  (sRet (eIdxB (eOp addD (eVar 1) (eLst (aCons (eTup (aCons (eC (.str "meal")) aNil)) (aCons (eC (dctC [(.inl 0, .int 1)])) aNil)))) (eFn (callM m__law_take 2 0 2 [(0, 0), (0, 1)] []) (aCons (eVar 0) (aCons (eC (.int 20)) aNil)) aNil))))
def m__law_odd : Fn := fnM 2 b__law_odd
def t__law_odd_2 : ES := (sRet (eIdxB (eOp addD (eVar 1) (eLst (aCons (eTup (aCons (eC (.str "meal")) aNil)) (aCons (eC (dctC [(.inl 0, .int 1)])) aNil)))) (eFn (callM m__law_take 2 0 2 [(0, 0), (0, 1)] []) (aCons (eVar 0) (aCons (eC (.int 20)) aNil)) aNil)))
theorem x__law_odd : b__law_odd = (sSeq (sSet 1 (eLst (aCons (eC .non) (aCons (eC (.bl true)) (aCons (eC (.bl false)) (aCons (eC (.int 0)) (aCons (eUn negD (eC (.int 1))) (aCons (eC (.int 7)) (aCons (eC (.int 60)) (aCons (eOp addD (eOp powD (eC (.int 10)) (eC (.int 6))) (eC (.int 1))) (aCons (eOp powD (eC (.int 10)) (eC (.int 29))) (aCons (eC (.str "")) (aCons (eC (.str "meal")) (aCons (eC (.str "Meal")) (aCons (eC (.str "let")) (aCons (eTup aNil) (aCons (eLst aNil) (aCons (eC (.dct [])) (aCons (eTup (aCons (eC (.int 0)) aNil)) (aCons (eLst (aCons (eC (.int 0)) aNil)) aNil)))))))))))))))))))) t__law_odd_2) := rfl
def b__law_bent : ES :=
  (sSeq (sPar2 3 4 (aCons (eFn (callM m__law_take 2 0 2 [(0, 0), (0, 1)] []) (aCons (eVar 0) (aCons (eOp addD (eB bLenA (aCons (eVar 1) aNil)) (eC (.int 1))) aNil)) aNil) (aCons (eFn (callM m__law_take 2 0 2 [(0, 0), (0, 1)] []) (aCons (eVar 0) (aCons (eC (.int 9)) aNil)) aNil) aNil)))
  (sSeq (sSet 2 (eLst (aCons (eTup (aCons (eC (.int 0)) (aCons (eC (.int 5)) (aCons (eC (.int 1)) (aCons (eC (.int 1)) aNil))))) (aCons (eTup (aCons (eC (.int 4)) (aCons (eC (.int 5)) (aCons (eC (.int 1)) (aCons (eC (.int 1)) aNil))))) (aCons (eTup (aCons (eC (.int 1)) (aCons (eC (.int 60)) (aCons (eC (.int 1)) (aCons (eC (.int 1)) aNil))))) (aCons (eTup (aCons (eC (.int 1)) (aCons (eC (.int 5)) (aCons (eC (.int 0)) (aCons (eC (.int 1)) aNil))))) (aCons (eTup (aCons (eC (.int 1)) (aCons (eC (.int 5)) (aCons (eC (.int 1)) (aCons (eC (.int 0)) aNil))))) (aCons (eTup (aCons (eC (.int 1)) (aCons (eC (.bl true)) (aCons (eC (.int 1)) (aCons (eC (.int 1)) aNil))))) aNil))))))))
  (sSeq (sSet 2 (eIdxB (eOp addD (eVar 2) (eLst (aCons (eTup (aCons (eC (.int 1)) (aCons (eC (.int 5)) (aCons (eC (.int 1)) aNil)))) (aCons (eLst (aCons (eC (.int 1)) (aCons (eC (.int 5)) (aCons (eC (.int 1)) (aCons (eC (.int 1)) aNil))))) (aCons (eTup (aCons (eC (.int 1)) (aCons (eC (.int 5)) (aCons (eOp addD (eOp powD (eC (.int 10)) (eC (.int 6))) (eC (.int 1))) (aCons (eC (.int 1)) aNil))))) (aCons (eC .non) (aCons (eTup (aCons (eC (.int 3)) (aCons (eC (.int 59)) (aCons (eC (.int 7)) (aCons (eC (.int 3)) aNil))))) aNil))))))) (eFn (callM m__law_take 2 0 2 [(0, 0), (0, 1)] []) (aCons (eVar 0) (aCons (eC (.int 11)) aNil)) aNil)))
  (sSeq (sIf (bVal (eOp ltA (eVar 4) (eC (.int 4)))) (sRet (eOp addD (eOp addD (eCut (eVar 1) oNone (oSome (eVar 3))) (eTup (aCons (eVar 2) aNil))) (eCut (eVar 1) (oSome (eVar 3)) oNone))) sPass)
  (sSeq (sIf (bVal (eOp eqD (eVar 4) (eC (.int 4)))) (sRet (eUn revT (eVar 1))) sPass)
  (sSeq (sIf (bVal (eOp eqD (eVar 4) (eC (.int 5)))) (sRet (eOp addD (eVar 1) (eCut (eVar 1) (oSome (eUn negD (eC (.int 1)))) oNone))) sPass)
  (sSeq (sIf (bVal (eOp eqD (eVar 4) (eC (.int 6)))) (sRet (eOp addD (eOp addD (eCut (eVar 1) oNone (oSome (eVar 3))) (eB bTuple (aCons (eLC [5] (itAny (eCut (eVar 1) oNone (oSome (eC (.int 1))))) (pName 5) bYes (eOp addD (eCut (eVar 5) oNone (oSome (eC (.int 2)))) (eTup (aCons (eOp addD (eOp modD (eIdxB (eVar 5) (eC (.int 2))) (eOp powD (eC (.int 10)) (eC (.int 6)))) (eC (.int 1))) (aCons (eIdxB (eVar 5) (eC (.int 3))) aNil))))) aNil))) (eCut (eVar 1) (oSome (eVar 3)) oNone))) sPass)
  (sRet (eIf (bVal (eOp eqD (eVar 4) (eC (.int 7)))) (eB bList (aCons (eVar 1) aNil)) (eFn (callM m__law_odd 1 0 1 [(0, 0)] []) (aCons (eVar 0) aNil) aNil))))))))))
def m__law_bent : Fn := fnM 6 b__law_bent
def t__law_bent_12 : ES := (sRet (eIf (bVal (eOp eqD (eVar 4) (eC (.int 7)))) (eB bList (aCons (eVar 1) aNil)) (eFn (callM m__law_odd 1 0 1 [(0, 0)] []) (aCons (eVar 0) aNil) aNil)))
def t__law_bent_10 : ES := (sSeq (sIf (bVal (eOp eqD (eVar 4) (eC (.int 6)))) (sRet (eOp addD (eOp addD (eCut (eVar 1) oNone (oSome (eVar 3))) (eB bTuple (aCons (eLC [5] (itAny (eCut (eVar 1) oNone (oSome (eC (.int 1))))) (pName 5) bYes (eOp addD (eCut (eVar 5) oNone (oSome (eC (.int 2)))) (eTup (aCons (eOp addD (eOp modD (eIdxB (eVar 5) (eC (.int 2))) (eOp powD (eC (.int 10)) (eC (.int 6)))) (eC (.int 1))) (aCons (eIdxB (eVar 5) (eC (.int 3))) aNil))))) aNil))) (eCut (eVar 1) (oSome (eVar 3)) oNone))) sPass) t__law_bent_12)
def t__law_bent_8 : ES := (sSeq (sIf (bVal (eOp eqD (eVar 4) (eC (.int 5)))) (sRet (eOp addD (eVar 1) (eCut (eVar 1) (oSome (eUn negD (eC (.int 1)))) oNone))) sPass) t__law_bent_10)
def t__law_bent_6 : ES := (sSeq (sIf (bVal (eOp eqD (eVar 4) (eC (.int 4)))) (sRet (eUn revT (eVar 1))) sPass) t__law_bent_8)
def t__law_bent_4 : ES := (sSeq (sIf (bVal (eOp ltA (eVar 4) (eC (.int 4)))) (sRet (eOp addD (eOp addD (eCut (eVar 1) oNone (oSome (eVar 3))) (eTup (aCons (eVar 2) aNil))) (eCut (eVar 1) (oSome (eVar 3)) oNone))) sPass) t__law_bent_6)
def t__law_bent_3 : ES := (sSeq (sSet 2 (eIdxB (eOp addD (eVar 2) (eLst (aCons (eTup (aCons (eC (.int 1)) (aCons (eC (.int 5)) (aCons (eC (.int 1)) aNil)))) (aCons (eLst (aCons (eC (.int 1)) (aCons (eC (.int 5)) (aCons (eC (.int 1)) (aCons (eC (.int 1)) aNil))))) (aCons (eTup (aCons (eC (.int 1)) (aCons (eC (.int 5)) (aCons (eOp addD (eOp powD (eC (.int 10)) (eC (.int 6))) (eC (.int 1))) (aCons (eC (.int 1)) aNil))))) (aCons (eC .non) (aCons (eTup (aCons (eC (.int 3)) (aCons (eC (.int 59)) (aCons (eC (.int 7)) (aCons (eC (.int 3)) aNil))))) aNil))))))) (eFn (callM m__law_take 2 0 2 [(0, 0), (0, 1)] []) (aCons (eVar 0) (aCons (eC (.int 11)) aNil)) aNil))) t__law_bent_4)
def t__law_bent_2 : ES := (sSeq (sSet 2 (eLst (aCons (eTup (aCons (eC (.int 0)) (aCons (eC (.int 5)) (aCons (eC (.int 1)) (aCons (eC (.int 1)) aNil))))) (aCons (eTup (aCons (eC (.int 4)) (aCons (eC (.int 5)) (aCons (eC (.int 1)) (aCons (eC (.int 1)) aNil))))) (aCons (eTup (aCons (eC (.int 1)) (aCons (eC (.int 60)) (aCons (eC (.int 1)) (aCons (eC (.int 1)) aNil))))) (aCons (eTup (aCons (eC (.int 1)) (aCons (eC (.int 5)) (aCons (eC (.int 0)) (aCons (eC (.int 1)) aNil))))) (aCons (eTup (aCons (eC (.int 1)) (aCons (eC (.int 5)) (aCons (eC (.int 1)) (aCons (eC (.int 0)) aNil))))) (aCons (eTup (aCons (eC (.int 1)) (aCons (eC (.bl true)) (aCons (eC (.int 1)) (aCons (eC (.int 1)) aNil))))) aNil)))))))) t__law_bent_3)
theorem x__law_bent : b__law_bent = (sSeq (sPar2 3 4 (aCons (eFn (callM m__law_take 2 0 2 [(0, 0), (0, 1)] []) (aCons (eVar 0) (aCons (eOp addD (eB bLenA (aCons (eVar 1) aNil)) (eC (.int 1))) aNil)) aNil) (aCons (eFn (callM m__law_take 2 0 2 [(0, 0), (0, 1)] []) (aCons (eVar 0) (aCons (eC (.int 9)) aNil)) aNil) aNil))) t__law_bent_2) := rfl
def b__law_odd_rates : ES :=
  (sSeq (sSet 0 (eLst (aCons (eTup (aCons (eC (.bl true)) (aCons (eC (.int 5)) (aCons (eC (.int 1)) (aCons (eC (.int 1)) aNil))))) (aCons (eTup (aCons (eC (.int 1)) (aCons (eC (.bl false)) (aCons (eC (.int 1)) (aCons (eC (.int 1)) aNil))))) (aCons (eTup (aCons (eC (.int 1)) (aCons (eC (.int 5)) (aCons (eC (.bl true)) (aCons (eC (.int 1)) aNil))))) (aCons (eTup (aCons (eC (.int 1)) (aCons (eC (.int 5)) (aCons (eC (.int 1)) (aCons (eC (.bl true)) aNil))))) (aCons (eTup (aCons (eUn negD (eC (.int 1))) (aCons (eC (.int 5)) (aCons (eC (.int 1)) (aCons (eC (.int 1)) aNil))))) (aCons (eTup (aCons (eC (.int 1)) (aCons (eUn negD (eC (.int 1))) (aCons (eC (.int 1)) (aCons (eC (.int 1)) aNil))))) aNil))))))))
  (sSeq (sSet 0 (eOp addD (eVar 0) (eLst (aCons (eTup (aCons (eC (.int 1)) (aCons (eC (.int 5)) (aCons (eUn negD (eC (.int 1))) (aCons (eC (.int 1)) aNil))))) (aCons (eTup (aCons (eC (.int 1)) (aCons (eC (.int 5)) (aCons (eC (.int 1)) (aCons (eUn negD (eC (.int 1))) aNil))))) (aCons (eTup (aCons (eC (.int 1)) (aCons (eC (.int 5)) (aCons (eC (.int 1)) (aCons (eOp addD (eOp powD (eC (.int 10)) (eC (.int 6))) (eC (.int 1))) aNil))))) (aCons (eTup (aCons (eC .non) (aCons (eC (.int 5)) (aCons (eC (.int 1)) (aCons (eC (.int 1)) aNil))))) (aCons (eTup (aCons (eC (.int 1)) (aCons (eC .non) (aCons (eC (.int 1)) (aCons (eC (.int 1)) aNil))))) aNil))))))))
  (sSeq (sSet 0 (eOp addD (eVar 0) (eLst (aCons (eTup (aCons (eC (.int 1)) (aCons (eC (.int 5)) (aCons (eC .non) (aCons (eC (.int 1)) aNil))))) (aCons (eTup (aCons (eC (.int 1)) (aCons (eC (.int 5)) (aCons (eC (.int 1)) (aCons (eC .non) aNil))))) (aCons (eTup (aCons (eC (.int 1)) (aCons (eC (.str "5")) (aCons (eC (.int 1)) (aCons (eC (.int 1)) aNil))))) (aCons (eTup (aCons (eLst (aCons (eC (.int 1)) aNil)) (aCons (eC (.int 5)) (aCons (eC (.int 1)) (aCons (eC (.int 1)) aNil))))) (aCons (eTup (aCons (eC (.int 1)) (aCons (eLst (aCons (eC (.int 5)) aNil)) (aCons (eC (.int 1)) (aCons (eC (.int 1)) aNil))))) (aCons (eTup aNil) aNil)))))))))
  (sRet (eLC [1] (itAny (eVar 0)) (pName 1) bYes (eTup (aCons (eVar 1) aNil)))))))
def m__law_odd_rates : Fn := fnM 2 b__law_odd_rates
def t__law_odd_rates_4 : ES := (sRet (eLC [1] (itAny (eVar 0)) (pName 1) bYes (eTup (aCons (eVar 1) aNil))))
def t__law_odd_rates_3 : ES := (sSeq (sSet 0 (eOp addD (eVar 0) (eLst (aCons (eTup (aCons (eC (.int 1)) (aCons (eC (.int 5)) (aCons (eC .non) (aCons (eC (.int 1)) aNil))))) (aCons (eTup (aCons (eC (.int 1)) (aCons (eC (.int 5)) (aCons (eC (.int 1)) (aCons (eC .non) aNil))))) (aCons (eTup (aCons (eC (.int 1)) (aCons (eC (.str "5")) (aCons (eC (.int 1)) (aCons (eC (.int 1)) aNil))))) (aCons (eTup (aCons (eLst (aCons (eC (.int 1)) aNil)) (aCons (eC (.int 5)) (aCons (eC (.int 1)) (aCons (eC (.int 1)) aNil))))) (aCons (eTup (aCons (eC (.int 1)) (aCons (eLst (aCons (eC (.int 5)) aNil)) (aCons (eC (.int 1)) (aCons (eC (.int 1)) aNil))))) (aCons (eTup aNil) aNil))))))))) t__law_odd_rates_4)
def t__law_odd_rates_2 : ES := (sSeq (sSet 0 (eOp addD (eVar 0) (eLst (aCons (eTup (aCons (eC (.int 1)) (aCons (eC (.int 5)) (aCons (eUn negD (eC (.int 1))) (aCons (eC (.int 1)) aNil))))) (aCons (eTup (aCons (eC (.int 1)) (aCons (eC (.int 5)) (aCons (eC (.int 1)) (aCons (eUn negD (eC (.int 1))) aNil))))) (aCons (eTup (aCons (eC (.int 1)) (aCons (eC (.int 5)) (aCons (eC (.int 1)) (aCons (eOp addD (eOp powD (eC (.int 10)) (eC (.int 6))) (eC (.int 1))) aNil))))) (aCons (eTup (aCons (eC .non) (aCons (eC (.int 5)) (aCons (eC (.int 1)) (aCons (eC (.int 1)) aNil))))) (aCons (eTup (aCons (eC (.int 1)) (aCons (eC .non) (aCons (eC (.int 1)) (aCons (eC (.int 1)) aNil))))) aNil)))))))) t__law_odd_rates_3)
theorem x__law_odd_rates : b__law_odd_rates = (sSeq (sSet 0 (eLst (aCons (eTup (aCons (eC (.bl true)) (aCons (eC (.int 5)) (aCons (eC (.int 1)) (aCons (eC (.int 1)) aNil))))) (aCons (eTup (aCons (eC (.int 1)) (aCons (eC (.bl false)) (aCons (eC (.int 1)) (aCons (eC (.int 1)) aNil))))) (aCons (eTup (aCons (eC (.int 1)) (aCons (eC (.int 5)) (aCons (eC (.bl true)) (aCons (eC (.int 1)) aNil))))) (aCons (eTup (aCons (eC (.int 1)) (aCons (eC (.int 5)) (aCons (eC (.int 1)) (aCons (eC (.bl true)) aNil))))) (aCons (eTup (aCons (eUn negD (eC (.int 1))) (aCons (eC (.int 5)) (aCons (eC (.int 1)) (aCons (eC (.int 1)) aNil))))) (aCons (eTup (aCons (eC (.int 1)) (aCons (eUn negD (eC (.int 1))) (aCons (eC (.int 1)) (aCons (eC (.int 1)) aNil))))) aNil)))))))) t__law_odd_rates_2) := rfl
def b__law_whole : ES :=
  (sRet (eAnd (eIsI tysL (.b "int") (eVar 0)) (eAnd (eNot (eIsI tysL (.b "bool") (eVar 0))) (eChain leD leD (eVar 1) (eVar 0) (eVar 2)))))
def m__law_whole : Fn := fnM 3 b__law_whole
def b__law_are : ES :=
  (sSeq (sIf (bOr (bNot (bVal (eIsI tysL (.b "tuple") (eVar 0)))) (bVal (eOp gtD (eB bLenA (aCons (eVar 0) aNil)) (eC (.int 12))))) (sRet (eC (.bl false))) sPass)
  (sSeq (sFor (itAny (eVar 0)) (pName 1) (sSeq (sIf (bOr (bNot (bVal (eIsI tysL (.b "tuple") (eVar 1)))) (bOr (bVal (eOp neD (eB bLenA (aCons (eVar 1) aNil)) (eC (.int 4)))) (bOr (bNot (bVal (eFn (callM m__law_whole 3 0 3 [(0, 0), (0, 1), (0, 2)] []) (aCons (eIdxB (eVar 1) (eC (.int 0))) (aCons (eC (.int 1)) (aCons (eC (.int 3)) aNil))) aNil))) (bNot (bVal (eFn (callM m__law_whole 3 0 3 [(0, 0), (0, 1), (0, 2)] []) (aCons (eIdxB (eVar 1) (eC (.int 1))) (aCons (eC (.int 0)) (aCons (eC (.int 59)) aNil))) aNil)))))) (sRet (eC (.bl false))) sPass)
  (sIf (bOr (bNot (bVal (eFn (callM m__law_whole 3 0 3 [(0, 0), (0, 1), (0, 2)] []) (aCons (eIdxB (eVar 1) (eC (.int 2))) (aCons (eC (.int 1)) (aCons (eOp powD (eC (.int 10)) (eC (.int 6))) aNil))) aNil))) (bNot (bVal (eFn (callM m__law_whole 3 0 3 [(0, 0), (0, 1), (0, 2)] []) (aCons (eIdxB (eVar 1) (eC (.int 3))) (aCons (eC (.int 1)) (aCons (eOp powD (eC (.int 10)) (eC (.int 6))) aNil))) aNil)))) (sRet (eC (.bl false))) sPass)))
  (sSeq (sSet 2 (eLC [1] (itAny (eVar 0)) (pName 1) bYes (eCut (eVar 1) oNone (oSome (eC (.int 2))))))
  (sRet (eOp eqD (eVar 2) (eSortSetP (eVar 2)))))))
def m__law_are : Fn := fnM 3 b__law_are
def t__law_are_6 : ES := (sIf (bOr (bNot (bVal (eFn (callM m__law_whole 3 0 3 [(0, 0), (0, 1), (0, 2)] []) (aCons (eIdxB (eVar 1) (eC (.int 2))) (aCons (eC (.int 1)) (aCons (eOp powD (eC (.int 10)) (eC (.int 6))) aNil))) aNil))) (bNot (bVal (eFn (callM m__law_whole 3 0 3 [(0, 0), (0, 1), (0, 2)] []) (aCons (eIdxB (eVar 1) (eC (.int 3))) (aCons (eC (.int 1)) (aCons (eOp powD (eC (.int 10)) (eC (.int 6))) aNil))) aNil)))) (sRet (eC (.bl false))) sPass)
def t__law_are_4 : ES := (sSeq (sIf (bOr (bNot (bVal (eIsI tysL (.b "tuple") (eVar 1)))) (bOr (bVal (eOp neD (eB bLenA (aCons (eVar 1) aNil)) (eC (.int 4)))) (bOr (bNot (bVal (eFn (callM m__law_whole 3 0 3 [(0, 0), (0, 1), (0, 2)] []) (aCons (eIdxB (eVar 1) (eC (.int 0))) (aCons (eC (.int 1)) (aCons (eC (.int 3)) aNil))) aNil))) (bNot (bVal (eFn (callM m__law_whole 3 0 3 [(0, 0), (0, 1), (0, 2)] []) (aCons (eIdxB (eVar 1) (eC (.int 1))) (aCons (eC (.int 0)) (aCons (eC (.int 59)) aNil))) aNil)))))) (sRet (eC (.bl false))) sPass) t__law_are_6)
def t__law_are_9 : ES := (sRet (eOp eqD (eVar 2) (eSortSetP (eVar 2))))
def t__law_are_8 : ES := (sSeq (sSet 2 (eLC [1] (itAny (eVar 0)) (pName 1) bYes (eCut (eVar 1) oNone (oSome (eC (.int 2)))))) t__law_are_9)
def t__law_are_3 : ES := (sSeq (sFor (itAny (eVar 0)) (pName 1) t__law_are_4) t__law_are_8)
theorem x__law_are : b__law_are = (sSeq (sIf (bOr (bNot (bVal (eIsI tysL (.b "tuple") (eVar 0)))) (bVal (eOp gtD (eB bLenA (aCons (eVar 0) aNil)) (eC (.int 12))))) (sRet (eC (.bl false))) sPass) t__law_are_3) := rfl
def b_share_by : ES :=
  (sSeq (sUnp (pTup (pCons (pName 3) (pCons (pName 4) pNil))) (eFn (callM m_rate_by 3 0 3 [(0, 0), (0, 1), (0, 2)] []) (aCons (eVar 1) (aCons (eAttr cf ["Spending"] "money" (eVar 0)) (aCons (eAttr cf ["Spending"] "day" (eVar 0)) aNil))) aNil))
  (sSeq (sSet 2 (eOp mulD (eVar 4) (eAttr cf ["Spending"] "heads" (eVar 0))))
  (sRet (eOp fdivD (eOp addD (eOp mulD (eOp mulD (eC (.int 2)) (eAttr cf ["Spending"] "amount" (eVar 0))) (eVar 3)) (eVar 2)) (eOp mulD (eC (.int 2)) (eVar 2))))))
def m_share_by : Fn := fnM 5 b_share_by
def b_share_of : ES :=
  (sSeq (sSet 2 (eIf (bVal (eOp isND (eVar 1) (eC .non))) (eTup aNil) (eVar 1)))
  (sSeq (sExpr (eFn (callM m_need_rates 1 0 1 [(0, 0)] []) (aCons (eVar 2) aNil) aNil))
  (sRet (eFn (callM m_share_by 2 0 2 [(0, 0), (0, 1)] []) (aCons (eVar 0) (aCons (eVar 2) aNil)) aNil))))
def m_share_of : Fn := fnM 3 b_share_of
def b_is_kind : ES :=
  (sRet (eAnd (eIsI tysL (.b "str") (eVar 0)) (eOp inD (eVar 0) (eC (.tup [.str "bed", .str "fee", .str "meal", .str "ride", .str "sundry"])))))
def m_is_kind : Fn := fnM 1 b_is_kind
def b_Spending_init : ES :=
  (sSeq (sIf (bNot (bVal (eFn (callM m_is_kind 1 0 1 [(0, 0)] []) (aCons (eVar 1) aNil) aNil))) sBad sPass)
  (sSeq (sIf (bNot (bVal (eFn (callM m_is_whole 3 0 3 [(0, 0), (0, 1), (0, 2)] []) (aCons (eVar 2) (aCons (eC (.int 1)) (aCons (eC (.int 1000000)) aNil))) aNil))) sBad sPass)
  (sSeq (sIf (bNot (bVal (eFn (callM m_is_whole 3 0 3 [(0, 0), (0, 1), (0, 2)] []) (aCons (eVar 3) (aCons (eC (.int 0)) (aCons (eC (.int 59)) aNil))) aNil))) sBad sPass)
  (sSeq (sIf (bNot (bVal (eIsI tysL (.b "bool") (eVar 4)))) sBad sPass)
  (sSeq (sIf (bVal (eFn (callM m_is_whole 3 0 3 [(0, 0), (0, 1), (0, 2)] []) (aCons (eVar 5) (aCons (eC (.int 0)) (aCons (eC (.int 0)) aNil))) aNil)) sBad sPass)
  (sSeq (sIf (bNot (bVal (eFn (callM m_is_whole 3 0 3 [(0, 0), (0, 1), (0, 2)] []) (aCons (eVar 5) (aCons (eC (.int 1)) (aCons (eC (.int 6)) aNil))) aNil))) sBad sPass)
  (sSeq (sIf (bNot (bVal (eFn (callM m_is_whole 3 0 3 [(0, 0), (0, 1), (0, 2)] []) (aCons (eVar 6) (aCons (eC (.int 0)) (aCons (eC (.int 3)) aNil))) aNil))) sBad sPass)
  (sSeq (sSetAttr ["Spending"] "kind" (eVar 0) (eVar 1))
  (sSeq (sSetAttr ["Spending"] "amount" (eVar 0) (eVar 2))
  (sSeq (sSetAttr ["Spending"] "day" (eVar 0) (eVar 3))
  (sSeq (sSetAttr ["Spending"] "paper" (eVar 0) (eVar 4))
  (sSeq (sSetAttr ["Spending"] "heads" (eVar 0) (eVar 5))
  (sSetAttr ["Spending"] "money" (eVar 0) (eVar 6))))))))))))))
def m_Spending_init : Fn := fnM 7 b_Spending_init
def b_law : ES :=
  (sSeq (sFor (itR1 (aCons (eB bMax2 (aCons (eC (.int 1)) (aCons (eB bMin2 (aCons (eB bLenA (aCons (eVar 0) aNil)) (aCons (eC (.int 4)) aNil))) aNil))) aNil)) (pName 1) (sSeq (sSet 2 (eFn (callM m__law_box 2 0 2 [(0, 0), (0, 1)] []) (aCons (eVar 0) (aCons (eVar 1) aNil)) aNil))
  (sSeq (sSet 3 (eFn (callM m__law_rates 1 0 1 [(0, 0)] []) (aCons (eVar 2) aNil) aNil))
  (sSeq (sSet 4 (eB bReprX (aCons (eVar 3) aNil)))
  (sSeq (sSet 5 (eOp addD (eLst (aCons (eC (.int 0)) (aCons (eC (.int 59)) (aCons (eFn (callM m__law_take 2 0 2 [(0, 0), (0, 1)] []) (aCons (eVar 2) (aCons (eC (.int 60)) aNil)) aNil) aNil)))) (eLC [12] (itAny (eVar 3)) (pName 12) bYes (eIdxB (eVar 12) (eC (.int 1))))))
  (sSeq (sFor (itAny (eOp addD (eVar 5) (eLC [12] (itAny (eCut (eVar 3) oNone (oSome (eC (.int 4))))) (pName 12) bYes (eB bMax2 (aCons (eC (.int 0)) (aCons (eOp subD (eIdxB (eVar 12) (eC (.int 1))) (eC (.int 1))) aNil)))))) (pName 6) (sFor (itR1 (aCons (eC (.int 4)) aNil)) (pName 9) (sIf (bNot (bVal (eFn (callM m__law_right 3 0 3 [(0, 0), (0, 1), (0, 2)] []) (aCons (eVar 3) (aCons (eVar 9) (aCons (eVar 6) aNil))) aNil))) (sRet (eC (.bl false))) sPass)))
  (sSeq (sIf (bVal (eOp neD (eB bReprX (aCons (eVar 3) aNil)) (eVar 4))) (sRet (eC (.bl false))) sPass)
  (sSeq (sSet 7 (eOp addD (eLC [13] (itR1 (aCons (eC (.int 14)) aNil)) (pName 13) bYes (eFn (callM m__law_bent 2 0 2 [(0, 0), (0, 1)] []) (aCons (eVar 2) (aCons (eVar 3) aNil)) aNil)) (eLst (aCons (eCut (eOp mulR0 (eVar 3) (eC (.int 13))) oNone (oSome (eC (.int 13)))) (aCons (eOp mulR (eTup (aCons (eTup (aCons (eC (.int 1)) (aCons (eC (.int 0)) (aCons (eC (.int 2)) (aCons (eC (.int 3)) aNil))))) aNil)) (eC (.int 2))) aNil)))))
  (sFor (itAny (eOp addD (eVar 7) (eFn (callM m__law_odd_rates 0 0 0 [] []) aNil aNil))) (pName 8) (sSeq (sPar2 4 11 (aCons (eB bReprX (aCons (eVar 8) aNil)) (aCons (eFn (callM m__law_are 1 0 1 [(0, 0)] []) (aCons (eVar 8) aNil) aNil) aNil)))
  (sSeq (sSet 10 (eLstM (aCons (eIdxB (eSaid "told" (refL cnsL) (eFn (callM m_rate_on 3 0 3 [(0, 0), (0, 1), (0, 2)] []) (aCons (eVar 8) (aCons (eC (.int 3)) (aCons (eC (.int 0)) aNil))) aNil)) (eC (.int 0))) aNil)))
  (sSeq (sIf (bVal (eOp notND (eVar 8) (eC .non))) (sExpr (eApp (eVar 10) (eIdxB (eSaid "told" (refL cnsL) (eFn (callM m_share_of 2 0 2 [(0, 0), (0, 1)] [.non]) (aCons (eFrz cf (eFn (newM "Spending" (callM m_Spending_init 3 1 7 [(0, 0), (0, 1), (0, 2), (1, 0), (1, 1), (1, 2), (2, 0)] [.int 0, .bl true, .int 1, .int 0])) (aCons (eC (.str "meal")) (aCons (eC (.int 7)) aNil)) (aCons (eC (.int 3)) aNil))) (aCons (eVar 8) aNil)) aNil)) (eC (.int 0))))) sPass)
  (sIf (bOr (bVal (eOp eqD (eVar 11) (eOpS inS (eC (.str "rates")) (eVar 10)))) (bOr (bVal (eOp neD (eIdxB (eVar 10) (eC (.int 0))) (eIdxB (eVar 10) (eUn negD (eC (.int 1)))))) (bVal (eOp neD (eB bReprX (aCons (eVar 8) aNil)) (eVar 4))))) (sRet (eC (.bl false))) sPass)))))))))))))
  (sRet (eC (.bl true))))
def m_law : Fn := fnM 14 b_law
def t_law_8 : ES := (sIf (bNot (bVal (eFn (callM m__law_right 3 0 3 [(0, 0), (0, 1), (0, 2)] []) (aCons (eVar 3) (aCons (eVar 9) (aCons (eVar 6) aNil))) aNil))) (sRet (eC (.bl false))) sPass)
def t_law_7 : ES := (sFor (itR1 (aCons (eC (.int 4)) aNil)) (pName 9) t_law_8)
def t_law_18 : ES := (sIf (bOr (bVal (eOp eqD (eVar 11) (eOpS inS (eC (.str "rates")) (eVar 10)))) (bOr (bVal (eOp neD (eIdxB (eVar 10) (eC (.int 0))) (eIdxB (eVar 10) (eUn negD (eC (.int 1)))))) (bVal (eOp neD (eB bReprX (aCons (eVar 8) aNil)) (eVar 4))))) (sRet (eC (.bl false))) sPass)
def t_law_16 : ES := (sSeq (sIf (bVal (eOp notND (eVar 8) (eC .non))) (sExpr (eApp (eVar 10) (eIdxB (eSaid "told" (refL cnsL) (eFn (callM m_share_of 2 0 2 [(0, 0), (0, 1)] [.non]) (aCons (eFrz cf (eFn (newM "Spending" (callM m_Spending_init 3 1 7 [(0, 0), (0, 1), (0, 2), (1, 0), (1, 1), (1, 2), (2, 0)] [.int 0, .bl true, .int 1, .int 0])) (aCons (eC (.str "meal")) (aCons (eC (.int 7)) aNil)) (aCons (eC (.int 3)) aNil))) (aCons (eVar 8) aNil)) aNil)) (eC (.int 0))))) sPass) t_law_18)
def t_law_15 : ES := (sSeq (sSet 10 (eLstM (aCons (eIdxB (eSaid "told" (refL cnsL) (eFn (callM m_rate_on 3 0 3 [(0, 0), (0, 1), (0, 2)] []) (aCons (eVar 8) (aCons (eC (.int 3)) (aCons (eC (.int 0)) aNil))) aNil)) (eC (.int 0))) aNil))) t_law_16)
def t_law_14 : ES := (sSeq (sPar2 4 11 (aCons (eB bReprX (aCons (eVar 8) aNil)) (aCons (eFn (callM m__law_are 1 0 1 [(0, 0)] []) (aCons (eVar 8) aNil) aNil) aNil))) t_law_15)
def t_law_13 : ES := (sFor (itAny (eOp addD (eVar 7) (eFn (callM m__law_odd_rates 0 0 0 [] []) aNil aNil))) (pName 8) t_law_14)
def t_law_12 : ES := (sSeq (sSet 7 (eOp addD (eLC [13] (itR1 (aCons (eC (.int 14)) aNil)) (pName 13) bYes (eFn (callM m__law_bent 2 0 2 [(0, 0), (0, 1)] []) (aCons (eVar 2) (aCons (eVar 3) aNil)) aNil)) (eLst (aCons (eCut (eOp mulR0 (eVar 3) (eC (.int 13))) oNone (oSome (eC (.int 13)))) (aCons (eOp mulR (eTup (aCons (eTup (aCons (eC (.int 1)) (aCons (eC (.int 0)) (aCons (eC (.int 2)) (aCons (eC (.int 3)) aNil))))) aNil)) (eC (.int 2))) aNil))))) t_law_13)
def t_law_10 : ES := (sSeq (sIf (bVal (eOp neD (eB bReprX (aCons (eVar 3) aNil)) (eVar 4))) (sRet (eC (.bl false))) sPass) t_law_12)
def t_law_6 : ES := (sSeq (sFor (itAny (eOp addD (eVar 5) (eLC [12] (itAny (eCut (eVar 3) oNone (oSome (eC (.int 4))))) (pName 12) bYes (eB bMax2 (aCons (eC (.int 0)) (aCons (eOp subD (eIdxB (eVar 12) (eC (.int 1))) (eC (.int 1))) aNil)))))) (pName 6) t_law_7) t_law_10)
def t_law_5 : ES := (sSeq (sSet 5 (eOp addD (eLst (aCons (eC (.int 0)) (aCons (eC (.int 59)) (aCons (eFn (callM m__law_take 2 0 2 [(0, 0), (0, 1)] []) (aCons (eVar 2) (aCons (eC (.int 60)) aNil)) aNil) aNil)))) (eLC [12] (itAny (eVar 3)) (pName 12) bYes (eIdxB (eVar 12) (eC (.int 1)))))) t_law_6)
def t_law_4 : ES := (sSeq (sSet 4 (eB bReprX (aCons (eVar 3) aNil))) t_law_5)
def t_law_3 : ES := (sSeq (sSet 3 (eFn (callM m__law_rates 1 0 1 [(0, 0)] []) (aCons (eVar 2) aNil) aNil)) t_law_4)
def t_law_2 : ES := (sSeq (sSet 2 (eFn (callM m__law_box 2 0 2 [(0, 0), (0, 1)] []) (aCons (eVar 0) (aCons (eVar 1) aNil)) aNil)) t_law_3)
def t_law_20 : ES := (sRet (eC (.bl true)))
theorem x_law : b_law = (sSeq (sFor (itR1 (aCons (eB bMax2 (aCons (eC (.int 1)) (aCons (eB bMin2 (aCons (eB bLenA (aCons (eVar 0) aNil)) (aCons (eC (.int 4)) aNil))) aNil))) aNil)) (pName 1) t_law_2) t_law_20) := rfl
def top (i : Nat) : Stmt := (PySem.Challenge.pw_roadpence_k04_rates_of_days).main.body.getD i (.Pass ⟨0, 0, 0, 0⟩)
def clsBody : Stmt → List Stmt
  | .ClassDef _ _ _ b _ _ _ _ _ _ _ => b
  | _ => []
abbrev meth (i j : Nat) : Stmt := (clsBody (top i)).getD j (.Pass ⟨0, 0, 0, 0⟩)
def d__law_box : He.DefD := ⟨("_law_box", none), "_law_box", "_law_box", defArgs (top 41), defBody (top 41), defScope (top 41), [], []⟩
def d__law_more : He.DefD := ⟨("_law_more", none), "_law_more", "_law_more", defArgs (top 42), defBody (top 42), defScope (top 42), [], []⟩
def d__law_take : He.DefD := ⟨("_law_take", none), "_law_take", "_law_take", defArgs (top 43), defBody (top 43), defScope (top 43), [], []⟩
def d__law_rates : He.DefD := ⟨("_law_rates", none), "_law_rates", "_law_rates", defArgs (top 49), defBody (top 49), defScope (top 49), [], []⟩
def d__law_rate : He.DefD := ⟨("_law_rate", none), "_law_rate", "_law_rate", defArgs (top 50), defBody (top 50), defScope (top 50), [], []⟩
def d__law_family : He.DefD := ⟨("_law_family", none), "_law_family", "_law_family", defArgs (top 44), defBody (top 44), defScope (top 44), [], []⟩
def d__law_word : He.DefD := ⟨("_law_word", none), "_law_word", "_law_word", defArgs (top 45), defBody (top 45), defScope (top 45), [], []⟩
def d__law_said : He.DefD := ⟨("_law_said", none), "_law_said", "_law_said", defArgs (top 46), defBody (top 46), defScope (top 46), [], []⟩
def d_is_whole : He.DefD := ⟨("is_whole", none), "is_whole", "is_whole", defArgs (top 27), defBody (top 27), defScope (top 27), [], []⟩
def d_is_rate : He.DefD := ⟨("is_rate", none), "is_rate", "is_rate", defArgs (top 34), defBody (top 34), defScope (top 34), [], []⟩
def d_need_rates : He.DefD := ⟨("need_rates", none), "need_rates", "need_rates", defArgs (top 35), defBody (top 35), defScope (top 35), [], []⟩
def d_NoRate_init : He.DefD := ⟨("NoRate", some "__init__"), "__init__", "NoRate.__init__", defArgs (meth 17 0), defBody (meth 17 0), defScope (meth 17 0), [], []⟩
def d_rate_by : He.DefD := ⟨("rate_by", none), "rate_by", "rate_by", defArgs (top 36), defBody (top 36), defScope (top 36), [], []⟩
def d_rate_on : He.DefD := ⟨("rate_on", none), "rate_on", "rate_on", defArgs (top 37), defBody (top 37), defScope (top 37), [], []⟩
def d__law_right : He.DefD := ⟨("_law_right", none), "_law_right", "_law_right", defArgs (top 54), defBody (top 54), defScope (top 54), [], []⟩
def d__law_odd : He.DefD := ⟨("_law_odd", none), "_law_odd", "_law_odd", defArgs (top 47), defBody (top 47), defScope (top 47), [], []⟩
def d__law_bent : He.DefD := ⟨("_law_bent", none), "_law_bent", "_law_bent", defArgs (top 52), defBody (top 52), defScope (top 52), [], []⟩
def d__law_odd_rates : He.DefD := ⟨("_law_odd_rates", none), "_law_odd_rates", "_law_odd_rates", defArgs (top 53), defBody (top 53), defScope (top 53), [], []⟩
def d__law_whole : He.DefD := ⟨("_law_whole", none), "_law_whole", "_law_whole", defArgs (top 48), defBody (top 48), defScope (top 48), [], []⟩
def d__law_are : He.DefD := ⟨("_law_are", none), "_law_are", "_law_are", defArgs (top 51), defBody (top 51), defScope (top 51), [], []⟩
def d_share_by : He.DefD := ⟨("share_by", none), "share_by", "share_by", defArgs (top 38), defBody (top 38), defScope (top 38), [], []⟩
def d_share_of : He.DefD := ⟨("share_of", none), "share_of", "share_of", defArgs (top 39), defBody (top 39), defScope (top 39), [.non], []⟩
def d_is_kind : He.DefD := ⟨("is_kind", none), "is_kind", "is_kind", defArgs (top 28), defBody (top 28), defScope (top 28), [], []⟩
def d_Spending_init : He.DefD := ⟨("Spending", some "__init__"), "__init__", "Spending.__init__", defArgs (meth 30 0), defBody (meth 30 0), defScope (meth 30 0), [.int 0, .bl true, .int 1, .int 0], []⟩
def d_law : He.DefD := ⟨("law", none), "law", "law", defArgs (top 55), defBody (top 55), defScope (top 55), [], []⟩
def lw : Lw where
  glo := ["Absent", "KINDS", "NoBook", "NoDay", "NoHeads", "NoJourney", "NoLine", "NoName", "NoPlace", "NoRate", "NoRates", "NoRule", "NoShare", "NoSpending", "NoSpot", "NoTable", "NoText", "Nothing", "PenceError", "Spending", "TooMany", "_law_are", "_law_bent", "_law_box", "_law_family", "_law_more", "_law_odd", "_law_odd_rates", "_law_rate", "_law_rates", "_law_right", "_law_said", "_law_take", "_law_whole", "_law_word", "is_kind", "is_rate", "is_whole", "law", "need_rates", "rate_by", "rate_on", "share_by", "share_of"]
  free := ["IndexError", "KeyError", "LookupError", "ValueError", "ZeroDivisionError", "abs", "all", "bool", "divmod", "int", "isinstance", "len", "list", "max", "min", "range", "repr", "set", "sorted", "str", "tuple", "zip"]
  gins := [("LAST_DAY", 59), ("LAST_MONEY", 3), ("MOST_AMOUNT", 1000000), ("MOST_HEADS", 6), ("MOST_PART", 1000000), ("MOST_RATES", 12)]
  cls := ["Spending"]
  noat := [("Spending", "amount"), ("Spending", "day"), ("Spending", "heads"), ("Spending", "kind"), ("Spending", "money"), ("Spending", "paper")]
  meth := []
  mkr := ["Spending"]
  isi := ["Spending"]
  kit := [(.b "NoneType", .b "bool"), (.b "NoneType", .b "int"), (.b "NoneType", .b "str"), (.b "NoneType", .b "tuple"), (.b "bool", .b "bool"), (.b "bool", .b "int"), (.b "bool", .b "str"), (.b "bool", .b "tuple"), (.b "dict", .b "bool"), (.b "dict", .b "int"), (.b "dict", .b "str"), (.b "dict", .b "tuple"), (.b "int", .b "bool"), (.b "int", .b "int"), (.b "int", .b "str"), (.b "int", .b "tuple"), (.b "list", .b "bool"), (.b "list", .b "int"), (.b "list", .b "str"), (.b "list", .b "tuple"), (.b "str", .b "bool"), (.b "str", .b "int"), (.b "str", .b "str"), (.b "str", .b "tuple"), (.b "tuple", .b "bool"), (.b "tuple", .b "int"), (.b "tuple", .b "str"), (.b "tuple", .b "tuple"), (.o "Spending", .b "bool"), (.o "Spending", .b "int"), (.o "Spending", .b "str"), (.o "Spending", .b "tuple")]
  tups := [("KINDS", [.str "bed", .str "fee", .str "meal", .str "ride", .str "sundry"])]
  defs := [d__law_box, d__law_more, d__law_take, d__law_rates, d__law_rate, d__law_family, d__law_word, d__law_said, d_is_whole, d_is_rate, d_need_rates, d_NoRate_init, d_rate_by, d_rate_on, d__law_right, d__law_odd, d__law_bent, d__law_odd_rates, d__law_whole, d__law_are, d_share_by, d_share_of, d_is_kind, d_Spending_init, d_law]
  bs := [xiB "NoRate" btLE "LookupError.__new__" ["money", "day"], initIsB (.type "LookupError") "LookupError.__init__", fun K => cnsL.all fun cn => (cf cn).isEmpty || xfB K (He.ga K (cn : PySem.Str)), fun K => cnsL.all fun cn => (cf cn).all fun f => decide (PySem.W.findIn K (.ref (He.ga K (cn : PySem.Str))) (f : PySem.Str) = some none)]
  fas := [.exc "NoRates", .exm "NoRates" "PenceError" true, .exm "NoRate" "PenceError" false, .exm "NoRate" "NoHeads" false, .exm "NoRate" "NoName" false, .exm "NoRate" "NoDay" false, .exm "NoRate" "NoRate" true]
  exk := cnsL
  kix := cnsL.flatMap fun cn => tyX.map fun t => (cn, t, isx cn t)
  tf := [(("_law_right", none), "_law_right.<locals>."), (("law", none), "law.<locals>.")]
section
variable {T : Tb} {P : Program} {w : World} {mg : Str → Option Value} {base : Heap}
theorem He_exc (F : Fx T mg lw) (i : Nat) {f : He.Fa} (h : lw.fas[i]? = some f := by rfl) : f.ok T.K = true := F.fa i h
theorem xkX (F : Fx T mg lw) (cn : String) (hcn : cn ∈ cnsL) : ExC T.K (He.ga T.K (cn : PySem.Str)) := F.exk cn hcn
theorem kxX (F : Fx T mg lw) (cn : String) (hcn : cn ∈ cnsL) (t : Ty) (ht : t ∈ tyX := by decide +kernel) : PySem.W.kitOne T.K (.ref (He.ga T.K (cn : PySem.Str))) (tyV' T.K t) = some (isx cn t) := F.kix (cn, t, isx cn t) (List.mem_flatMap.mpr ⟨cn, hcn, List.mem_map.mpr ⟨t, ht, rfl⟩⟩)
theorem xfX (F : Fx T mg lw) (cn : String) (hcn : cn ∈ cnsL) (fn : String) (hm : fn ∈ cf cn) : XfC T.K (He.ga T.K (cn : PySem.Str)) ∧ PySem.W.findIn T.K (.ref (He.ga T.K (cn : PySem.Str))) (fn : PySem.Str) = some none := by
  have h1 := List.all_eq_true.mp (F.b 2) cn hcn
  have h2 := List.all_eq_true.mp (List.all_eq_true.mp (F.b 3) cn hcn) fn hm
  refine ⟨xfB_ok ((Bool.or_eq_true_iff.mp h1).resolve_left fun z => ?_), of_decide_eq_true h2⟩
  rw [List.isEmpty_iff.mp z] at hm
  cases hm
theorem nd__law_box : (["_law_script", "_law_k", "_law_here", "_law_number", "_law_j", "_law_piece"] : List Str).Nodup := by decide +kernel
theorem sc__law_box : FnScope ["_law_script", "_law_k", "_law_here", "_law_number", "_law_j", "_law_piece"] ["_law_script", "_law_k"] d__law_box.scope := ⟨rfl, rfl, rfl, nd__law_box, rfl, by decide +kernel, by decide +kernel⟩
theorem ok__law_box (F : Fx T mg lw) (hcf : T.cf = cf) (hx0 : T.xc = none) (hT : T.tabs = tabsOf T.K lw.tf) (TB : TabsB T.K mg base (lw.tf.map (·.1))) : OkF T P w mg base 1 d__law_box ["_law_script", "_law_k"] m__law_box := by
  obtain ⟨fd, FD⟩ := F.defs 0 d__law_box rfl
  refine OkF.mk' (N := ["_law_script", "_law_k", "_law_here", "_law_number", "_law_j", "_law_piece"]) FD sc__law_box fun cdv A outer s H E hr => ?_
  show ISs T E _ (defBody (top 41)) b__law_box
  exact (is_cons (is_st 2 nd__law_box (ie_op (oi_add (by rfl)) (ie_op (oi_mul) ie_int (ie_v 1)) ie_int))
  (is_cons (is_if (ib_cmp (oi_ltA (by rfl) (by exact hr.rm.units0)) (ie_v 1) (ie_b (by exact call_len) bo_lenA (by rfl) (by exact F.f "len") (by decide +kernel) (ia_cons (ie_v 0) ia_nil)) (by rfl)) (is_one (is_st 2 nd__law_box (ie_idxB (by rfl) (by exact hu1 hr) (ie_v 0) (ie_v 1)))) is_nil)
  (is_cons (is_if (ib_cmp (oi_eqP (by rfl) (by exact hr.rm.units)) (ie_op (oi_mod) (ie_v 2) ie_int) ie_int (by rfl)) (is_one (is_ret (ie_lstM (ia_cons (ie_op (oi_fdiv) (ie_v 2) ie_int) (ia_cons (ie_op (oi_mod) (ie_b (by exact call_abs) bo_abs (by rfl) (by exact F.f "abs") (by decide +kernel) (ia_cons (ie_v 2) ia_nil)) ie_int) ia_nil))))) is_nil)
  (is_cons (is_st 3 nd__law_box ie_int)
  (is_cons (is_for (vs := allN 6) (by exact passes_of rfl) (by rfl) (ii_r1 (by rfl) (by exact F.f "range") (ia_cons ie_int ia_nil)) (ig_n 4 nd__law_box) (is_cons (is_st 5 nd__law_box (ie_op (oi_mod) (ie_op (oi_add (by rfl)) (ie_op (oi_add (by rfl)) (ie_op (oi_mul) (ie_op (oi_mod) (ie_v 2) ie_int) ie_int) (ie_op (oi_mul) ie_int (ie_v 4))) ie_int) ie_int))
  (is_cons (is_st 5 nd__law_box (ie_op (oi_mod) (ie_op (oi_mul) (ie_v 5) (ie_v 5)) ie_int))
  (is_one (is_st 3 nd__law_box (ie_op (oi_add (by rfl)) (ie_op (oi_mul) (ie_v 3) ie_int) (ie_op (oi_mod) (ie_op (oi_mul) (ie_v 5) (ie_op (oi_add (by rfl)) (ie_v 5) ie_int)) ie_int)))))))
  (is_one (is_ret (ie_lstM (ia_cons (ie_v 3) (ia_cons (ie_op (oi_mod) (ie_b (by exact call_abs) bo_abs (by rfl) (by exact F.f "abs") (by decide +kernel) (ia_cons (ie_v 2) ia_nil)) ie_int) ia_nil))))))))))
theorem kb__law_box_0 (fd : FuncData) (FD : FunD T.K d__law_box.name d__law_box.qual d__law_box.params d__law_box.body d__law_box.scope (d__law_box.dvs T.K) [] (He.fAd T.K d__law_box.at_) fd) : KBD T fd ["_law_script", "_law_k"] 2 [] [(0, 0), (0, 1)] [] :=
  kbd_n FD fun kV doc pm an cdv ct us ws h1 h2 => match us, ws, h1, h2 with | [_, _], [], _, _ => rfl
theorem nd__law_more : (["_law_box_here", "_law_number", "_law_j"] : List Str).Nodup := by decide +kernel
theorem sc__law_more : FnScope ["_law_box_here", "_law_number", "_law_j"] ["_law_box_here"] d__law_more.scope := ⟨rfl, rfl, rfl, nd__law_more, rfl, by decide +kernel, by decide +kernel⟩
theorem ok__law_more (F : Fx T mg lw) (hcf : T.cf = cf) (hx0 : T.xc = none) (hT : T.tabs = tabsOf T.K lw.tf) (TB : TabsB T.K mg base (lw.tf.map (·.1))) : OkF T P w mg base 1 d__law_more ["_law_box_here"] m__law_more := by
  obtain ⟨fd, FD⟩ := F.defs 1 d__law_more rfl
  refine OkF.mk' (N := ["_law_box_here", "_law_number", "_law_j"]) FD sc__law_more fun cdv A outer s H E hr => ?_
  show ISs T E _ (defBody (top 42)) b__law_more
  exact (is_cons (is_st 1 nd__law_more ie_int)
  (is_cons (is_for (vs := allN 3) (by exact passes_of rfl) (by rfl) (ii_r1 (by rfl) (by exact F.f "range") (ia_cons ie_int ia_nil)) (ig_n 2 nd__law_more) (is_cons (is_setit (ie_op (oi_mod) (ie_op (oi_add (by rfl)) (ie_op (oi_mul) (ie_idxB (by rfl) (by exact hu1 hr) (ie_v 0) ie_int) ie_int) ie_int) ie_int) (ie_v 0) ie_int)
  (is_one (is_st 1 nd__law_more (ie_op (oi_add (by rfl)) (ie_op (oi_mul) (ie_v 1) ie_int) (ie_op (oi_mod) (ie_op (oi_fdiv) (ie_idxB (by rfl) (by exact hu1 hr) (ie_v 0) ie_int) ie_int) ie_int))))))
  (is_one (is_ret (ie_v 1)))))
theorem kb__law_more_0 (fd : FuncData) (FD : FunD T.K d__law_more.name d__law_more.qual d__law_more.params d__law_more.body d__law_more.scope (d__law_more.dvs T.K) [] (He.fAd T.K d__law_more.at_) fd) : KBD T fd ["_law_box_here"] 1 [] [(0, 0)] [] :=
  kbd_n FD fun kV doc pm an cdv ct us ws h1 h2 => match us, ws, h1, h2 with | [_], [], _, _ => rfl
theorem nd__law_take : (["_law_box_here", "_law_count", "_law_rest_of", "_law_digit"] : List Str).Nodup := by decide +kernel
theorem sc__law_take : FnScope ["_law_box_here", "_law_count", "_law_rest_of", "_law_digit"] ["_law_box_here", "_law_count"] d__law_take.scope := ⟨rfl, rfl, rfl, nd__law_take, rfl, by decide +kernel, by decide +kernel⟩
theorem ok__law_take (F : Fx T mg lw) (hcf : T.cf = cf) (hx0 : T.xc = none) (hT : T.tabs = tabsOf T.K lw.tf) (TB : TabsB T.K mg base (lw.tf.map (·.1))) : OkF T P w mg base 2 d__law_take ["_law_box_here", "_law_count"] m__law_take := by
  obtain ⟨fd, FD⟩ := F.defs 2 d__law_take rfl
  refine OkF.mk' (N := ["_law_box_here", "_law_count", "_law_rest_of", "_law_digit"]) FD sc__law_take fun cdv A outer s H E hr => ?_
  show ISs T E _ (defBody (top 43)) b__law_take
  exact (is_cons (is_if (ib_chain (oi_le) (oi_ltA (by rfl) (by exact hr.rm.units0)) ie_int (ie_idxB (by rfl) (by exact hu1 hr) (ie_v 0) ie_int) (ie_v 1)) (is_one (is_setit (ie_op (oi_add (by rfl)) (ie_idxB (by rfl) (by exact hu1 hr) (ie_v 0) ie_int) (ie_op (oi_mul) (ie_v 1) (ie_fnF (by exact ok__law_more F hcf hx0 hT TB) (by rfl) (by exact hr.mono (by decide)) (by rfl) (by exact F.g "_law_more") kb__law_more_0 (by exact tk_cx) (ak_cons (ia_cons (ie_v 0) ia_nil) ik_nil)))) (ie_v 0) ie_int)) is_nil)
  (is_cons (is_unp (vs := allN 4) (ie_b (by exact call_divmodW) bo_divmod (by rfl) (by exact F.f "divmod") (by decide +kernel) (ia_cons (ie_idxB (by rfl) (by exact hu1 hr) (ie_v 0) ie_int) (ia_cons (ie_v 1) ia_nil))) (ig_tup (by rfl) (igs_cons (ig_n 2 nd__law_take) (igs_cons (ig_n 3 nd__law_take) igs_nil)) (len_cons (len_cons len_nil))))
  (is_cons (is_setit (ie_v 2) (ie_v 0) ie_int)
  (is_one (is_ret (ie_v 3))))))
theorem kb__law_take_0 (fd : FuncData) (FD : FunD T.K d__law_take.name d__law_take.qual d__law_take.params d__law_take.body d__law_take.scope (d__law_take.dvs T.K) [] (He.fAd T.K d__law_take.at_) fd) : KBD T fd ["_law_box_here", "_law_count"] 2 [] [(0, 0), (0, 1)] [] :=
  kbd_n FD fun kV doc pm an cdv ct us ws h1 h2 => match us, ws, h1, h2 with | [_, _], [], _, _ => rfl
theorem nd__law_rates : (["_law_box_here", "_law_found", "_law_turn", "_law_when", "_law_top", "_law_key"] : List Str).Nodup := by decide +kernel
theorem sc__law_rates : FnScope ["_law_box_here", "_law_found", "_law_turn", "_law_when", "_law_top", "_law_key"] ["_law_box_here"] d__law_rates.scope := ⟨rfl, rfl, rfl, nd__law_rates, rfl, by decide +kernel, by decide +kernel⟩
theorem ok__law_rates (F : Fx T mg lw) (hcf : T.cf = cf) (hx0 : T.xc = none) (hT : T.tabs = tabsOf T.K lw.tf) (TB : TabsB T.K mg base (lw.tf.map (·.1))) : OkF T P w mg base 3 d__law_rates ["_law_box_here"] m__law_rates := by
  obtain ⟨fd, FD⟩ := F.defs 3 d__law_rates rfl
  refine OkF.mk' (N := ["_law_box_here", "_law_found", "_law_turn", "_law_when", "_law_top", "_law_key"]) FD sc__law_rates fun cdv A outer s H E hr => ?_
  show ISs T E _ (defBody (top 49)) b__law_rates
  exact (is_cons (is_st 1 nd__law_rates ie_dctT)
  (is_cons (is_for (vs := allN 6) (by exact passes_of rfl) (by rfl) (ii_r1 (by rfl) (by exact F.f "range") (ia_cons (ie_fnF (by exact ok__law_take F hcf hx0 hT TB) (by rfl) (by exact hr.mono (by decide)) (by rfl) (by exact F.g "_law_take") kb__law_take_0 (by exact tk_cx) (ak_cons (ia_cons (ie_v 0) (ia_cons ie_int ia_nil)) ik_nil)) ia_nil)) (ig_n 2 nd__law_rates) (is_cons (is_st 3 nd__law_rates (ie_idxB (by rfl) (by exact hu1 hr) (ie_lst (ia_cons ie_int (ia_cons (ie_fnF (by exact ok__law_take F hcf hx0 hT TB) (by rfl) (by exact hr.mono (by decide)) (by rfl) (by exact F.g "_law_take") kb__law_take_0 (by exact tk_cx) (ak_cons (ia_cons (ie_v 0) (ia_cons ie_int ia_nil)) ik_nil)) (ia_cons (ie_fnF (by exact ok__law_take F hcf hx0 hT TB) (by rfl) (by exact hr.mono (by decide)) (by rfl) (by exact F.g "_law_take") kb__law_take_0 (by exact tk_cx) (ak_cons (ia_cons (ie_v 0) (ia_cons ie_int ia_nil)) ik_nil)) ia_nil)))) (ie_fnF (by exact ok__law_take F hcf hx0 hT TB) (by rfl) (by exact hr.mono (by decide)) (by rfl) (by exact F.g "_law_take") kb__law_take_0 (by exact tk_cx) (ak_cons (ia_cons (ie_v 0) (ia_cons ie_int ia_nil)) ik_nil))))
  (is_cons (is_st 4 nd__law_rates (ie_idxB (by rfl) (by exact hu1 hr) (ie_lst (ia_cons ie_int (ia_cons (ie_op (oi_pow) ie_int ie_int) (ia_cons (ie_op (oi_add (by rfl)) ie_int (ie_fnF (by exact ok__law_take F hcf hx0 hT TB) (by rfl) (by exact hr.mono (by decide)) (by rfl) (by exact F.g "_law_take") kb__law_take_0 (by exact tk_cx) (ak_cons (ia_cons (ie_v 0) (ia_cons ie_int ia_nil)) ik_nil))) ia_nil)))) (ie_fnF (by exact ok__law_take F hcf hx0 hT TB) (by rfl) (by exact hr.mono (by decide)) (by rfl) (by exact F.g "_law_take") kb__law_take_0 (by exact tk_cx) (ak_cons (ia_cons (ie_v 0) (ia_cons ie_int ia_nil)) ik_nil))))
  (is_one (is_putT (by exact hu1 hr) (ie_tup (ia_cons (ie_v 4) (ia_cons (ie_idxB (by rfl) (by exact hu1 hr) (ie_lst (ia_cons ie_int (ia_cons (ie_op (oi_pow) ie_int ie_int) (ia_cons ie_int (ia_cons (ie_op (oi_add (by rfl)) ie_int (ie_fnF (by exact ok__law_take F hcf hx0 hT TB) (by rfl) (by exact hr.mono (by decide)) (by rfl) (by exact F.g "_law_take") kb__law_take_0 (by exact tk_cx) (ak_cons (ia_cons (ie_v 0) (ia_cons ie_int ia_nil)) ik_nil))) ia_nil))))) (ie_fnF (by exact ok__law_take F hcf hx0 hT TB) (by rfl) (by exact hr.mono (by decide)) (by rfl) (by exact F.g "_law_take") kb__law_take_0 (by exact tk_cx) (ak_cons (ia_cons (ie_v 0) (ia_cons ie_int ia_nil)) ik_nil))) ia_nil))) (ie_v 1) (ia_cons (ie_op (oi_add (by rfl)) ie_int (ie_fnF (by exact ok__law_take F hcf hx0 hT TB) (by rfl) (by exact hr.mono (by decide)) (by rfl) (by exact F.g "_law_take") kb__law_take_0 (by exact tk_cx) (ak_cons (ia_cons (ie_v 0) (ia_cons ie_int ia_nil)) ik_nil))) (ia_cons (ie_v 3) ia_nil)))))))
  (is_one (is_ret (ie_bt (by exact call_tuple_of) bo_tuple (by rfl) (by exact F.f "tuple") (by decide +kernel) (ia_cons (ie_lc (own := [("_law_key", 5)]) (by rfl) nd__law_rates (ii_any (by rfl) (ie_sorted (by rfl) (by rfl) (by rfl) (by exact F.f "sorted") (by decide +kernel) (ia_cons (ie_v 1) ia_nil))) (blk_by (by kernel_rfl)) (fun _ _ _ _ _ => (ig_n 5 nd__law_rates)) (fun _ _ _ _ _ => its_nil) (fun _ _ _ _ _ => (ie_op (oi_add (by rfl)) (ie_v 5) (ie_idxB (by rfl) (by exact hu1 hr) (ie_v 1) (ie_v 5))))) ia_nil))))))
theorem kb__law_rates_0 (fd : FuncData) (FD : FunD T.K d__law_rates.name d__law_rates.qual d__law_rates.params d__law_rates.body d__law_rates.scope (d__law_rates.dvs T.K) [] (He.fAd T.K d__law_rates.at_) fd) : KBD T fd ["_law_box_here"] 1 [] [(0, 0)] [] :=
  kbd_n FD fun kV doc pm an cdv ct us ws h1 h2 => match us, ws, h1, h2 with | [_], [], _, _ => rfl
theorem nd__law_rate : (["_law_table", "_law_coin", "_law_when", "_law_found", "_law_other", "_law_since", "_law_top", "_law_bottom"] : List Str).Nodup := by decide +kernel
theorem sc__law_rate : FnScope ["_law_table", "_law_coin", "_law_when", "_law_found", "_law_other", "_law_since", "_law_top", "_law_bottom"] ["_law_table", "_law_coin", "_law_when"] d__law_rate.scope := ⟨rfl, rfl, rfl, nd__law_rate, rfl, by decide +kernel, by decide +kernel⟩
theorem ok__law_rate (F : Fx T mg lw) (hcf : T.cf = cf) (hx0 : T.xc = none) (hT : T.tabs = tabsOf T.K lw.tf) (TB : TabsB T.K mg base (lw.tf.map (·.1))) : OkF T P w mg base 1 d__law_rate ["_law_table", "_law_coin", "_law_when"] m__law_rate := by
  obtain ⟨fd, FD⟩ := F.defs 4 d__law_rate rfl
  refine OkF.mk' (N := ["_law_table", "_law_coin", "_law_when", "_law_found", "_law_other", "_law_since", "_law_top", "_law_bottom"]) FD sc__law_rate fun cdv A outer s H E hr => ?_
  show ISs T E _ (defBody (top 50)) b__law_rate
  exact (is_cons (is_if (ib_cmp (oi_eqP (by rfl) (by exact hr.rm.units)) (ie_v 1) ie_int (by rfl)) (is_one (is_ret (ie_tup (ia_cons ie_int (ia_cons ie_int ia_nil))))) is_nil)
  (is_cons (is_st 3 nd__law_rate ie_non)
  (is_cons (is_for (vs := allN 8) (by exact passes_of rfl) (by rfl) (ii_any (by rfl) (ie_v 0)) (ig_tup (by rfl) (igs_cons (ig_n 4 nd__law_rate) (igs_cons (ig_n 5 nd__law_rate) (igs_cons (ig_n 6 nd__law_rate) (igs_cons (ig_n 7 nd__law_rate) igs_nil)))) (len_cons (len_cons (len_cons (len_cons len_nil))))) (is_one (is_if (iw_pt (iw_and (ib_cmp (oi_eqP (by rfl) (by exact hr.rm.units)) (ie_v 4) (ie_v 1) (by rfl)) (iw_and1 (ib_cmp (oi_le) (ie_v 5) (ie_v 2) (by rfl))))) (is_one (is_st 3 nd__law_rate (ie_tup (ia_cons (ie_v 6) (ia_cons (ie_v 7) ia_nil))))) is_nil)))
  (is_one (is_ret (ie_v 3))))))
theorem kb__law_rate_0 (fd : FuncData) (FD : FunD T.K d__law_rate.name d__law_rate.qual d__law_rate.params d__law_rate.body d__law_rate.scope (d__law_rate.dvs T.K) [] (He.fAd T.K d__law_rate.at_) fd) : KBD T fd ["_law_table", "_law_coin", "_law_when"] 3 [] [(0, 0), (0, 1), (0, 2)] [] :=
  kbd_n FD fun kV doc pm an cdv ct us ws h1 h2 => match us, ws, h1, h2 with | [_, _, _], [], _, _ => rfl
theorem nd__law_family : (["_law_e", "_law_some"] : List Str).Nodup := by decide +kernel
theorem sc__law_family : FnScope ["_law_e", "_law_some"] ["_law_e"] d__law_family.scope := ⟨rfl, rfl, rfl, nd__law_family, rfl, by decide +kernel, by decide +kernel⟩
theorem bi__law_family (fd : FuncData) (FD : FunD T.K d__law_family.name d__law_family.qual d__law_family.params d__law_family.body d__law_family.scope (d__law_family.dvs T.K) [] (He.fAd T.K d__law_family.at_) fd) : L2.Binds T.K fd ["_law_e"] [] := FunD.bindsN FD fun _ _ _ _ _ _ us hl => match us, hl with | [_], _ => rfl
theorem ok__law_family (F : Fx T mg lw) (hcf : T.cf = cf) (cn : String) (hcn : cn ∈ cnsL) : OkP T P w mg base 1 d__law_family ["_law_e"] cn (m__law_family cn) := by
  obtain ⟨fd, FD⟩ := F.defs 5 d__law_family rfl
  refine OkP.mk' (N := ["_law_e", "_law_some"]) FD sc__law_family fun cdv A outer s H p z hx hz hr => ?_
  show ISs (T.at (some z)) E00 _ (defBody (top 44)) (b__law_family cn)
  exact (is_cons (is_st 1 nd__law_family (ie_lst (ia_cons (ie_isX (Tt := .o "NoRates") (by exact List.mem_singleton.mpr rfl) hx (by rfl) (by rw [hz]; exact xkX F cn hcn) (by rw [hz]; exact kxX F cn hcn (.o "NoRates")) (by rfl) (by exact F.f "isinstance") (ie_v 0) (isTy_o (by rfl) (by exact F.g "NoRates"))) (ia_cons (ie_isX (Tt := .o "NoSpot") (by exact List.mem_singleton.mpr rfl) hx (by rfl) (by rw [hz]; exact xkX F cn hcn) (by rw [hz]; exact kxX F cn hcn (.o "NoSpot")) (by rfl) (by exact F.f "isinstance") (ie_v 0) (isTy_o (by rfl) (by exact F.g "NoSpot"))) (ia_cons (ie_isX (Tt := .o "NoShare") (by exact List.mem_singleton.mpr rfl) hx (by rfl) (by rw [hz]; exact xkX F cn hcn) (by rw [hz]; exact kxX F cn hcn (.o "NoShare")) (by rfl) (by exact F.f "isinstance") (ie_v 0) (isTy_o (by rfl) (by exact F.g "NoShare"))) (ia_cons (ie_isX (Tt := .o "NoBook") (by exact List.mem_singleton.mpr rfl) hx (by rfl) (by rw [hz]; exact xkX F cn hcn) (by rw [hz]; exact kxX F cn hcn (.o "NoBook")) (by rfl) (by exact F.f "isinstance") (ie_v 0) (isTy_o (by rfl) (by exact F.g "NoBook"))) ia_nil))))))
  (is_cons (is_st 1 nd__law_family (ie_op (oi_add (by rfl)) (ie_v 1) (ie_lst (ia_cons (ie_isX (Tt := .o "NoPlace") (by exact List.mem_singleton.mpr rfl) hx (by rfl) (by rw [hz]; exact xkX F cn hcn) (by rw [hz]; exact kxX F cn hcn (.o "NoPlace")) (by rfl) (by exact F.f "isinstance") (ie_v 0) (isTy_o (by rfl) (by exact F.g "NoPlace"))) (ia_cons (ie_isX (Tt := .o "Absent") (by exact List.mem_singleton.mpr rfl) hx (by rfl) (by rw [hz]; exact xkX F cn hcn) (by rw [hz]; exact kxX F cn hcn (.o "Absent")) (by rfl) (by exact F.f "isinstance") (ie_v 0) (isTy_o (by rfl) (by exact F.g "Absent"))) (ia_cons (ie_isX (Tt := .o "Nothing") (by exact List.mem_singleton.mpr rfl) hx (by rfl) (by rw [hz]; exact xkX F cn hcn) (by rw [hz]; exact kxX F cn hcn (.o "Nothing")) (by rfl) (by exact F.f "isinstance") (ie_v 0) (isTy_o (by rfl) (by exact F.g "Nothing"))) (ia_cons (ie_isX (Tt := .o "NoTable") (by exact List.mem_singleton.mpr rfl) hx (by rfl) (by rw [hz]; exact xkX F cn hcn) (by rw [hz]; exact kxX F cn hcn (.o "NoTable")) (by rfl) (by exact F.f "isinstance") (ie_v 0) (isTy_o (by rfl) (by exact F.g "NoTable"))) ia_nil)))))))
  (is_cons (is_st 1 nd__law_family (ie_op (oi_add (by rfl)) (ie_v 1) (ie_lst (ia_cons (ie_isX (Tt := .o "NoLine") (by exact List.mem_singleton.mpr rfl) hx (by rfl) (by rw [hz]; exact xkX F cn hcn) (by rw [hz]; exact kxX F cn hcn (.o "NoLine")) (by rfl) (by exact F.f "isinstance") (ie_v 0) (isTy_o (by rfl) (by exact F.g "NoLine"))) (ia_cons (ie_isX (Tt := .o "NoSpending") (by exact List.mem_singleton.mpr rfl) hx (by rfl) (by rw [hz]; exact xkX F cn hcn) (by rw [hz]; exact kxX F cn hcn (.o "NoSpending")) (by rfl) (by exact F.f "isinstance") (ie_v 0) (isTy_o (by rfl) (by exact F.g "NoSpending"))) (ia_cons (ie_isX (Tt := .o "NoRule") (by exact List.mem_singleton.mpr rfl) hx (by rfl) (by rw [hz]; exact xkX F cn hcn) (by rw [hz]; exact kxX F cn hcn (.o "NoRule")) (by rfl) (by exact F.f "isinstance") (ie_v 0) (isTy_o (by rfl) (by exact F.g "NoRule"))) (ia_cons (ie_isX (Tt := .o "NoJourney") (by exact List.mem_singleton.mpr rfl) hx (by rfl) (by rw [hz]; exact xkX F cn hcn) (by rw [hz]; exact kxX F cn hcn (.o "NoJourney")) (by rfl) (by exact F.f "isinstance") (ie_v 0) (isTy_o (by rfl) (by exact F.g "NoJourney"))) ia_nil)))))))
  (is_cons (is_st 1 nd__law_family (ie_op (oi_add (by rfl)) (ie_v 1) (ie_lst (ia_cons (ie_isX (Tt := .o "NoText") (by exact List.mem_singleton.mpr rfl) hx (by rfl) (by rw [hz]; exact xkX F cn hcn) (by rw [hz]; exact kxX F cn hcn (.o "NoText")) (by rfl) (by exact F.f "isinstance") (ie_v 0) (isTy_o (by rfl) (by exact F.g "NoText"))) (ia_cons (ie_isX (Tt := .o "TooMany") (by exact List.mem_singleton.mpr rfl) hx (by rfl) (by rw [hz]; exact xkX F cn hcn) (by rw [hz]; exact kxX F cn hcn (.o "TooMany")) (by rfl) (by exact F.f "isinstance") (ie_v 0) (isTy_o (by rfl) (by exact F.g "TooMany"))) (ia_cons (ie_isX (Tt := .o "NoRate") (by exact List.mem_singleton.mpr rfl) hx (by rfl) (by rw [hz]; exact xkX F cn hcn) (by rw [hz]; exact kxX F cn hcn (.o "NoRate")) (by rfl) (by exact F.f "isinstance") (ie_v 0) (isTy_o (by rfl) (by exact F.g "NoRate"))) (ia_cons (ie_isX (Tt := .o "NoDay") (by exact List.mem_singleton.mpr rfl) hx (by rfl) (by rw [hz]; exact xkX F cn hcn) (by rw [hz]; exact kxX F cn hcn (.o "NoDay")) (by rfl) (by exact F.f "isinstance") (ie_v 0) (isTy_o (by rfl) (by exact F.g "NoDay"))) ia_nil)))))))
  (is_one (is_ret (ie_op (oi_add (by rfl)) (ie_v 1) (ie_lst (ia_cons (ie_isX (Tt := .o "NoName") (by exact List.mem_singleton.mpr rfl) hx (by rfl) (by rw [hz]; exact xkX F cn hcn) (by rw [hz]; exact kxX F cn hcn (.o "NoName")) (by rfl) (by exact F.f "isinstance") (ie_v 0) (isTy_o (by rfl) (by exact F.g "NoName"))) (ia_cons (ie_isX (Tt := .o "NoHeads") (by exact List.mem_singleton.mpr rfl) hx (by rfl) (by rw [hz]; exact xkX F cn hcn) (by rw [hz]; exact kxX F cn hcn (.o "NoHeads")) (by rfl) (by exact F.f "isinstance") (ie_v 0) (isTy_o (by rfl) (by exact F.g "NoHeads"))) ia_nil))))))))))
theorem nd__law_word : (["_law_e", "_law_some", "_law_words", "_law_at", "_law_kinds", "_law_due"] : List Str).Nodup := by decide +kernel
theorem sc__law_word : FnScope ["_law_e", "_law_some", "_law_words", "_law_at", "_law_kinds", "_law_due"] ["_law_e"] d__law_word.scope := ⟨rfl, rfl, rfl, nd__law_word, rfl, by decide +kernel, by decide +kernel⟩
theorem bi__law_word (fd : FuncData) (FD : FunD T.K d__law_word.name d__law_word.qual d__law_word.params d__law_word.body d__law_word.scope (d__law_word.dvs T.K) [] (He.fAd T.K d__law_word.at_) fd) : L2.Binds T.K fd ["_law_e"] [] := FunD.bindsN FD fun _ _ _ _ _ _ us hl => match us, hl with | [_], _ => rfl
theorem ok__law_word (F : Fx T mg lw) (hcf : T.cf = cf) (cn : String) (hcn : cn ∈ cnsL) : OkP T P w mg base 2 d__law_word ["_law_e"] cn (m__law_word cn) := by
  obtain ⟨fd, FD⟩ := F.defs 6 d__law_word rfl
  refine OkP.mk' (N := ["_law_e", "_law_some", "_law_words", "_law_at", "_law_kinds", "_law_due"]) FD sc__law_word fun cdv A outer s H p z hx hz hr => ?_
  show ISs (T.at (some z)) E00 _ (defBody (top 45)) (b__law_word cn)
  exact (is_cons (is_st 1 nd__law_word (ie_fnP (by exact List.mem_singleton.mpr rfl) hx hz (ok__law_family F hcf cn hcn) (by rfl) (by exact hr.mono (by decide)) (by rfl) (by exact F.g "_law_family") bi__law_family (by exact tk_no) (ie_v 0)))
  (is_cons (is_st 2 nd__law_word (ie_lst (ia_cons ie_str (ia_cons ie_str (ia_cons ie_str (ia_cons ie_str (ia_cons ie_str (ia_cons ie_str (ia_cons ie_str (ia_cons ie_str (ia_cons ie_str (ia_cons ie_str (ia_cons ie_str ia_nil)))))))))))))
  (is_cons (is_st 2 nd__law_word (ie_op (oi_add (by rfl)) (ie_v 2) (ie_lst (ia_cons ie_str (ia_cons ie_str (ia_cons ie_str (ia_cons ie_str (ia_cons ie_str (ia_cons ie_str (ia_cons ie_str ia_nil))))))))))
  (is_cons (is_if (ib_cmp (oi_neP (by rfl) (by exact hr.hu)) (ie_count (by rfl) (by exact hr.hu65) (ie_v 1) ie_bl) ie_int (by rfl)) (is_one (is_ret ie_str)) is_nil)
  (is_cons (is_st 3 nd__law_word (ie_index (by rfl) (by exact hr.hu65) (ie_v 1) ie_bl))
  (is_cons (is_st 4 nd__law_word (ie_lst (ia_cons (ie_isX (Tt := .o "PenceError") (by exact List.mem_singleton.mpr rfl) hx (by rfl) (by rw [hz]; exact xkX F cn hcn) (by rw [hz]; exact kxX F cn hcn (.o "PenceError")) (by rfl) (by exact F.f "isinstance") (ie_v 0) (isTy_o (by rfl) (by exact F.g "PenceError"))) (ia_cons (ie_isX (Tt := .b "ValueError") (by exact List.mem_singleton.mpr rfl) hx (by rfl) (by rw [hz]; exact xkX F cn hcn) (by rw [hz]; exact kxX F cn hcn (.b "ValueError")) (by rfl) (by exact F.f "isinstance") (ie_v 0) (isTy_b (by rfl) (by exact F.f "ValueError") (by decide +kernel))) (ia_cons (ie_isX (Tt := .b "KeyError") (by exact List.mem_singleton.mpr rfl) hx (by rfl) (by rw [hz]; exact xkX F cn hcn) (by rw [hz]; exact kxX F cn hcn (.b "KeyError")) (by rfl) (by exact F.f "isinstance") (ie_v 0) (isTy_b (by rfl) (by exact F.f "KeyError") (by decide +kernel))) ia_nil)))))
  (is_cons (is_st 4 nd__law_word (ie_op (oi_add (by rfl)) (ie_v 4) (ie_lst (ia_cons (ie_isX (Tt := .b "IndexError") (by exact List.mem_singleton.mpr rfl) hx (by rfl) (by rw [hz]; exact xkX F cn hcn) (by rw [hz]; exact kxX F cn hcn (.b "IndexError")) (by rfl) (by exact F.f "isinstance") (ie_v 0) (isTy_b (by rfl) (by exact F.f "IndexError") (by decide +kernel))) (ia_cons (ie_isX (Tt := .b "LookupError") (by exact List.mem_singleton.mpr rfl) hx (by rfl) (by rw [hz]; exact xkX F cn hcn) (by rw [hz]; exact kxX F cn hcn (.b "LookupError")) (by rfl) (by exact F.f "isinstance") (ie_v 0) (isTy_b (by rfl) (by exact F.f "LookupError") (by decide +kernel))) (ia_cons (ie_isX (Tt := .b "ZeroDivisionError") (by exact List.mem_singleton.mpr rfl) hx (by rfl) (by rw [hz]; exact xkX F cn hcn) (by rw [hz]; exact kxX F cn hcn (.b "ZeroDivisionError")) (by rfl) (by exact F.f "isinstance") (ie_v 0) (isTy_b (by rfl) (by exact F.f "ZeroDivisionError") (by decide +kernel))) ia_nil))))))
  (is_cons (is_st 5 nd__law_word (ie_lst (ia_cons ie_bl (ia_cons ie_bl (ia_cons ie_bl (ia_cons ie_bl (ia_cons ie_bl (ia_cons ie_bl ia_nil))))))))
  (is_cons (is_if (ib_cmp (oi_gt) (ie_v 3) ie_int (by rfl)) (is_one (is_st 5 nd__law_word (ie_lst (ia_cons ie_bl (ia_cons ie_bl (ia_cons (ie_cmp (oi_eqP (by rfl) (by exact hr.hu)) (ie_v 3) ie_int (by rfl)) (ia_cons (ie_cmp (oi_eqP (by rfl) (by exact hr.hu)) (ie_v 3) ie_int (by rfl)) (ia_cons (ie_cmp (oi_ltA (by rfl) (by exact hr.hu0)) (ie_v 3) ie_int (by rfl)) (ia_cons (ie_cmp (oi_eqP (by rfl) (by exact hr.hu)) (ie_v 3) ie_int (by rfl)) ia_nil))))))))) is_nil)
  (is_one (is_ret (ie_if (ib_cmp (oi_eqP (by rfl) (by exact hr.hu)) (ie_v 4) (ie_v 5) (by rfl)) (ie_idxB (by rfl) (by exact hr.hu1) (ie_v 2) (ie_v 3)) ie_str))))))))))))
theorem nd__law_said : (["_law_call", "_law_e", "_law_word_here"] : List Str).Nodup := by decide +kernel
theorem sc__law_said : FnScope ["_law_call", "_law_e", "_law_word_here"] ["_law_call"] d__law_said.scope := ⟨rfl, rfl, rfl, nd__law_said, rfl, by decide +kernel, by decide +kernel⟩
theorem bi__law_said (fd : FuncData) (FD : FunD T.K d__law_said.name d__law_said.qual d__law_said.params d__law_said.body d__law_said.scope (d__law_said.dvs T.K) [] (He.fAd T.K d__law_said.at_) fd) : L2.Binds T.K fd ["_law_call"] [] := FunD.bindsN FD fun _ _ _ _ _ _ us hl => match us, hl with | [_], _ => rfl
def hdsX : List ExceptHandler := match defBody (top 46) with | [.Try _ h _ _ _] => h | _ => []
theorem hda (F : Fx T mg lw) (hcf : T.cf = cf) (cdv : Value) (A : Around) (outer : List PySem.Env) (s : Shared) (H : Hp) (hr0 : RG 2 (A.deeper (envOfC d__law_said.qual d__law_said.scope s.heap.objs.size (He.fAd T.K d__law_said.at_) cdv))) :
    HdA (cxOf (L2.CX P w) P w T.K mg base ["_law_call", "_law_e", "_law_word_here"] d__law_said.qual d__law_said.scope (He.fAd T.K d__law_said.at_) cdv A outer s H E00) "_law_e" hdsX (clsL T cnsL (clX T)) :=
  (HdA.cons (names_of (c := "PenceError") (by rfl) (by exact F.g "PenceError")) (fun a oe cls d pn hz hf => suite_of hz hf fun cn hcn z p hx hz => by
    have hr := hr0.mark (some (.ref z.a))
    exact (is_cons (is_st 2 nd__law_said (ie_fnP (by exact List.mem_cons_self) hx hz (ok__law_word F hcf cn hcn) (by rfl) (by exact hr.mono (by decide)) (by rfl) (by exact F.g "_law_word") bi__law_word (by exact tk_no) (ie_v 1)))
  (is_cons (is_if (ib_cmp (oi_in (by rfl) (by exact hr.hu)) (ie_v 2) (ie_lst (ia_cons ie_str (ia_cons ie_str (ia_cons ie_str ia_nil)))) (by rfl)) (is_one (is_ret (ie_tup (ia_cons (ie_v 2) (ia_cons (ie_xf (fn := "part") hx hz hcf (by rfl) (xfX F cn hcn "part") (ie_v 1)) ia_nil))))) is_nil)
  (is_cons (is_if (ib_cmp (oi_eqP (by rfl) (by exact hr.hu)) (ie_v 2) ie_str (by rfl)) (is_one (is_ret (ie_tup (ia_cons (ie_v 2) (ia_cons (ie_xf (fn := "row") hx hz hcf (by rfl) (xfX F cn hcn "row") (ie_v 1)) ia_nil))))) is_nil)
  (is_one (is_ret (ie_if (ib_cmp (oi_eqP (by rfl) (by exact hr.hu)) (ie_v 2) ie_str (by rfl)) (ie_tup (ia_cons (ie_v 2) (ia_cons (ie_xf (fn := "many") hx hz hcf (by rfl) (xfX F cn hcn "many") (ie_v 1)) (ia_cons (ie_xf (fn := "most") hx hz hcf (by rfl) (xfX F cn hcn "most") (ie_v 1)) ia_nil)))) (ie_tup (ia_cons (ie_v 2) ia_nil))))))))) (HdA.cons (names_of (c := "NoHeads") (by rfl) (by exact F.g "NoHeads")) (fun a oe cls d pn hz hf => suite_of hz hf fun cn hcn z p hx hz => by
    have hr := hr0.mark (some (.ref z.a))
    exact (is_one (is_ret (ie_tup (ia_cons (ie_fnP (by exact List.mem_cons_self) hx hz (ok__law_word F hcf cn hcn) (by rfl) (by exact hr.mono (by decide)) (by rfl) (by exact F.g "_law_word") bi__law_word (by exact tk_no) (ie_v 1)) (ia_cons (ie_xf (fn := "heads") hx hz hcf (by rfl) (xfX F cn hcn "heads") (ie_v 1)) ia_nil)))))) (HdA.cons (names_of (c := "NoName") (by rfl) (by exact F.g "NoName")) (fun a oe cls d pn hz hf => suite_of hz hf fun cn hcn z p hx hz => by
    have hr := hr0.mark (some (.ref z.a))
    exact (is_one (is_ret (ie_tup (ia_cons (ie_fnP (by exact List.mem_cons_self) hx hz (ok__law_word F hcf cn hcn) (by rfl) (by exact hr.mono (by decide)) (by rfl) (by exact F.g "_law_word") bi__law_word (by exact tk_no) (ie_v 1)) (ia_cons (ie_xf (fn := "name") hx hz hcf (by rfl) (xfX F cn hcn "name") (ie_v 1)) ia_nil)))))) (HdA.cons (names_of (c := "NoDay") (by rfl) (by exact F.g "NoDay")) (fun a oe cls d pn hz hf => suite_of hz hf fun cn hcn z p hx hz => by
    have hr := hr0.mark (some (.ref z.a))
    exact (is_one (is_ret (ie_tup (ia_cons (ie_fnP (by exact List.mem_cons_self) hx hz (ok__law_word F hcf cn hcn) (by rfl) (by exact hr.mono (by decide)) (by rfl) (by exact F.g "_law_word") bi__law_word (by exact tk_no) (ie_v 1)) (ia_cons (ie_xf (fn := "day") hx hz hcf (by rfl) (xfX F cn hcn "day") (ie_v 1)) ia_nil)))))) (HdA.cons (names_of (c := "NoRate") (by rfl) (by exact F.g "NoRate")) (fun a oe cls d pn hz hf => suite_of hz hf fun cn hcn z p hx hz => by
    have hr := hr0.mark (some (.ref z.a))
    exact (is_one (is_ret (ie_tup (ia_cons (ie_fnP (by exact List.mem_cons_self) hx hz (ok__law_word F hcf cn hcn) (by rfl) (by exact hr.mono (by decide)) (by rfl) (by exact F.g "_law_word") bi__law_word (by exact tk_no) (ie_v 1)) (ia_cons (ie_xf (fn := "money") hx hz hcf (by rfl) (xfX F cn hcn "money") (ie_v 1)) (ia_cons (ie_xf (fn := "day") hx hz hcf (by rfl) (xfX F cn hcn "day") (ie_v 1)) ia_nil))))))) HdA.nil)))))
theorem pk_NoRates (F : Fx T mg lw) : pickF T.K (.ref (He.ga T.K ("NoRates" : PySem.Str))) (clX T) = some sx_0 := by
  have e0 := He.exm_ok (x := "NoRates") (y := "PenceError") (b := true) (F.fa 1)
  simp only [clX, pickF, e0]
theorem pl_NoRates (fs : List D) (r : D) (S : Store) (h : refL cnsL "NoRates" fs = some r) : sx_0 "NoRates" ((List.replicate 3 none).set 1 (some (.thk 0 fs))) S = .ok (.rt r) S := by
  match fs, h with
  | [], h => cases h; kernel_rfl
  | _ :: _, h => exact absurd h (by simp [refL, refD])
theorem pk_NoRate (F : Fx T mg lw) : pickF T.K (.ref (He.ga T.K ("NoRate" : PySem.Str))) (clX T) = some sx_4 := by
  have e0 := He.exm_ok (x := "NoRate") (y := "PenceError") (b := false) (F.fa 2)
  have e1 := He.exm_ok (x := "NoRate") (y := "NoHeads") (b := false) (F.fa 3)
  have e2 := He.exm_ok (x := "NoRate") (y := "NoName") (b := false) (F.fa 4)
  have e3 := He.exm_ok (x := "NoRate") (y := "NoDay") (b := false) (F.fa 5)
  have e4 := He.exm_ok (x := "NoRate") (y := "NoRate") (b := true) (F.fa 6)
  simp only [clX, pickF, e0, e1, e2, e3, e4]
theorem pl_NoRate (fs : List D) (r : D) (S : Store) (h : refL cnsL "NoRate" fs = some r) : sx_4 "NoRate" ((List.replicate 3 none).set 1 (some (.thk 0 fs))) S = .ok (.rt r) S := by
  match fs, h with
  | [p0, p1], h => cases h; kernel_rfl
  | [], h => exact absurd h (by simp [refL, refD])
  | [_], h => exact absurd h (by simp [refL, refD])
  | _ :: _ :: _ :: _, h => exact absurd h (by simp [refL, refD])
theorem hpkX (F : Fx T mg lw) : ∀ cn ∈ cnsL, ∃ sx, pickF T.K (.ref (He.ga T.K (cn : PySem.Str))) (clX T) = some sx ∧ ∀ fs r S, refL cnsL cn fs = some r → sx cn ((List.replicate 3 none).set 1 (some (.thk 0 fs))) S = .ok (.rt r) S := by
  intro cn hcn
  simp only [cnsL, List.mem_cons, List.not_mem_nil, or_false] at hcn
  rcases hcn with rfl | rfl
  · exact ⟨_, pk_NoRates F, pl_NoRates⟩
  · exact ⟨_, pk_NoRate F, pl_NoRate⟩
theorem ie_sd {E : XK} {q : He.Defn} {qs : String} {k : Nat} {m : EX} {N0 : List Str} {q0 : Str} {sc0 : Scope} {ad0 : Addr} {cdv0 : Value} {A0 : Around} {outer0 : List PySem.Env} {s0 : Shared} {H0 : Hp} {E0 : XK} {p lpos pos : Pos} {params : Arguments} {body : Expr} {scope : Scope}
    (F : Fx T mg lw) (hcf : T.cf = cf) (hx0 : T.xc = none) (hT : T.tabs = tabsOf T.K lw.tf) (TB : TabsB T.K mg base (lw.tf.map (·.1))) (hq : (q, qs) ∈ lw.tf) (hqs : q0 ++ (".<locals>." : PySem.Str) = (qs : PySem.Str)) (hkw : 2 ≤ k + 1)
    (hcd : cdv0 = .ref (He.codeOf T.K q)) (hr : RG (k + 2) (cxOf (L2.CX P w) P w T.K mg base N0 q0 sc0 ad0 cdv0 A0 outer0 s0 H0 E0).A) (hg : Gl (cxOf (L2.CX P w) P w T.K mg base N0 q0 sc0 ad0 cdv0 A0 outer0 s0 H0 E0) "_law_said") (L : LamS sc0 scope) (hdef : defaultsOf params (envOfC q0 sc0 s0.heap.objs.size ad0 cdv0) = ([], []))
    (hbind : ∀ (q : Str) (cl : List (Str × Addr)) (pm cv ctv : Value), bindArgs (PySem.W.kla_fn "<lambda>" q params body scope cl pm cv ctv) ⟨[], []⟩ = pure [])
    (hbody : ∀ (A : Around) (outer : List PySem.Env) (s : Shared) (H : Hp) (E' : XK) (f c' : Addr), RG k (A.deeper (lamEnv (cxOf (L2.CX P w) P w T.K mg base N0 q0 sc0 ad0 cdv0 A0 outer0 s0 H0 E0) scope s.heap.objs.size f c')) → IE T E' (lamCx (cxOf (L2.CX P w) P w T.K mg base N0 q0 sc0 ad0 cdv0 A0 outer0 s0 H0 E0) A outer s H E' scope f c') body m) :
    IE T E (cxOf (L2.CX P w) P w T.K mg base N0 q0 sc0 ad0 cdv0 A0 outer0 s0 H0 E0) (.Call (.Name "_law_said" p) [.Lambda params body scope lpos] [] pos) (eSaid "told" (refL cnsL) m) := by
  exact ie_said (k := k) (i := 1) (d := d__law_said) (cns := cnsL) (cl := clX T) (hp := refL cnsL) (m := m) rfl hx0 hg (F.g "_law_said") (F.defs 7 d__law_said rfl) rfl rfl (by rfl) bi__law_said sc__law_said rfl (.inl rfl) nd__law_said rfl (by decide) rfl (fun cdv s H hr => hda F hcf cdv _ _ s H (hr.mono hkw)) refL_nt refL_in (hpkX F)
    (TB.at_ q (List.mem_map.mpr ⟨_, hq, rfl⟩)) hcd (by
      show (_, (q0 ++ (".<locals>." : PySem.Str)) ++ ("<lambda>" : PySem.Str)) ∈ T.tabs
      rw [hqs, hT]; exact tab_in q qs hq) (by
      show ∀ p ∈ T.tabs, p.1 = _ → p.2 = (q0 ++ (".<locals>." : PySem.Str)) ++ ("<lambda>" : PySem.Str)
      rw [hqs, hT]; exact tab_one F.tfn q qs hq) hr L hdef hbind hbody
theorem nd_is_whole : (["thing", "low", "high"] : List Str).Nodup := by decide +kernel
theorem sc_is_whole : FnScope ["thing", "low", "high"] ["thing", "low", "high"] d_is_whole.scope := ⟨rfl, rfl, rfl, nd_is_whole, rfl, by decide +kernel, by decide +kernel⟩
theorem ok_is_whole (F : Fx T mg lw) (hcf : T.cf = cf) (hx0 : T.xc = none) (hT : T.tabs = tabsOf T.K lw.tf) (TB : TabsB T.K mg base (lw.tf.map (·.1))) : OkF T P w mg base 1 d_is_whole ["thing", "low", "high"] m_is_whole := by
  obtain ⟨fd, FD⟩ := F.defs 8 d_is_whole rfl
  refine OkF.mk' (N := ["thing", "low", "high"]) FD sc_is_whole fun cdv A outer s H E hr => ?_
  show ISs T E _ (defBody (top 27)) b_is_whole
  exact (is_one (is_ret (ie_and (ie_isi (tys := tysL) (Tt := .b "int") (by rfl) (by rfl) (by exact F.f "isinstance") (ie_v 0) (isTy_b (by rfl) (by exact F.f "int") (by decide +kernel)) (by exact F.is' tysL) (by exact F.ki tysL (.b "int"))) (ie_and (ie_not (ie_isi (tys := tysL) (Tt := .b "bool") (by rfl) (by rfl) (by exact F.f "isinstance") (ie_v 0) (isTy_b (by rfl) (by exact F.f "bool") (by decide +kernel)) (by exact F.is' tysL) (by exact F.ki tysL (.b "bool")))) (ie_one (ie_chain (oi_le) (oi_le) (ie_v 1) (ie_v 0) (ie_v 2)))))))
theorem kb_is_whole_0 (fd : FuncData) (FD : FunD T.K d_is_whole.name d_is_whole.qual d_is_whole.params d_is_whole.body d_is_whole.scope (d_is_whole.dvs T.K) [] (He.fAd T.K d_is_whole.at_) fd) : KBD T fd ["thing", "low", "high"] 3 [] [(0, 0), (0, 1), (0, 2)] [] :=
  kbd_n FD fun kV doc pm an cdv ct us ws h1 h2 => match us, ws, h1, h2 with | [_, _, _], [], _, _ => rfl
theorem nd_is_rate : (["thing"] : List Str).Nodup := by decide +kernel
theorem sc_is_rate : FnScope ["thing"] ["thing"] d_is_rate.scope := ⟨rfl, rfl, rfl, nd_is_rate, rfl, by decide +kernel, by decide +kernel⟩
theorem ok_is_rate (F : Fx T mg lw) (hcf : T.cf = cf) (hx0 : T.xc = none) (hT : T.tabs = tabsOf T.K lw.tf) (TB : TabsB T.K mg base (lw.tf.map (·.1))) : OkF T P w mg base 2 d_is_rate ["thing"] m_is_rate := by
  obtain ⟨fd, FD⟩ := F.defs 9 d_is_rate rfl
  refine OkF.mk' (N := ["thing"]) FD sc_is_rate fun cdv A outer s H E hr => ?_
  show ISs T E _ (defBody (top 34)) b_is_rate
  exact (is_cons (is_if (iw_pt (iw_or (ib_not (ib_val (ie_isi (tys := tysL) (Tt := .b "tuple") (by rfl) (by rfl) (by exact F.f "isinstance") (ie_v 0) (isTy_b (by rfl) (by exact F.f "tuple") (by decide +kernel)) (by exact F.is' tysL) (by exact F.ki tysL (.b "tuple"))))) (iw_or1 (ib_cmp (oi_neP (by rfl) (by exact hr.rm.units)) (ie_b (by exact call_len) bo_lenA (by rfl) (by exact F.f "len") (by decide +kernel) (ia_cons (ie_v 0) ia_nil)) ie_int (by rfl))))) (is_one (is_ret ie_bl)) is_nil)
  (is_cons (is_if (iw_pt (iw_or (ib_not (ib_val (ie_fnF (by exact ok_is_whole F hcf hx0 hT TB) (by rfl) (by exact hr.mono (by decide)) (by rfl) (by exact F.g "is_whole") kb_is_whole_0 (by exact tk_cx) (ak_cons (ia_cons (ie_idxB (by rfl) (by exact hu1 hr) (ie_v 0) ie_int) (ia_cons ie_int (ia_cons (ie_gint (by rfl) (by exact F.i "LAST_MONEY" 3)) ia_nil))) ik_nil)))) (iw_or1 (ib_not (ib_val (ie_fnF (by exact ok_is_whole F hcf hx0 hT TB) (by rfl) (by exact hr.mono (by decide)) (by rfl) (by exact F.g "is_whole") kb_is_whole_0 (by exact tk_cx) (ak_cons (ia_cons (ie_idxB (by rfl) (by exact hu1 hr) (ie_v 0) ie_int) (ia_cons ie_int (ia_cons (ie_gint (by rfl) (by exact F.i "LAST_DAY" 59)) ia_nil))) ik_nil))))))) (is_one (is_ret ie_bl)) is_nil)
  (is_one (is_ret (ie_and (ie_fnF (by exact ok_is_whole F hcf hx0 hT TB) (by rfl) (by exact hr.mono (by decide)) (by rfl) (by exact F.g "is_whole") kb_is_whole_0 (by exact tk_cx) (ak_cons (ia_cons (ie_idxB (by rfl) (by exact hu1 hr) (ie_v 0) ie_int) (ia_cons ie_int (ia_cons (ie_gint (by rfl) (by exact F.i "MOST_PART" 1000000)) ia_nil))) ik_nil)) (ie_one (ie_fnF (by exact ok_is_whole F hcf hx0 hT TB) (by rfl) (by exact hr.mono (by decide)) (by rfl) (by exact F.g "is_whole") kb_is_whole_0 (by exact tk_cx) (ak_cons (ia_cons (ie_idxB (by rfl) (by exact hu1 hr) (ie_v 0) ie_int) (ia_cons ie_int (ia_cons (ie_gint (by rfl) (by exact F.i "MOST_PART" 1000000)) ia_nil))) ik_nil))))))))
theorem kb_is_rate_0 (fd : FuncData) (FD : FunD T.K d_is_rate.name d_is_rate.qual d_is_rate.params d_is_rate.body d_is_rate.scope (d_is_rate.dvs T.K) [] (He.fAd T.K d_is_rate.at_) fd) : KBD T fd ["thing"] 1 [] [(0, 0)] [] :=
  kbd_n FD fun kV doc pm an cdv ct us ws h1 h2 => match us, ws, h1, h2 with | [_], [], _, _ => rfl
theorem nd_need_rates : (["rates", "one", "other"] : List Str).Nodup := by decide +kernel
theorem sc_need_rates : FnScope ["rates", "one", "other"] ["rates"] d_need_rates.scope := ⟨rfl, rfl, rfl, nd_need_rates, rfl, by decide +kernel, by decide +kernel⟩
theorem ok_need_rates (F : Fx T mg lw) (hcf : T.cf = cf) (hx0 : T.xc = none) (hT : T.tabs = tabsOf T.K lw.tf) (TB : TabsB T.K mg base (lw.tf.map (·.1))) : OkF T P w mg base 3 d_need_rates ["rates"] m_need_rates := by
  obtain ⟨fd, FD⟩ := F.defs 10 d_need_rates rfl
  refine OkF.mk' (N := ["rates", "one", "other"]) FD sc_need_rates fun cdv A outer s H E hr => ?_
  show ISs T E _ (defBody (top 35)) b_need_rates
  exact (is_cons (is_if (iw_pt (iw_or (ib_not (ib_val (ie_isi (tys := tysL) (Tt := .b "tuple") (by rfl) (by rfl) (by exact F.f "isinstance") (ie_v 0) (isTy_b (by rfl) (by exact F.f "tuple") (by decide +kernel)) (by exact F.is' tysL) (by exact F.ki tysL (.b "tuple"))))) (iw_or (ib_cmp (oi_gt) (ie_b (by exact call_len) bo_lenA (by rfl) (by exact F.f "len") (by decide +kernel) (ia_cons (ie_v 0) ia_nil)) (ie_gint (by rfl) (by exact F.i "MOST_RATES" 12)) (by rfl)) (iw_or1 (ib_not (ib_val (ie_b (by exact cr_all rfl) bo_all (by rfl) (by exact F.f "all") (by decide +kernel) (ia_cons (ie_lc (own := [("one", 1)]) (by rfl) nd_need_rates (ii_any (by rfl) (ie_v 0)) (blk_by (by kernel_rfl)) (fun _ _ _ _ _ => (ig_n 1 nd_need_rates)) (fun _ _ _ _ _ => its_nil) (fun _ _ _ _ _ => (ie_fnF (by exact ok_is_rate F hcf hx0 hT TB) (by rfl) (by exact hr.mono (by decide)) (by rfl) (by exact F.g "is_rate") kb_is_rate_0 (by exact tk_no) (ak_cons (ia_cons (ie_v 1) ia_nil) ik_nil)))) ia_nil)))))))) (is_one (is_raise0 (c := "NoRates") (by rfl) (by rfl) (by exact tk_cx) (by exact He_exc F 0) (by rfl) (by exact F.g "NoRates"))) is_nil)
  (is_one (is_if (ib_not (ib_val (ie_b (by exact cr_all rfl) bo_all (by rfl) (by exact F.f "all") (by decide +kernel) (ia_cons (ie_lc (own := [("one", 1), ("other", 2)]) (by rfl) nd_need_rates (ii_zip (by rfl) (by rfl) (by exact F.f "zip") (ia_cons (ie_cut (by rfl) (ie_v 0) io_none (io_some (ie_neg ie_int))) (ia_cons (ie_cut (by rfl) (ie_v 0) (io_some ie_int) io_none) ia_nil))) (blk_by (by kernel_rfl)) (fun _ _ _ _ _ => (ig_tup (by rfl) (igs_cons (ig_n 1 nd_need_rates) (igs_cons (ig_n 2 nd_need_rates) igs_nil)) (len_cons (len_cons len_nil)))) (fun _ _ _ _ _ => its_nil) (fun _ _ _ _ _ => (ie_cmp (oi_ltA (by rfl) (by exact hr.rm.units0)) (ie_cut (by rfl) (ie_v 1) io_none (io_some ie_int)) (ie_cut (by rfl) (ie_v 2) io_none (io_some ie_int)) (by rfl)))) ia_nil)))) (is_one (is_raise0 (c := "NoRates") (by rfl) (by rfl) (by exact tk_cx) (by exact He_exc F 0) (by rfl) (by exact F.g "NoRates"))) is_nil)))
theorem kb_need_rates_0 (fd : FuncData) (FD : FunD T.K d_need_rates.name d_need_rates.qual d_need_rates.params d_need_rates.body d_need_rates.scope (d_need_rates.dvs T.K) [] (He.fAd T.K d_need_rates.at_) fd) : KBD T fd ["rates"] 1 [] [(0, 0)] [] :=
  kbd_n FD fun kV doc pm an cdv ct us ws h1 h2 => match us, ws, h1, h2 with | [_], [], _, _ => rfl
theorem nd_NoRate_init : (["self", "money", "day"] : List Str).Nodup := by decide +kernel
theorem sc_NoRate_init : FnScope ["self", "money", "day"] ["self", "money", "day"] d_NoRate_init.scope := ⟨rfl, rfl, rfl, nd_NoRate_init, rfl, by decide +kernel, by decide +kernel⟩
theorem bi_NoRate_init (fd : FuncData) (FD : FunD T.K d_NoRate_init.name d_NoRate_init.qual d_NoRate_init.params d_NoRate_init.body d_NoRate_init.scope (d_NoRate_init.dvs T.K) [] (He.fAd T.K d_NoRate_init.at_) fd) : L2.Binds T.K fd ["self", "money", "day"] [] := FunD.bindsN FD fun _ _ _ _ _ _ us hl => match us, hl with | [_, _, _], _ => rfl
theorem oi_NoRate (F : Fx T mg lw) : InitOk T P w mg base 1 d_NoRate_init ["self", "money", "day"] "NoRate" ["money", "day"] btLE "LookupError" "LookupError.__new__" "LookupError.__init__" := by
  obtain ⟨fd, FD⟩ := F.defs 11 d_NoRate_init rfl
  have X := xi_of (F.b 0)
  have ob := initIs_of (F.b 1)
  exact InitOk.of2 xbLE X.xc FD sc_NoRate_init (by rfl) (X.no "money" (by simp)) (X.no "day" (by simp)) (hcall := fun cdv A outer s H E ta ha => pe_xin_blt xbLE (by rfl) (by exact F.f "LookupError") (by kernel_rfl) tyLE (by decide +kernel) ob ha)
theorem nd_rate_by : (["rates", "money", "day", "some", "one"] : List Str).Nodup := by decide +kernel
theorem sc_rate_by : FnScope ["rates", "money", "day", "some", "one"] ["rates", "money", "day"] d_rate_by.scope := ⟨rfl, rfl, rfl, nd_rate_by, rfl, by decide +kernel, by decide +kernel⟩
theorem ok_rate_by (F : Fx T mg lw) (hcf : T.cf = cf) (hx0 : T.xc = none) (hT : T.tabs = tabsOf T.K lw.tf) (TB : TabsB T.K mg base (lw.tf.map (·.1))) : OkF T P w mg base 3 d_rate_by ["rates", "money", "day"] m_rate_by := by
  obtain ⟨fd, FD⟩ := F.defs 12 d_rate_by rfl
  refine OkF.mk' (N := ["rates", "money", "day", "some", "one"]) FD sc_rate_by fun cdv A outer s H E hr => ?_
  show ISs T E _ (defBody (top 36)) b_rate_by
  exact (is_cons (is_if (ib_cmp (oi_eqP (by rfl) (by exact hr.rm.units)) (ie_v 1) ie_int (by rfl)) (is_one (is_ret (ie_tup (ia_cons ie_int (ia_cons ie_int ia_nil))))) is_nil)
  (is_cons (by first | exact (is_setLc (own := [("one", 4)]) (by rfl) nd_rate_by (by rfl) (by rfl) (by rfl) (ii_any (by rfl) (ie_v 0)) (blk_by (by kernel_rfl)) (fun _ _ _ _ _ => (ig_n 4 nd_rate_by)) (fun _ _ _ _ _ => (its_one (iw_pt (iw_and (ib_cmp (oi_eqP (by rfl) (by exact hr.rm.units)) (ie_idxB (by rfl) (by exact hu1 hr) (ie_v 4) ie_int) (ie_v 1) (by rfl)) (iw_and1 (ib_cmp (oi_le) (ie_idxB (by rfl) (by exact hu1 hr) (ie_v 4) ie_int) (ie_v 2) (by rfl))))))) (fun _ _ _ _ _ => (ie_v 4))) | exact (is_st 3 nd_rate_by (ie_lc (own := [("one", 4)]) (by rfl) nd_rate_by (ii_any (by rfl) (ie_v 0)) (blk_by (by kernel_rfl)) (fun _ _ _ _ _ => (ig_n 4 nd_rate_by)) (fun _ _ _ _ _ => (its_one (iw_pt (iw_and (ib_cmp (oi_eqP (by rfl) (by exact hr.rm.units)) (ie_idxB (by rfl) (by exact hu1 hr) (ie_v 4) ie_int) (ie_v 1) (by rfl)) (iw_and1 (ib_cmp (oi_le) (ie_idxB (by rfl) (by exact hu1 hr) (ie_v 4) ie_int) (ie_v 2) (by rfl))))))) (fun _ _ _ _ _ => (ie_v 4)))))
  (is_cons (is_if (ib_cmp (oi_eqP (by rfl) (by exact hr.rm.units)) (ie_v 3) (ie_lst ia_nil) (by rfl)) (is_one (is_raiseF (c := "NoRate") (by rfl) (by rfl) (by exact tk_cx) (oi_NoRate F) rfl (xi_of (F.b 0)) (by exact hr.mono (by decide)) bi_NoRate_init rfl (by rfl) (by exact F.g "NoRate") (ia_cons (ie_v 1) (ia_cons (ie_v 2) ia_nil)) (hlk2 (by rw [hcf]; rfl) (by decide +kernel)))) is_nil)
  (is_one (is_ret (ie_cut (by rfl) (ie_idxB (by rfl) (by exact hu1 hr) (ie_v 3) (ie_neg ie_int)) (io_some ie_int) io_none))))))
theorem kb_rate_by_0 (fd : FuncData) (FD : FunD T.K d_rate_by.name d_rate_by.qual d_rate_by.params d_rate_by.body d_rate_by.scope (d_rate_by.dvs T.K) [] (He.fAd T.K d_rate_by.at_) fd) : KBD T fd ["rates", "money", "day"] 3 [] [(0, 0), (0, 1), (0, 2)] [] :=
  kbd_n FD fun kV doc pm an cdv ct us ws h1 h2 => match us, ws, h1, h2 with | [_, _, _], [], _, _ => rfl
theorem nd_rate_on : (["rates", "money", "day"] : List Str).Nodup := by decide +kernel
theorem sc_rate_on : FnScope ["rates", "money", "day"] ["rates", "money", "day"] d_rate_on.scope := ⟨rfl, rfl, rfl, nd_rate_on, rfl, by decide +kernel, by decide +kernel⟩
theorem ok_rate_on (F : Fx T mg lw) (hcf : T.cf = cf) (hx0 : T.xc = none) (hT : T.tabs = tabsOf T.K lw.tf) (TB : TabsB T.K mg base (lw.tf.map (·.1))) : OkF T P w mg base 4 d_rate_on ["rates", "money", "day"] m_rate_on := by
  obtain ⟨fd, FD⟩ := F.defs 13 d_rate_on rfl
  refine OkF.mk' (N := ["rates", "money", "day"]) FD sc_rate_on fun cdv A outer s H E hr => ?_
  show ISs T E _ (defBody (top 37)) b_rate_on
  exact (is_cons (is_expr (ie_fnF (by exact ok_need_rates F hcf hx0 hT TB) (by rfl) (by exact hr.mono (by decide)) (by rfl) (by exact F.g "need_rates") kb_need_rates_0 (by exact tk_cx) (ak_cons (ia_cons (ie_v 0) ia_nil) ik_nil)))
  (is_one (is_ret (ie_fnF (by exact ok_rate_by F hcf hx0 hT TB) (by rfl) (by exact hr.mono (by decide)) (by rfl) (by exact F.g "rate_by") kb_rate_by_0 (by exact tk_cx) (ak_cons (ia_cons (ie_v 0) (ia_cons (ie_v 1) (ia_cons (ie_v 2) ia_nil))) ik_nil)))))
theorem kb_rate_on_0 (fd : FuncData) (FD : FunD T.K d_rate_on.name d_rate_on.qual d_rate_on.params d_rate_on.body d_rate_on.scope (d_rate_on.dvs T.K) [] (He.fAd T.K d_rate_on.at_) fd) : KBD T fd ["rates", "money", "day"] 3 [] [(0, 0), (0, 1), (0, 2)] [] :=
  kbd_n FD fun kV doc pm an cdv ct us ws h1 h2 => match us, ws, h1, h2 with | [_, _, _], [], _, _ => rfl
theorem kb_rate_on_1 (fd : FuncData) (FD : FunD T.K d_rate_on.name d_rate_on.qual d_rate_on.params d_rate_on.body d_rate_on.scope (d_rate_on.dvs T.K) [] (He.fAd T.K d_rate_on.at_) fd) : KBD T fd ["rates", "money", "day"] 0 ["rates", "day", "money"] [(2, 0), (2, 2), (2, 1)] [] :=
  kbd_n FD fun kV doc pm an cdv ct us ws h1 h2 => match us, ws, h1, h2 with | [], [_, _, _], _, _ => rfl
theorem nd__law_right : (["_law_table", "_law_coin", "_law_when", "_law_due"] : List Str).Nodup := by decide +kernel
theorem sc__law_right : FnScope ["_law_table", "_law_coin", "_law_when", "_law_due"] ["_law_table", "_law_coin", "_law_when"] d__law_right.scope := ⟨rfl, rfl, rfl, nd__law_right, rfl, by decide +kernel, by decide +kernel⟩
theorem ok__law_right (F : Fx T mg lw) (hcf : T.cf = cf) (hx0 : T.xc = none) (hT : T.tabs = tabsOf T.K lw.tf) (TB : TabsB T.K mg base (lw.tf.map (·.1))) : OkF T P w mg base 7 d__law_right ["_law_table", "_law_coin", "_law_when"] m__law_right := by
  obtain ⟨fd, FD⟩ := F.defs 14 d__law_right rfl
  refine OkF.mkL (N := ["_law_table", "_law_coin", "_law_when", "_law_due"]) FD sc__law_right fun cdv A outer s H E hcd hr => ?_
  show ISs T E _ (defBody (top 54)) b__law_right
  exact (is_cons (is_st 3 nd__law_right (ie_fnF (by exact ok__law_rate F hcf hx0 hT TB) (by rfl) (by exact hr.mono (by decide)) (by rfl) (by exact F.g "_law_rate") kb__law_rate_0 (by exact tk_cx) (ak_cons (ia_cons (ie_v 0) (ia_cons (ie_v 1) (ia_cons (ie_v 2) ia_nil))) ik_nil)))
  (is_cons (is_st 3 nd__law_right (ie_if (ib_cmp (oi_is) (ie_v 3) ie_non (by rfl)) (ie_tup (ia_cons ie_str (ia_cons (ie_v 1) (ia_cons (ie_v 2) ia_nil)))) (ie_tup (ia_cons ie_str (ia_cons (ie_v 3) ia_nil)))))
  (is_cons (is_if (ib_cmp (oi_neP (by rfl) (by exact hr.rm.units)) (ie_sd (q := ("_law_right", none)) (qs := "_law_right.<locals>.") (k := 4) (m := (eFn (callM m_rate_on 3 0 3 [(0, 0), (0, 1), (0, 2)] []) (aCons (eVar 0) (aCons (eVar 1) (aCons (eVar 2) aNil))) aNil)) F hcf hx0 hT TB (by decide +kernel) (by decide +kernel) (by decide) (by exact hcd) (by exact hr.mono (by decide)) (by rfl) (lamS_by (by kernel_rfl)) (by rfl) (fun _ _ _ _ _ => by rfl) (fun A outer s H E f c hr => (ie_fnF (by exact ok_rate_on F hcf hx0 hT TB) (by rfl) (by exact hr.mono (by decide)) (by rfl) (by exact F.g "rate_on") kb_rate_on_0 (by exact tk_lam) (ak_cons (ia_cons (ie_v 0) (ia_cons (ie_v 1) (ia_cons (ie_v 2) ia_nil))) ik_nil)))) (ie_v 3) (by rfl)) (is_one (is_ret ie_bl)) is_nil)
  (is_one (is_ret (ie_cmp (oi_eqP (by rfl) (by exact hr.rm.units)) (ie_sd (q := ("_law_right", none)) (qs := "_law_right.<locals>.") (k := 4) (m := (eFn (callM m_rate_on 0 3 3 [(2, 0), (2, 2), (2, 1)] []) aNil (aCons (eVar 0) (aCons (eVar 2) (aCons (eVar 1) aNil))))) F hcf hx0 hT TB (by decide +kernel) (by decide +kernel) (by decide) (by exact hcd) (by exact hr.mono (by decide)) (by rfl) (lamS_by (by kernel_rfl)) (by rfl) (fun _ _ _ _ _ => by rfl) (fun A outer s H E f c hr => (ie_fnF (by exact ok_rate_on F hcf hx0 hT TB) (by rfl) (by exact hr.mono (by decide)) (by rfl) (by exact F.g "rate_on") kb_rate_on_1 (by exact tk_lam) (ak_nil (ik_cons (ie_v 0) (ik_cons (ie_v 2) (ik_cons (ie_v 1) ik_nil))))))) (ie_v 3) (by rfl)))))))
theorem kb__law_right_0 (fd : FuncData) (FD : FunD T.K d__law_right.name d__law_right.qual d__law_right.params d__law_right.body d__law_right.scope (d__law_right.dvs T.K) [] (He.fAd T.K d__law_right.at_) fd) : KBD T fd ["_law_table", "_law_coin", "_law_when"] 3 [] [(0, 0), (0, 1), (0, 2)] [] :=
  kbd_n FD fun kV doc pm an cdv ct us ws h1 h2 => match us, ws, h1, h2 with | [_, _, _], [], _, _ => rfl
theorem nd__law_odd : (["_law_box_here", "_law_some"] : List Str).Nodup := by decide +kernel
theorem sc__law_odd : FnScope ["_law_box_here", "_law_some"] ["_law_box_here"] d__law_odd.scope := ⟨rfl, rfl, rfl, nd__law_odd, rfl, by decide +kernel, by decide +kernel⟩
theorem ok__law_odd (F : Fx T mg lw) (hcf : T.cf = cf) (hx0 : T.xc = none) (hT : T.tabs = tabsOf T.K lw.tf) (TB : TabsB T.K mg base (lw.tf.map (·.1))) : OkF T P w mg base 3 d__law_odd ["_law_box_here"] m__law_odd := by
  obtain ⟨fd, FD⟩ := F.defs 15 d__law_odd rfl
  refine OkF.mk' (N := ["_law_box_here", "_law_some"]) FD sc__law_odd fun cdv A outer s H E hr => ?_
  show ISs T E _ (defBody (top 47)) b__law_odd
  exact (is_cons (is_st 1 nd__law_odd (ie_lst (ia_cons ie_non (ia_cons ie_bl (ia_cons ie_bl (ia_cons ie_int (ia_cons (ie_neg ie_int) (ia_cons ie_int (ia_cons ie_int (ia_cons (ie_op (oi_add (by rfl)) (ie_op (oi_pow) ie_int ie_int) ie_int) (ia_cons (ie_op (oi_pow) ie_int ie_int) (ia_cons ie_str (ia_cons ie_str (ia_cons ie_str (ia_cons ie_str (ia_cons (ie_tup ia_nil) (ia_cons (ie_lst ia_nil) (ia_cons ie_dct0 (ia_cons (ie_tup (ia_cons ie_int ia_nil)) (ia_cons (ie_lst (ia_cons ie_int ia_nil)) ia_nil))))))))))))))))))))
  (is_one (is_ret (ie_idxB (by rfl) (by exact hu1 hr) (ie_op (oi_add (by rfl)) (ie_v 1) (ie_lst (ia_cons (ie_tup (ia_cons ie_str ia_nil)) (ia_cons (ie_dctC (l := [(.inl 0, .int 1)]) (.cons (y := .inl 0) ce_int ce_int rfl .nil) (by simp) (by decide) (by decide)) ia_nil)))) (ie_fnF (by exact ok__law_take F hcf hx0 hT TB) (by rfl) (by exact hr.mono (by decide)) (by rfl) (by exact F.g "_law_take") kb__law_take_0 (by exact tk_cx) (ak_cons (ia_cons (ie_v 0) (ia_cons ie_int ia_nil)) ik_nil))))))
theorem kb__law_odd_0 (fd : FuncData) (FD : FunD T.K d__law_odd.name d__law_odd.qual d__law_odd.params d__law_odd.body d__law_odd.scope (d__law_odd.dvs T.K) [] (He.fAd T.K d__law_odd.at_) fd) : KBD T fd ["_law_box_here"] 1 [] [(0, 0)] [] :=
  kbd_n FD fun kV doc pm an cdv ct us ws h1 h2 => match us, ws, h1, h2 with | [_], [], _, _ => rfl
theorem nd__law_bent : (["_law_box_here", "_law_table", "_law_row", "_law_at", "_law_way", "_law_one"] : List Str).Nodup := by decide +kernel
theorem sc__law_bent : FnScope ["_law_box_here", "_law_table", "_law_row", "_law_at", "_law_way", "_law_one"] ["_law_box_here", "_law_table"] d__law_bent.scope := ⟨rfl, rfl, rfl, nd__law_bent, rfl, by decide +kernel, by decide +kernel⟩
theorem ok__law_bent (F : Fx T mg lw) (hcf : T.cf = cf) (hx0 : T.xc = none) (hT : T.tabs = tabsOf T.K lw.tf) (TB : TabsB T.K mg base (lw.tf.map (·.1))) : OkF T P w mg base 4 d__law_bent ["_law_box_here", "_law_table"] m__law_bent := by
  obtain ⟨fd, FD⟩ := F.defs 16 d__law_bent rfl
  refine OkF.mk' (N := ["_law_box_here", "_law_table", "_law_row", "_law_at", "_law_way", "_law_one"]) FD sc__law_bent fun cdv A outer s H E hr => ?_
  show ISs T E _ (defBody (top 52)) b__law_bent
  exact (is_cons (by first | exact (is_par2 3 4 nd__law_bent (ia_cons (ie_fnF (by exact ok__law_take F hcf hx0 hT TB) (by rfl) (by exact hr.mono (by decide)) (by rfl) (by exact F.g "_law_take") kb__law_take_0 (by exact tk_cx) (ak_cons (ia_cons (ie_v 0) (ia_cons (ie_op (oi_add (by rfl)) (ie_b (by exact call_len) bo_lenA (by rfl) (by exact F.f "len") (by decide +kernel) (ia_cons (ie_v 1) ia_nil)) ie_int) ia_nil)) ik_nil)) (ia_cons (ie_fnF (by exact ok__law_take F hcf hx0 hT TB) (by rfl) (by exact hr.mono (by decide)) (by rfl) (by exact F.g "_law_take") kb__law_take_0 (by exact tk_cx) (ak_cons (ia_cons (ie_v 0) (ia_cons ie_int ia_nil)) ik_nil)) ia_nil))) | exact (is_par2u (is_unp (vs := allN 6) (ie_tup (ia_cons (ie_fnF (by exact ok__law_take F hcf hx0 hT TB) (by rfl) (by exact hr.mono (by decide)) (by rfl) (by exact F.g "_law_take") kb__law_take_0 (by exact tk_cx) (ak_cons (ia_cons (ie_v 0) (ia_cons (ie_op (oi_add (by rfl)) (ie_b (by exact call_len) bo_lenA (by rfl) (by exact F.f "len") (by decide +kernel) (ia_cons (ie_v 1) ia_nil)) ie_int) ia_nil)) ik_nil)) (ia_cons (ie_fnF (by exact ok__law_take F hcf hx0 hT TB) (by rfl) (by exact hr.mono (by decide)) (by rfl) (by exact F.g "_law_take") kb__law_take_0 (by exact tk_cx) (ak_cons (ia_cons (ie_v 0) (ia_cons ie_int ia_nil)) ik_nil)) ia_nil))) (ig_tup (by rfl) (igs_cons (ig_n 3 nd__law_bent) (igs_cons (ig_n 4 nd__law_bent) igs_nil)) (len_cons (len_cons len_nil))))))
  (is_cons (is_st 2 nd__law_bent (ie_lst (ia_cons (ie_tup (ia_cons ie_int (ia_cons ie_int (ia_cons ie_int (ia_cons ie_int ia_nil))))) (ia_cons (ie_tup (ia_cons ie_int (ia_cons ie_int (ia_cons ie_int (ia_cons ie_int ia_nil))))) (ia_cons (ie_tup (ia_cons ie_int (ia_cons ie_int (ia_cons ie_int (ia_cons ie_int ia_nil))))) (ia_cons (ie_tup (ia_cons ie_int (ia_cons ie_int (ia_cons ie_int (ia_cons ie_int ia_nil))))) (ia_cons (ie_tup (ia_cons ie_int (ia_cons ie_int (ia_cons ie_int (ia_cons ie_int ia_nil))))) (ia_cons (ie_tup (ia_cons ie_int (ia_cons ie_bl (ia_cons ie_int (ia_cons ie_int ia_nil))))) ia_nil))))))))
  (is_cons (is_st 2 nd__law_bent (ie_idxB (by rfl) (by exact hu1 hr) (ie_op (oi_add (by rfl)) (ie_v 2) (ie_lst (ia_cons (ie_tup (ia_cons ie_int (ia_cons ie_int (ia_cons ie_int ia_nil)))) (ia_cons (ie_lst (ia_cons ie_int (ia_cons ie_int (ia_cons ie_int (ia_cons ie_int ia_nil))))) (ia_cons (ie_tup (ia_cons ie_int (ia_cons ie_int (ia_cons (ie_op (oi_add (by rfl)) (ie_op (oi_pow) ie_int ie_int) ie_int) (ia_cons ie_int ia_nil))))) (ia_cons ie_non (ia_cons (ie_tup (ia_cons ie_int (ia_cons ie_int (ia_cons ie_int (ia_cons ie_int ia_nil))))) ia_nil))))))) (ie_fnF (by exact ok__law_take F hcf hx0 hT TB) (by rfl) (by exact hr.mono (by decide)) (by rfl) (by exact F.g "_law_take") kb__law_take_0 (by exact tk_cx) (ak_cons (ia_cons (ie_v 0) (ia_cons ie_int ia_nil)) ik_nil))))
  (is_cons (is_if (ib_cmp (oi_ltA (by rfl) (by exact hr.rm.units0)) (ie_v 4) ie_int (by rfl)) (is_one (is_ret (ie_op (oi_add (by rfl)) (ie_op (oi_add (by rfl)) (ie_cut (by rfl) (ie_v 1) io_none (io_some (ie_v 3))) (ie_tup (ia_cons (ie_v 2) ia_nil))) (ie_cut (by rfl) (ie_v 1) (io_some (ie_v 3)) io_none)))) is_nil)
  (is_cons (is_if (ib_cmp (oi_eqP (by rfl) (by exact hr.rm.units)) (ie_v 4) ie_int (by rfl)) (is_one (is_ret (ie_revT (by rfl) (ie_v 1)))) is_nil)
  (is_cons (is_if (ib_cmp (oi_eqP (by rfl) (by exact hr.rm.units)) (ie_v 4) ie_int (by rfl)) (is_one (is_ret (ie_op (oi_add (by rfl)) (ie_v 1) (ie_cut (by rfl) (ie_v 1) (io_some (ie_neg ie_int)) io_none)))) is_nil)
  (is_cons (is_if (ib_cmp (oi_eqP (by rfl) (by exact hr.rm.units)) (ie_v 4) ie_int (by rfl)) (is_one (is_ret (ie_op (oi_add (by rfl)) (ie_op (oi_add (by rfl)) (ie_cut (by rfl) (ie_v 1) io_none (io_some (ie_v 3))) (ie_bt (by exact call_tuple_of) bo_tuple (by rfl) (by exact F.f "tuple") (by decide +kernel) (ia_cons (ie_lc (own := [("_law_one", 5)]) (by rfl) nd__law_bent (ii_any (by rfl) (ie_cut (by rfl) (ie_v 1) io_none (io_some ie_int))) (blk_by (by kernel_rfl)) (fun _ _ _ _ _ => (ig_n 5 nd__law_bent)) (fun _ _ _ _ _ => its_nil) (fun _ _ _ _ _ => (ie_op (oi_add (by rfl)) (ie_cut (by rfl) (ie_v 5) io_none (io_some ie_int)) (ie_tup (ia_cons (ie_op (oi_add (by rfl)) (ie_op (oi_mod) (ie_idxB (by rfl) (by exact hu1 hr) (ie_v 5) ie_int) (ie_op (oi_pow) ie_int ie_int)) ie_int) (ia_cons (ie_idxB (by rfl) (by exact hu1 hr) (ie_v 5) ie_int) ia_nil)))))) ia_nil))) (ie_cut (by rfl) (ie_v 1) (io_some (ie_v 3)) io_none)))) is_nil)
  (is_one (is_ret (ie_if (ib_cmp (oi_eqP (by rfl) (by exact hr.rm.units)) (ie_v 4) ie_int (by rfl)) (ie_bt (by exact call_list_of) bo_list (by rfl) (by exact F.f "list") (by decide +kernel) (ia_cons (ie_v 1) ia_nil)) (ie_fnF (by exact ok__law_odd F hcf hx0 hT TB) (by rfl) (by exact hr.mono (by decide)) (by rfl) (by exact F.g "_law_odd") kb__law_odd_0 (by exact tk_cx) (ak_cons (ia_cons (ie_v 0) ia_nil) ik_nil))))))))))))
theorem kb__law_bent_0 (fd : FuncData) (FD : FunD T.K d__law_bent.name d__law_bent.qual d__law_bent.params d__law_bent.body d__law_bent.scope (d__law_bent.dvs T.K) [] (He.fAd T.K d__law_bent.at_) fd) : KBD T fd ["_law_box_here", "_law_table"] 2 [] [(0, 0), (0, 1)] [] :=
  kbd_n FD fun kV doc pm an cdv ct us ws h1 h2 => match us, ws, h1, h2 with | [_, _], [], _, _ => rfl
theorem nd__law_odd_rates : (["_law_some", "_law_row"] : List Str).Nodup := by decide +kernel
theorem sc__law_odd_rates : FnScope ["_law_some", "_law_row"] [] d__law_odd_rates.scope := ⟨rfl, rfl, rfl, nd__law_odd_rates, rfl, by decide +kernel, by decide +kernel⟩
theorem ok__law_odd_rates (F : Fx T mg lw) (hcf : T.cf = cf) (hx0 : T.xc = none) (hT : T.tabs = tabsOf T.K lw.tf) (TB : TabsB T.K mg base (lw.tf.map (·.1))) : OkF T P w mg base 1 d__law_odd_rates [] m__law_odd_rates := by
  obtain ⟨fd, FD⟩ := F.defs 17 d__law_odd_rates rfl
  refine OkF.mk' (N := ["_law_some", "_law_row"]) FD sc__law_odd_rates fun cdv A outer s H E hr => ?_
  show ISs T E _ (defBody (top 53)) b__law_odd_rates
  exact (is_cons (is_st 0 nd__law_odd_rates (ie_lst (ia_cons (ie_tup (ia_cons ie_bl (ia_cons ie_int (ia_cons ie_int (ia_cons ie_int ia_nil))))) (ia_cons (ie_tup (ia_cons ie_int (ia_cons ie_bl (ia_cons ie_int (ia_cons ie_int ia_nil))))) (ia_cons (ie_tup (ia_cons ie_int (ia_cons ie_int (ia_cons ie_bl (ia_cons ie_int ia_nil))))) (ia_cons (ie_tup (ia_cons ie_int (ia_cons ie_int (ia_cons ie_int (ia_cons ie_bl ia_nil))))) (ia_cons (ie_tup (ia_cons (ie_neg ie_int) (ia_cons ie_int (ia_cons ie_int (ia_cons ie_int ia_nil))))) (ia_cons (ie_tup (ia_cons ie_int (ia_cons (ie_neg ie_int) (ia_cons ie_int (ia_cons ie_int ia_nil))))) ia_nil))))))))
  (is_cons (is_st 0 nd__law_odd_rates (ie_op (oi_add (by rfl)) (ie_v 0) (ie_lst (ia_cons (ie_tup (ia_cons ie_int (ia_cons ie_int (ia_cons (ie_neg ie_int) (ia_cons ie_int ia_nil))))) (ia_cons (ie_tup (ia_cons ie_int (ia_cons ie_int (ia_cons ie_int (ia_cons (ie_neg ie_int) ia_nil))))) (ia_cons (ie_tup (ia_cons ie_int (ia_cons ie_int (ia_cons ie_int (ia_cons (ie_op (oi_add (by rfl)) (ie_op (oi_pow) ie_int ie_int) ie_int) ia_nil))))) (ia_cons (ie_tup (ia_cons ie_non (ia_cons ie_int (ia_cons ie_int (ia_cons ie_int ia_nil))))) (ia_cons (ie_tup (ia_cons ie_int (ia_cons ie_non (ia_cons ie_int (ia_cons ie_int ia_nil))))) ia_nil))))))))
  (is_cons (is_st 0 nd__law_odd_rates (ie_op (oi_add (by rfl)) (ie_v 0) (ie_lst (ia_cons (ie_tup (ia_cons ie_int (ia_cons ie_int (ia_cons ie_non (ia_cons ie_int ia_nil))))) (ia_cons (ie_tup (ia_cons ie_int (ia_cons ie_int (ia_cons ie_int (ia_cons ie_non ia_nil))))) (ia_cons (ie_tup (ia_cons ie_int (ia_cons ie_str (ia_cons ie_int (ia_cons ie_int ia_nil))))) (ia_cons (ie_tup (ia_cons (ie_lst (ia_cons ie_int ia_nil)) (ia_cons ie_int (ia_cons ie_int (ia_cons ie_int ia_nil))))) (ia_cons (ie_tup (ia_cons ie_int (ia_cons (ie_lst (ia_cons ie_int ia_nil)) (ia_cons ie_int (ia_cons ie_int ia_nil))))) (ia_cons (ie_tup ia_nil) ia_nil)))))))))
  (is_one (is_ret (ie_lc (own := [("_law_row", 1)]) (by rfl) nd__law_odd_rates (ii_any (by rfl) (ie_v 0)) (blk_by (by kernel_rfl)) (fun _ _ _ _ _ => (ig_n 1 nd__law_odd_rates)) (fun _ _ _ _ _ => its_nil) (fun _ _ _ _ _ => (ie_tup (ia_cons (ie_v 1) ia_nil)))))))))
theorem kb__law_odd_rates_0 (fd : FuncData) (FD : FunD T.K d__law_odd_rates.name d__law_odd_rates.qual d__law_odd_rates.params d__law_odd_rates.body d__law_odd_rates.scope (d__law_odd_rates.dvs T.K) [] (He.fAd T.K d__law_odd_rates.at_) fd) : KBD T fd [] 0 [] [] [] :=
  kbd_n FD fun kV doc pm an cdv ct us ws h1 h2 => match us, ws, h1, h2 with | [], [], _, _ => rfl
theorem nd__law_whole : (["_law_thing", "_law_low", "_law_high"] : List Str).Nodup := by decide +kernel
theorem sc__law_whole : FnScope ["_law_thing", "_law_low", "_law_high"] ["_law_thing", "_law_low", "_law_high"] d__law_whole.scope := ⟨rfl, rfl, rfl, nd__law_whole, rfl, by decide +kernel, by decide +kernel⟩
theorem ok__law_whole (F : Fx T mg lw) (hcf : T.cf = cf) (hx0 : T.xc = none) (hT : T.tabs = tabsOf T.K lw.tf) (TB : TabsB T.K mg base (lw.tf.map (·.1))) : OkF T P w mg base 1 d__law_whole ["_law_thing", "_law_low", "_law_high"] m__law_whole := by
  obtain ⟨fd, FD⟩ := F.defs 18 d__law_whole rfl
  refine OkF.mk' (N := ["_law_thing", "_law_low", "_law_high"]) FD sc__law_whole fun cdv A outer s H E hr => ?_
  show ISs T E _ (defBody (top 48)) b__law_whole
  exact (is_one (is_ret (ie_and (ie_isi (tys := tysL) (Tt := .b "int") (by rfl) (by rfl) (by exact F.f "isinstance") (ie_v 0) (isTy_b (by rfl) (by exact F.f "int") (by decide +kernel)) (by exact F.is' tysL) (by exact F.ki tysL (.b "int"))) (ie_and (ie_not (ie_isi (tys := tysL) (Tt := .b "bool") (by rfl) (by rfl) (by exact F.f "isinstance") (ie_v 0) (isTy_b (by rfl) (by exact F.f "bool") (by decide +kernel)) (by exact F.is' tysL) (by exact F.ki tysL (.b "bool")))) (ie_one (ie_chain (oi_le) (oi_le) (ie_v 1) (ie_v 0) (ie_v 2)))))))
theorem kb__law_whole_0 (fd : FuncData) (FD : FunD T.K d__law_whole.name d__law_whole.qual d__law_whole.params d__law_whole.body d__law_whole.scope (d__law_whole.dvs T.K) [] (He.fAd T.K d__law_whole.at_) fd) : KBD T fd ["_law_thing", "_law_low", "_law_high"] 3 [] [(0, 0), (0, 1), (0, 2)] [] :=
  kbd_n FD fun kV doc pm an cdv ct us ws h1 h2 => match us, ws, h1, h2 with | [_, _, _], [], _, _ => rfl
theorem nd__law_are : (["_law_thing", "_law_row", "_law_keys"] : List Str).Nodup := by decide +kernel
theorem sc__law_are : FnScope ["_law_thing", "_law_row", "_law_keys"] ["_law_thing"] d__law_are.scope := ⟨rfl, rfl, rfl, nd__law_are, rfl, by decide +kernel, by decide +kernel⟩
theorem ok__law_are (F : Fx T mg lw) (hcf : T.cf = cf) (hx0 : T.xc = none) (hT : T.tabs = tabsOf T.K lw.tf) (TB : TabsB T.K mg base (lw.tf.map (·.1))) : OkF T P w mg base 2 d__law_are ["_law_thing"] m__law_are := by
  obtain ⟨fd, FD⟩ := F.defs 19 d__law_are rfl
  refine OkF.mk' (N := ["_law_thing", "_law_row", "_law_keys"]) FD sc__law_are fun cdv A outer s H E hr => ?_
  show ISs T E _ (defBody (top 51)) b__law_are
  exact (is_cons (is_if (iw_pt (iw_or (ib_not (ib_val (ie_isi (tys := tysL) (Tt := .b "tuple") (by rfl) (by rfl) (by exact F.f "isinstance") (ie_v 0) (isTy_b (by rfl) (by exact F.f "tuple") (by decide +kernel)) (by exact F.is' tysL) (by exact F.ki tysL (.b "tuple"))))) (iw_or1 (ib_cmp (oi_gt) (ie_b (by exact call_len) bo_lenA (by rfl) (by exact F.f "len") (by decide +kernel) (ia_cons (ie_v 0) ia_nil)) ie_int (by rfl))))) (is_one (is_ret ie_bl)) is_nil)
  (is_cons (is_for (vs := allN 3) (by exact passes_of rfl) (by rfl) (ii_any (by rfl) (ie_v 0)) (ig_n 1 nd__law_are) (is_cons (is_if (iw_pt (iw_or (ib_not (ib_val (ie_isi (tys := tysL) (Tt := .b "tuple") (by rfl) (by rfl) (by exact F.f "isinstance") (ie_v 1) (isTy_b (by rfl) (by exact F.f "tuple") (by decide +kernel)) (by exact F.is' tysL) (by exact F.ki tysL (.b "tuple"))))) (iw_or (ib_cmp (oi_neP (by rfl) (by exact hr.rm.units)) (ie_b (by exact call_len) bo_lenA (by rfl) (by exact F.f "len") (by decide +kernel) (ia_cons (ie_v 1) ia_nil)) ie_int (by rfl)) (iw_or (ib_not (ib_val (ie_fnF (by exact ok__law_whole F hcf hx0 hT TB) (by rfl) (by exact hr.mono (by decide)) (by rfl) (by exact F.g "_law_whole") kb__law_whole_0 (by exact tk_cx) (ak_cons (ia_cons (ie_idxB (by rfl) (by exact hu1 hr) (ie_v 1) ie_int) (ia_cons ie_int (ia_cons ie_int ia_nil))) ik_nil)))) (iw_or1 (ib_not (ib_val (ie_fnF (by exact ok__law_whole F hcf hx0 hT TB) (by rfl) (by exact hr.mono (by decide)) (by rfl) (by exact F.g "_law_whole") kb__law_whole_0 (by exact tk_cx) (ak_cons (ia_cons (ie_idxB (by rfl) (by exact hu1 hr) (ie_v 1) ie_int) (ia_cons ie_int (ia_cons ie_int ia_nil))) ik_nil))))))))) (is_one (is_ret ie_bl)) is_nil)
  (is_one (is_if (iw_pt (iw_or (ib_not (ib_val (ie_fnF (by exact ok__law_whole F hcf hx0 hT TB) (by rfl) (by exact hr.mono (by decide)) (by rfl) (by exact F.g "_law_whole") kb__law_whole_0 (by exact tk_cx) (ak_cons (ia_cons (ie_idxB (by rfl) (by exact hu1 hr) (ie_v 1) ie_int) (ia_cons ie_int (ia_cons (ie_op (oi_pow) ie_int ie_int) ia_nil))) ik_nil)))) (iw_or1 (ib_not (ib_val (ie_fnF (by exact ok__law_whole F hcf hx0 hT TB) (by rfl) (by exact hr.mono (by decide)) (by rfl) (by exact F.g "_law_whole") kb__law_whole_0 (by exact tk_cx) (ak_cons (ia_cons (ie_idxB (by rfl) (by exact hu1 hr) (ie_v 1) ie_int) (ia_cons ie_int (ia_cons (ie_op (oi_pow) ie_int ie_int) ia_nil))) ik_nil))))))) (is_one (is_ret ie_bl)) is_nil))))
  (is_cons (by first | exact (is_setLc (own := [("_law_row", 1)]) (by rfl) nd__law_are (by rfl) (by rfl) (by rfl) (ii_any (by rfl) (ie_v 0)) (blk_by (by kernel_rfl)) (fun _ _ _ _ _ => (ig_n 1 nd__law_are)) (fun _ _ _ _ _ => its_nil) (fun _ _ _ _ _ => (ie_cut (by rfl) (ie_v 1) io_none (io_some ie_int)))) | exact (is_st 2 nd__law_are (ie_lc (own := [("_law_row", 1)]) (by rfl) nd__law_are (ii_any (by rfl) (ie_v 0)) (blk_by (by kernel_rfl)) (fun _ _ _ _ _ => (ig_n 1 nd__law_are)) (fun _ _ _ _ _ => its_nil) (fun _ _ _ _ _ => (ie_cut (by rfl) (ie_v 1) io_none (io_some ie_int))))))
  (is_one (is_ret (ie_cmp (oi_eqP (by rfl) (by exact hr.rm.units)) (ie_v 2) (ie_sortSetP (by rfl) (by rfl) (by exact hr.rm.units) (by rfl) (by exact F.f "sorted") (by rfl) (by exact F.f "set") (ie_v 2)) (by rfl)))))))
theorem kb__law_are_0 (fd : FuncData) (FD : FunD T.K d__law_are.name d__law_are.qual d__law_are.params d__law_are.body d__law_are.scope (d__law_are.dvs T.K) [] (He.fAd T.K d__law_are.at_) fd) : KBD T fd ["_law_thing"] 1 [] [(0, 0)] [] :=
  kbd_n FD fun kV doc pm an cdv ct us ws h1 h2 => match us, ws, h1, h2 with | [_], [], _, _ => rfl
theorem nd_share_by : (["spending", "rates", "below", "top", "bottom"] : List Str).Nodup := by decide +kernel
theorem sc_share_by : FnScope ["spending", "rates", "below", "top", "bottom"] ["spending", "rates"] d_share_by.scope := ⟨rfl, rfl, rfl, nd_share_by, rfl, by decide +kernel, by decide +kernel⟩
theorem ok_share_by (F : Fx T mg lw) (hcf : T.cf = cf) (hx0 : T.xc = none) (hT : T.tabs = tabsOf T.K lw.tf) (TB : TabsB T.K mg base (lw.tf.map (·.1))) : OkF T P w mg base 4 d_share_by ["spending", "rates"] m_share_by := by
  obtain ⟨fd, FD⟩ := F.defs 20 d_share_by rfl
  refine OkF.mk' (N := ["spending", "rates", "below", "top", "bottom"]) FD sc_share_by fun cdv A outer s H E hr => ?_
  show ISs T E _ (defBody (top 38)) b_share_by
  exact (is_cons (is_unp (vs := allN 5) (ie_fnF (by exact ok_rate_by F hcf hx0 hT TB) (by rfl) (by exact hr.mono (by decide)) (by rfl) (by exact F.g "rate_by") kb_rate_by_0 (by exact tk_cx) (ak_cons (ia_cons (ie_v 1) (ia_cons (ie_attr (by exact hcf) (by rfl) (by exact F.at' ["Spending"] "money") (ie_v 0)) (ia_cons (ie_attr (by exact hcf) (by rfl) (by exact F.at' ["Spending"] "day") (ie_v 0)) ia_nil))) ik_nil)) (ig_tup (by rfl) (igs_cons (ig_n 3 nd_share_by) (igs_cons (ig_n 4 nd_share_by) igs_nil)) (len_cons (len_cons len_nil))))
  (is_cons (is_st 2 nd_share_by (ie_op (oi_mul) (ie_v 4) (ie_attr (by exact hcf) (by rfl) (by exact F.at' ["Spending"] "heads") (ie_v 0))))
  (is_one (is_ret (ie_op (oi_fdiv) (ie_op (oi_add (by rfl)) (ie_op (oi_mul) (ie_op (oi_mul) ie_int (ie_attr (by exact hcf) (by rfl) (by exact F.at' ["Spending"] "amount") (ie_v 0))) (ie_v 3)) (ie_v 2)) (ie_op (oi_mul) ie_int (ie_v 2)))))))
theorem kb_share_by_0 (fd : FuncData) (FD : FunD T.K d_share_by.name d_share_by.qual d_share_by.params d_share_by.body d_share_by.scope (d_share_by.dvs T.K) [] (He.fAd T.K d_share_by.at_) fd) : KBD T fd ["spending", "rates"] 2 [] [(0, 0), (0, 1)] [] :=
  kbd_n FD fun kV doc pm an cdv ct us ws h1 h2 => match us, ws, h1, h2 with | [_, _], [], _, _ => rfl
theorem nd_share_of : (["spending", "rates", "some"] : List Str).Nodup := by decide +kernel
theorem sc_share_of : FnScope ["spending", "rates", "some"] ["spending", "rates"] d_share_of.scope := ⟨rfl, rfl, rfl, nd_share_of, rfl, by decide +kernel, by decide +kernel⟩
theorem ok_share_of (F : Fx T mg lw) (hcf : T.cf = cf) (hx0 : T.xc = none) (hT : T.tabs = tabsOf T.K lw.tf) (TB : TabsB T.K mg base (lw.tf.map (·.1))) : OkF T P w mg base 5 d_share_of ["spending", "rates"] m_share_of := by
  obtain ⟨fd, FD⟩ := F.defs 21 d_share_of rfl
  refine OkF.mk' (N := ["spending", "rates", "some"]) FD sc_share_of fun cdv A outer s H E hr => ?_
  show ISs T E _ (defBody (top 39)) b_share_of
  exact (is_cons (is_st 2 nd_share_of (ie_if (ib_cmp (oi_is) (ie_v 1) ie_non (by rfl)) (ie_tup ia_nil) (ie_v 1)))
  (is_cons (is_expr (ie_fnF (by exact ok_need_rates F hcf hx0 hT TB) (by rfl) (by exact hr.mono (by decide)) (by rfl) (by exact F.g "need_rates") kb_need_rates_0 (by exact tk_cx) (ak_cons (ia_cons (ie_v 2) ia_nil) ik_nil)))
  (is_one (is_ret (ie_fnF (by exact ok_share_by F hcf hx0 hT TB) (by rfl) (by exact hr.mono (by decide)) (by rfl) (by exact F.g "share_by") kb_share_by_0 (by exact tk_cx) (ak_cons (ia_cons (ie_v 0) (ia_cons (ie_v 2) ia_nil)) ik_nil))))))
theorem kb_share_of_0 (fd : FuncData) (FD : FunD T.K d_share_of.name d_share_of.qual d_share_of.params d_share_of.body d_share_of.scope (d_share_of.dvs T.K) [] (He.fAd T.K d_share_of.at_) fd) : KBD T fd ["spending", "rates"] 2 [] [(0, 0), (0, 1)] [.non] :=
  kbd_d (l := [.non]) FD rfl (by decide) fun Ta kV doc pm an cdv ct us its ws h1 h2 h3 => match us, its, ws, h1, h2, h3 with | [_, _], [_], [], _, _, _ => ⟨_, rfl, rfl⟩
theorem nd_is_kind : (["thing"] : List Str).Nodup := by decide +kernel
theorem sc_is_kind : FnScope ["thing"] ["thing"] d_is_kind.scope := ⟨rfl, rfl, rfl, nd_is_kind, rfl, by decide +kernel, by decide +kernel⟩
theorem ok_is_kind (F : Fx T mg lw) (hcf : T.cf = cf) (hx0 : T.xc = none) (hT : T.tabs = tabsOf T.K lw.tf) (TB : TabsB T.K mg base (lw.tf.map (·.1))) : OkF T P w mg base 1 d_is_kind ["thing"] m_is_kind := by
  obtain ⟨fd, FD⟩ := F.defs 22 d_is_kind rfl
  refine OkF.mk' (N := ["thing"]) FD sc_is_kind fun cdv A outer s H E hr => ?_
  show ISs T E _ (defBody (top 28)) b_is_kind
  exact (is_one (is_ret (ie_and (ie_isi (tys := tysL) (Tt := .b "str") (by rfl) (by rfl) (by exact F.f "isinstance") (ie_v 0) (isTy_b (by rfl) (by exact F.f "str") (by decide +kernel)) (by exact F.is' tysL) (by exact F.ki tysL (.b "str"))) (ie_one (ie_cmp (oi_in (by rfl) (by exact hr.rm.units)) (ie_v 0) (ie_gtup (l := [.str "bed", .str "fee", .str "meal", .str "ride", .str "sundry"]) (by rfl) (by exact F.g "KINDS") (by exact F.tp 0) rfl) (by rfl))))))
theorem kb_is_kind_0 (fd : FuncData) (FD : FunD T.K d_is_kind.name d_is_kind.qual d_is_kind.params d_is_kind.body d_is_kind.scope (d_is_kind.dvs T.K) [] (He.fAd T.K d_is_kind.at_) fd) : KBD T fd ["thing"] 1 [] [(0, 0)] [] :=
  kbd_n FD fun kV doc pm an cdv ct us ws h1 h2 => match us, ws, h1, h2 with | [_], [], _, _ => rfl
theorem nd_Spending_init : (["self", "kind", "amount", "day", "paper", "heads", "money"] : List Str).Nodup := by decide +kernel
theorem sc_Spending_init : FnScope ["self", "kind", "amount", "day", "paper", "heads", "money"] ["self", "kind", "amount", "day", "paper", "heads", "money"] d_Spending_init.scope := ⟨rfl, rfl, rfl, nd_Spending_init, rfl, by decide +kernel, by decide +kernel⟩
theorem ok_Spending_init (F : Fx T mg lw) (hcf : T.cf = cf) (hx0 : T.xc = none) (hT : T.tabs = tabsOf T.K lw.tf) (TB : TabsB T.K mg base (lw.tf.map (·.1))) : OkF T P w mg base 2 d_Spending_init ["self", "kind", "amount", "day", "paper", "heads", "money"] m_Spending_init := by
  obtain ⟨fd, FD⟩ := F.defs 23 d_Spending_init rfl
  refine OkF.mk' (N := ["self", "kind", "amount", "day", "paper", "heads", "money"]) FD sc_Spending_init fun cdv A outer s H E hr => ?_
  show ISs T E _ (defBody (meth 30 0)) b_Spending_init
  exact (is_cons (is_if (ib_not (ib_val (ie_fnF (by exact ok_is_kind F hcf hx0 hT TB) (by rfl) (by exact hr.mono (by decide)) (by rfl) (by exact F.g "is_kind") kb_is_kind_0 (by exact tk_cx) (ak_cons (ia_cons (ie_v 1) ia_nil) ik_nil)))) (is_one is_bad) is_nil)
  (is_cons (is_if (ib_not (ib_val (ie_fnF (by exact ok_is_whole F hcf hx0 hT TB) (by rfl) (by exact hr.mono (by decide)) (by rfl) (by exact F.g "is_whole") kb_is_whole_0 (by exact tk_cx) (ak_cons (ia_cons (ie_v 2) (ia_cons ie_int (ia_cons (ie_gint (by rfl) (by exact F.i "MOST_AMOUNT" 1000000)) ia_nil))) ik_nil)))) (is_one is_bad) is_nil)
  (is_cons (is_if (ib_not (ib_val (ie_fnF (by exact ok_is_whole F hcf hx0 hT TB) (by rfl) (by exact hr.mono (by decide)) (by rfl) (by exact F.g "is_whole") kb_is_whole_0 (by exact tk_cx) (ak_cons (ia_cons (ie_v 3) (ia_cons ie_int (ia_cons (ie_gint (by rfl) (by exact F.i "LAST_DAY" 59)) ia_nil))) ik_nil)))) (is_one is_bad) is_nil)
  (is_cons (is_if (ib_not (ib_val (ie_isi (tys := tysL) (Tt := .b "bool") (by rfl) (by rfl) (by exact F.f "isinstance") (ie_v 4) (isTy_b (by rfl) (by exact F.f "bool") (by decide +kernel)) (by exact F.is' tysL) (by exact F.ki tysL (.b "bool"))))) (is_one is_bad) is_nil)
  (is_cons (is_if (ib_val (ie_fnF (by exact ok_is_whole F hcf hx0 hT TB) (by rfl) (by exact hr.mono (by decide)) (by rfl) (by exact F.g "is_whole") kb_is_whole_0 (by exact tk_cx) (ak_cons (ia_cons (ie_v 5) (ia_cons ie_int (ia_cons ie_int ia_nil))) ik_nil))) (is_one is_bad) is_nil)
  (is_cons (is_if (ib_not (ib_val (ie_fnF (by exact ok_is_whole F hcf hx0 hT TB) (by rfl) (by exact hr.mono (by decide)) (by rfl) (by exact F.g "is_whole") kb_is_whole_0 (by exact tk_cx) (ak_cons (ia_cons (ie_v 5) (ia_cons ie_int (ia_cons (ie_gint (by rfl) (by exact F.i "MOST_HEADS" 6)) ia_nil))) ik_nil)))) (is_one is_bad) is_nil)
  (is_cons (is_if (ib_not (ib_val (ie_fnF (by exact ok_is_whole F hcf hx0 hT TB) (by rfl) (by exact hr.mono (by decide)) (by rfl) (by exact F.g "is_whole") kb_is_whole_0 (by exact tk_cx) (ak_cons (ia_cons (ie_v 6) (ia_cons ie_int (ia_cons (ie_gint (by rfl) (by exact F.i "LAST_MONEY" 3)) ia_nil))) ik_nil)))) (is_one is_bad) is_nil)
  (is_cons (is_setattr (by rfl) (by exact F.at' ["Spending"] "kind") (ie_v 0) (ie_v 1))
  (is_cons (is_setattr (by rfl) (by exact F.at' ["Spending"] "amount") (ie_v 0) (ie_v 2))
  (is_cons (is_setattr (by rfl) (by exact F.at' ["Spending"] "day") (ie_v 0) (ie_v 3))
  (is_cons (is_setattr (by rfl) (by exact F.at' ["Spending"] "paper") (ie_v 0) (ie_v 4))
  (is_cons (is_setattr (by rfl) (by exact F.at' ["Spending"] "heads") (ie_v 0) (ie_v 5))
  (is_one (is_setattr (by rfl) (by exact F.at' ["Spending"] "money") (ie_v 0) (ie_v 6)))))))))))))))
theorem kb_Spending_init_0 (fd : FuncData) (FD : FunD T.K d_Spending_init.name d_Spending_init.qual d_Spending_init.params d_Spending_init.body d_Spending_init.scope (d_Spending_init.dvs T.K) [] (He.fAd T.K d_Spending_init.at_) fd) : KBD T fd ["self", "kind", "amount", "day", "paper", "heads", "money"] 3 ["money"] [(0, 0), (0, 1), (0, 2), (1, 0), (1, 1), (1, 2), (2, 0)] [.int 0, .bl true, .int 1, .int 0] :=
  kbd_d (l := [.int 0, .bl true, .int 1, .int 0]) FD rfl (by decide) fun Ta kV doc pm an cdv ct us its ws h1 h2 h3 => match us, its, ws, h1, h2, h3 with | [_, _, _], [_, _, _, _], [_], _, _, _ => ⟨_, rfl, rfl⟩
theorem nd_law : (["_law_script", "_law_k", "_law_box_here", "_law_table", "_law_kept", "_law_days", "_law_when", "_law_some", "_law_thing", "_law_coin", "_law_found", "_law_due", "_law_row", "_law_turn"] : List Str).Nodup := by decide +kernel
theorem sc_law : FnScope ["_law_script", "_law_k", "_law_box_here", "_law_table", "_law_kept", "_law_days", "_law_when", "_law_some", "_law_thing", "_law_coin", "_law_found", "_law_due", "_law_row", "_law_turn"] ["_law_script"] d_law.scope := ⟨rfl, rfl, rfl, nd_law, rfl, by decide +kernel, by decide +kernel⟩
theorem ok_law (F : Fx T mg lw) (hcf : T.cf = cf) (hx0 : T.xc = none) (hT : T.tabs = tabsOf T.K lw.tf) (TB : TabsB T.K mg base (lw.tf.map (·.1))) : OkF T P w mg base 8 d_law ["_law_script"] m_law := by
  obtain ⟨fd, FD⟩ := F.defs 24 d_law rfl
  refine OkF.mkL (N := ["_law_script", "_law_k", "_law_box_here", "_law_table", "_law_kept", "_law_days", "_law_when", "_law_some", "_law_thing", "_law_coin", "_law_found", "_law_due", "_law_row", "_law_turn"]) FD sc_law fun cdv A outer s H E hcd hr => ?_
  show ISs T E _ (defBody (top 55)) b_law
  exact (is_cons (is_for (vs := allN 14) (by exact passes_of rfl) (by rfl) (ii_r1 (by rfl) (by exact F.f "range") (ia_cons (ie_b (by exact call_max2 rfl) bo_max2 (by rfl) (by exact F.f "max") (by decide +kernel) (ia_cons ie_int (ia_cons (ie_b (by exact call_min2 rfl) bo_min2 (by rfl) (by exact F.f "min") (by decide +kernel) (ia_cons (ie_b (by exact call_len) bo_lenA (by rfl) (by exact F.f "len") (by decide +kernel) (ia_cons (ie_v 0) ia_nil)) (ia_cons ie_int ia_nil))) ia_nil))) ia_nil)) (ig_n 1 nd_law) (is_cons (is_st 2 nd_law (ie_fnF (by exact ok__law_box F hcf hx0 hT TB) (by rfl) (by exact hr.mono (by decide)) (by rfl) (by exact F.g "_law_box") kb__law_box_0 (by exact tk_cx) (ak_cons (ia_cons (ie_v 0) (ia_cons (ie_v 1) ia_nil)) ik_nil)))
  (is_cons (is_st 3 nd_law (ie_fnF (by exact ok__law_rates F hcf hx0 hT TB) (by rfl) (by exact hr.mono (by decide)) (by rfl) (by exact F.g "_law_rates") kb__law_rates_0 (by exact tk_cx) (ak_cons (ia_cons (ie_v 2) ia_nil) ik_nil)))
  (is_cons (is_st 4 nd_law (ie_b (by exact call_reprX rfl hr.gd hr.rm.units) bo_reprX (by rfl) (by exact F.f "repr") (by decide +kernel) (ia_cons (ie_v 3) ia_nil)))
  (is_cons (is_st 5 nd_law (ie_op (oi_add (by rfl)) (ie_lst (ia_cons ie_int (ia_cons ie_int (ia_cons (ie_fnF (by exact ok__law_take F hcf hx0 hT TB) (by rfl) (by exact hr.mono (by decide)) (by rfl) (by exact F.g "_law_take") kb__law_take_0 (by exact tk_cx) (ak_cons (ia_cons (ie_v 2) (ia_cons ie_int ia_nil)) ik_nil)) ia_nil)))) (ie_lc (own := [("_law_row", 12)]) (by rfl) nd_law (ii_any (by rfl) (ie_v 3)) (blk_by (by kernel_rfl)) (fun _ _ _ _ _ => (ig_n 12 nd_law)) (fun _ _ _ _ _ => its_nil) (fun _ _ _ _ _ => (ie_idxB (by rfl) (by exact hu1 hr) (ie_v 12) ie_int)))))
  (is_cons (is_for (vs := allN 14) (by exact passes_of rfl) (by rfl) (ii_any (by rfl) (ie_op (oi_add (by rfl)) (ie_v 5) (ie_lc (own := [("_law_row", 12)]) (by rfl) nd_law (ii_any (by rfl) (ie_cut (by rfl) (ie_v 3) io_none (io_some ie_int))) (blk_by (by kernel_rfl)) (fun _ _ _ _ _ => (ig_n 12 nd_law)) (fun _ _ _ _ _ => its_nil) (fun _ _ _ _ _ => (ie_b (by exact call_max2 rfl) bo_max2 (by rfl) (by exact F.f "max") (by decide +kernel) (ia_cons ie_int (ia_cons (ie_op (oi_sub) (ie_idxB (by rfl) (by exact hu1 hr) (ie_v 12) ie_int) ie_int) ia_nil))))))) (ig_n 6 nd_law) (is_one (is_for (vs := allN 14) (by exact passes_of rfl) (by rfl) (ii_r1 (by rfl) (by exact F.f "range") (ia_cons ie_int ia_nil)) (ig_n 9 nd_law) (is_one (is_if (ib_not (ib_val (ie_fnF (by exact ok__law_right F hcf hx0 hT TB) (by rfl) (by exact hr.mono (by decide)) (by rfl) (by exact F.g "_law_right") kb__law_right_0 (by exact tk_cx) (ak_cons (ia_cons (ie_v 3) (ia_cons (ie_v 9) (ia_cons (ie_v 6) ia_nil))) ik_nil)))) (is_one (is_ret ie_bl)) is_nil)))))
  (is_cons (is_if (ib_cmp (oi_neP (by rfl) (by exact hr.rm.units)) (ie_b (by exact call_reprX rfl hr.gd hr.rm.units) bo_reprX (by rfl) (by exact F.f "repr") (by decide +kernel) (ia_cons (ie_v 3) ia_nil)) (ie_v 4) (by rfl)) (is_one (is_ret ie_bl)) is_nil)
  (is_cons (is_st 7 nd_law (ie_op (oi_add (by rfl)) (ie_lc (own := [("_law_turn", 13)]) (by rfl) nd_law (ii_r1 (by rfl) (by exact F.f "range") (ia_cons ie_int ia_nil)) (blk_by (by kernel_rfl)) (fun _ _ _ _ _ => (ig_n 13 nd_law)) (fun _ _ _ _ _ => its_nil) (fun _ _ _ _ _ => (ie_fnF (by exact ok__law_bent F hcf hx0 hT TB) (by rfl) (by exact hr.mono (by decide)) (by rfl) (by exact F.g "_law_bent") kb__law_bent_0 (by exact tk_no) (ak_cons (ia_cons (ie_v 2) (ia_cons (ie_v 3) ia_nil)) ik_nil)))) (ie_lst (ia_cons (ie_cut (by rfl) (ie_op (oi_mulR0 (by rfl)) (ie_v 3) ie_int) io_none (io_some ie_int)) (ia_cons (ie_op (oi_mulR (by rfl)) (ie_tup (ia_cons (ie_tup (ia_cons ie_int (ia_cons ie_int (ia_cons ie_int (ia_cons ie_int ia_nil))))) ia_nil)) ie_int) ia_nil)))))
  (is_one (is_for (vs := allN 14) (by exact passes_of rfl) (by rfl) (ii_any (by rfl) (ie_op (oi_add (by rfl)) (ie_v 7) (ie_fnF (by exact ok__law_odd_rates F hcf hx0 hT TB) (by rfl) (by exact hr.mono (by decide)) (by rfl) (by exact F.g "_law_odd_rates") kb__law_odd_rates_0 (by exact tk_cx) (ak_nil ik_nil)))) (ig_n 8 nd_law) (is_cons (by first | exact (is_par2 4 11 nd_law (ia_cons (ie_b (by exact call_reprX rfl hr.gd hr.rm.units) bo_reprX (by rfl) (by exact F.f "repr") (by decide +kernel) (ia_cons (ie_v 8) ia_nil)) (ia_cons (ie_fnF (by exact ok__law_are F hcf hx0 hT TB) (by rfl) (by exact hr.mono (by decide)) (by rfl) (by exact F.g "_law_are") kb__law_are_0 (by exact tk_cx) (ak_cons (ia_cons (ie_v 8) ia_nil) ik_nil)) ia_nil))) | exact (is_par2u (is_unp (vs := allN 14) (ie_tup (ia_cons (ie_b (by exact call_reprX rfl hr.gd hr.rm.units) bo_reprX (by rfl) (by exact F.f "repr") (by decide +kernel) (ia_cons (ie_v 8) ia_nil)) (ia_cons (ie_fnF (by exact ok__law_are F hcf hx0 hT TB) (by rfl) (by exact hr.mono (by decide)) (by rfl) (by exact F.g "_law_are") kb__law_are_0 (by exact tk_cx) (ak_cons (ia_cons (ie_v 8) ia_nil) ik_nil)) ia_nil))) (ig_tup (by rfl) (igs_cons (ig_n 4 nd_law) (igs_cons (ig_n 11 nd_law) igs_nil)) (len_cons (len_cons len_nil))))))
  (is_cons (is_st 10 nd_law (ie_lstM (ia_cons (ie_idxB (by rfl) (by exact hu1 hr) (ie_sd (q := ("law", none)) (qs := "law.<locals>.") (k := 4) (m := (eFn (callM m_rate_on 3 0 3 [(0, 0), (0, 1), (0, 2)] []) (aCons (eVar 8) (aCons (eC (.int 3)) (aCons (eC (.int 0)) aNil))) aNil)) F hcf hx0 hT TB (by decide +kernel) (by decide +kernel) (by decide) (by exact hcd) (by exact hr.mono (by decide)) (by rfl) (lamS_by (by kernel_rfl)) (by rfl) (fun _ _ _ _ _ => by rfl) (fun A outer s H E f c hr => (ie_fnF (by exact ok_rate_on F hcf hx0 hT TB) (by rfl) (by exact hr.mono (by decide)) (by rfl) (by exact F.g "rate_on") kb_rate_on_0 (by exact tk_lam) (ak_cons (ia_cons (ie_v 8) (ia_cons ie_int (ia_cons ie_int ia_nil))) ik_nil)))) ie_int) ia_nil)))
  (is_cons (is_if (ib_cmp (oi_isnot) (ie_v 8) ie_non (by rfl)) (is_one (is_expr (ie_app (by rfl) (ie_v 10) (ie_idxB (by rfl) (by exact hu1 hr) (ie_sd (q := ("law", none)) (qs := "law.<locals>.") (k := 5) (m := (eFn (callM m_share_of 2 0 2 [(0, 0), (0, 1)] [.non]) (aCons (eFrz cf (eFn (newM "Spending" (callM m_Spending_init 3 1 7 [(0, 0), (0, 1), (0, 2), (1, 0), (1, 1), (1, 2), (2, 0)] [.int 0, .bl true, .int 1, .int 0])) (aCons (eC (.str "meal")) (aCons (eC (.int 7)) aNil)) (aCons (eC (.int 3)) aNil))) (aCons (eVar 8) aNil)) aNil)) F hcf hx0 hT TB (by decide +kernel) (by decide +kernel) (by decide) (by exact hcd) (by exact hr.mono (by decide)) (by rfl) (lamS_by (by kernel_rfl)) (by rfl) (fun _ _ _ _ _ => by rfl) (fun A outer s H E f c hr => (ie_fnF (by exact ok_share_of F hcf hx0 hT TB) (by rfl) (by exact hr.mono (by decide)) (by rfl) (by exact F.g "share_of") kb_share_of_0 (by exact tk_lam) (ak_cons (ia_cons (ie_frz (by exact hcf) (ie_newF (cn := "Spending") (by exact ok_Spending_init F hcf hx0 hT TB) (by exact F.mk' "Spending") (by rfl) (by exact hr.mono (by decide)) (by rfl) (by exact F.g "Spending") kb_Spending_init_0 (by exact tk_lam) (ak_cons (ia_cons ie_str (ia_cons ie_int ia_nil)) (ik_cons ie_int ik_nil)) rfl)) (ia_cons (ie_v 8) ia_nil)) ik_nil)))) ie_int)))) is_nil)
  (is_one (is_if (iw_pt (iw_or (ib_cmp (oi_eqP (by rfl) (by exact hr.rm.units)) (ie_v 11) (ie_cmpS (os_inS (by rfl) (by exact hr.rm.units)) ie_str (ie_v 10) (by rfl)) (by rfl)) (iw_or (ib_cmp (oi_neP (by rfl) (by exact hr.rm.units)) (ie_idxB (by rfl) (by exact hu1 hr) (ie_v 10) ie_int) (ie_idxB (by rfl) (by exact hu1 hr) (ie_v 10) (ie_neg ie_int)) (by rfl)) (iw_or1 (ib_cmp (oi_neP (by rfl) (by exact hr.rm.units)) (ie_b (by exact call_reprX rfl hr.gd hr.rm.units) bo_reprX (by rfl) (by exact F.f "repr") (by decide +kernel) (ia_cons (ie_v 8) ia_nil)) (ie_v 4) (by rfl)))))) (is_one (is_ret ie_bl)) is_nil)))))))))))))))
  (is_one (is_ret ie_bl)))
end
end Ro
end
section
set_option Elab.async false
set_option linter.all false
set_option maxRecDepth 100000
set_option maxHeartbeats 0
namespace Ro
open PySem PySem.Spec PyProof.Rows L2
abbrev RW : PySem.W.OpenRow := PySem.W.OpenLaw.row PySem.Challenge.rw_roadpence_k04_rates_of_days
abbrev qv : Program := PySem.W.view RW.prog [55]
def nms0 : List PySem.Str := ["_wall", "PenceError", "NoRates", "NoSpot", "NoShare", "NoBook", "NoPlace", "Absent", "Nothing", "NoTable", "NoLine", "NoSpending", "NoRule", "NoJourney", "NoText", "TooMany", "NoRate", "NoDay", "NoName", "NoHeads", "KINDS", "MOST_AMOUNT", "LAST_DAY", "LAST_MONEY", "MOST_HEADS", "is_whole", "is_kind", "option", "Spending", "MOST_RATES"]
def nms1 : List PySem.Str := ["MOST_PART", "is_rate", "need_rates", "rate_by", "rate_on", "share_by", "share_of", "_law_box", "_law_more", "_law_take", "_law_family", "_law_word", "_law_said", "_law_odd", "_law_whole", "_law_rates", "_law_rate", "_law_are", "_law_bent", "_law_odd_rates", "_law_right"]
def nms : List PySem.Str := nms0 ++ nms1
def tsL : List He.Tab := []
abbrev hk : PySem.W.Hook := hookM 5 lw tsL
def ob (s : PySem.W.SharedT) : He.AlX := obM 5 lw tsL (HandSHeadRun.getT s)
theorem ob_eq (s : PySem.W.SharedT) : ob s = hk.obs s.abs := obM_eq (HandSHeadRun.getT_eq s)
theorem runF (w : World) : HandSHeadRun.RunEq RW qv hk ob 30000 nms (w.withFollow "special-get-raises" false) := fun os => by kernel_rfl
theorem runT (w : World) : HandSHeadRun.RunEq RW qv hk ob 30000 nms (w.withFollow "special-get-raises" true) := fun os => by kernel_rfl
theorem run (w : World) : HandSHeadRun.RunEq RW qv hk ob 30000 nms w :=
  PySem.W.byRow2 "special-get-raises" (P := fun w => HandSHeadRun.RunEq RW qv hk ob 30000 nms w) runF runT w
theorem law_binds (T : Tb) (fd : FuncData) (FD : FunD T.K d_law.name d_law.qual d_law.params d_law.body d_law.scope (d_law.dvs T.K) [] (He.fAd T.K d_law.at_) fd) (s : Shared) (u : Value) : BindsTo s fd ⟨[u], []⟩ [("_law_script", u)] :=
  (FunD.bindsA (ps := ["_law_script"]) FD fun _ _ _ _ _ _ us hl => match us, hl with | [_], _ => rfl) s [u] rfl
theorem at_law : d_law.at_ = (("law" : PySem.Str), none) := rfl
theorem fAd_none {K : PySem.W.Frag} {x : PySem.Str} : He.fAd K (x, none) = He.ga K x := rfl
theorem ref_uniq {mg : PySem.Str → Option Value} {x : PySem.Str} {a b : Addr} (h1 : mg x = some (.ref a)) (h2 : mg x = some (.ref b)) : b = a := by
  rw [h1] at h2
  have h3 := Option.some.inj h2
  injection h3 with h4
  exact h4.symm
theorem law_from (hm : ∀ ns : List Int, ns.length ≤ 63 → (∀ z ∈ ns, bits20 z) → ∃ S, m_law [.scr ns] [] = .ok (.bl true) S) : PySem.Challenge.rw_roadpence_k04_rates_of_days.Holds := by
  w_on; o_law
  refine HandSHeadRun.head_any (r := PySem.W.OpenLaw.row PySem.Challenge.rw_roadpence_k04_rates_of_days) (q := PySem.W.view (PySem.W.OpenLaw.row PySem.Challenge.rw_roadpence_k04_rates_of_days).prog [55]) (H := hk) (ob := ob) (M := 30000) (loose := nms) (d := HandSHeadRun.topDef (PySem.W.OpenLaw.row PySem.Challenge.rw_roadpence_k04_rates_of_days).prog 55) (kwd := []) ob_eq
    (by kernel_rfl) (fun s => by kernel_rfl) run (by kernel_rfl) (by kernel_rfl) (by kernel_rfl) (by rfl) (by first | assumption | decide +kernel) (by decide +kernel) ⟨rfl, rfl, rfl, rfl, rfl, by decide +kernel⟩ ?hw ?hc
  case hw => w_witness2
  case hc =>
    refine walkGT (l := PySem.Challenge.rw_roadpence_k04_rates_of_days) (n := 63) (k := 8) (x := "_law_script") (m := m_law) rfl (by decide) (by kernel_rfl) (by decide) ?F hm
    intro w mg fa h Y G hmg0
    obtain ⟨K, KX, c⟩ := Y
    have hmg : mg ("law" : PySem.Str) = some (.ref fa) := by
      have e : (HandSHeadRun.topDef (PySem.W.OpenLaw.row PySem.Challenge.rw_roadpence_k04_rates_of_days).prog 55).name = ("law" : PySem.Str) := by kernel_rfl
      rw [← e]
      exact hmg0
    obtain ⟨F, tF⟩ := says_fx (T := ⟨K, cf, tabsOf K lw.tf, none⟩) KX G c
    obtain ⟨fd0, FD0⟩ := F.defs 24 d_law rfl
    refine ⟨⟨K, cf, tabsOf K lw.tf, none⟩, fd0, lw.tf, rfl, KX, tF, law_binds _ fd0 FD0, fun base _ _ TB => ?_⟩
    have e : He.fAd K d_law.at_ = fa := by
      rw [at_law, fAd_none]
      exact ref_uniq hmg (F.g "law")
    obtain ⟨fd', FD', GG⟩ := (ok_law (P := (PySem.Challenge.rw_roadpence_k04_rates_of_days).prog) (w := w) F rfl rfl rfl TB).ex
    rw [funD_uniq FD0 FD'] at GG
    rw [← e]
    exact GG
end Ro
end
section
set_option Elab.async false
set_option linter.all false
set_option maxRecDepth 100000
set_option maxHeartbeats 4000000
namespace Ro
open PySem
variable {S : Store}
@[simp] theorem ty_int (i : Int) : tyD (.int i) S = some (.b "int") := rfl
@[simp] theorem ty_bl (i : Bool) : tyD (.bl i) S = some (.b "bool") := rfl
@[simp] theorem ty_str (i : Str) : tyD (.str i) S = some (.b "str") := rfl
@[simp] theorem ty_tup (i : List D) : tyD (.tup i) S = some (.b "tuple") := rfl
@[simp] theorem ty_lst (i : List D) : tyD (.lst i) S = some (.b "list") := rfl
@[simp] theorem ty_non : tyD .non S = some (.b "NoneType") := rfl
@[simp] theorem ty_dct (i : List (D × D)) : tyD (.dct i) S = some (.b "dict") := rfl
def kinds : List Str := ["bed", "fee", "meal", "ride", "sundry"]
@[simp] theorem at_2 (d e c : D) (l : List D) : atP (d :: e :: c :: l) 2 = some c := by
  have : pyIx (d :: e :: c :: l).length 2 = some 2 := ix_nn _ 2 (by simp)
  unfold atP
  rw [this]
  rfl
@[simp] theorem at_3 (d e c b : D) (l : List D) : atP (d :: e :: c :: b :: l) 3 = some b := by
  have : pyIx (d :: e :: c :: b :: l).length 3 = some 3 := ix_nn _ 3 (by simp)
  unfold atP
  rw [this]
  rfl
/-- a comprehension whose parts only tell -/
theorem lc_pure {tg : Pat} {c : BX} {el : EX} {env0 : Env} {p : D → Bool} {g : D → D} : ∀ {xs acc : List D}, acc.length + xs.length ≤ LINE → (∀ x ∈ xs, ∃ e, tg x env0 = some e ∧ c e S = .ok (p x) S ∧ (p x = true → el e S = .ok (g x) S)) →
    lcLoop tg c el env0 xs acc S = .ok (acc ++ (xs.filter p).map g) S
  | [], acc, _, _ => by simp [lcLoop]
  | x :: xs, acc, hl, h => by
    obtain ⟨e, h1, h2, h3⟩ := h x (by simp)
    unfold lcLoop
    rw [h1]
    dsimp only
    rw [h2, nox_ok, bnd_ok]
    cases z : p x with
    | true =>
      rw [if_pos rfl, h3 z, nox_ok, bnd_ok, if_pos (by simp at hl ⊢; omega), lc_pure (acc := acc ++ [g x]) (by simp at hl ⊢; omega) (fun y hy => h y (by simp [hy]))]
      simp [List.filter_cons, z]
    | false =>
      rw [if_neg Bool.false_ne_true, lc_pure (by simp at hl ⊢; omega) (fun y hy => h y (by simp [hy]))]
      simp [List.filter_cons, z]
theorem rw_inj : ∀ (l : List D), l.all (plN 7) = true → eqD (.lst l) (.lst []) = some (.bl l.isEmpty) := fun l h => by
  unfold eqD
  have e1 : plD (.lst l) = true := h
  have e2 : plD (.lst []) = true := rfl
  rw [if_pos (by rw [e1, e2]; rfl), pyEq_lst]
  cases l with
  | nil => rw [pyEqs_nil]; rfl
  | cons x l => rw [pyEqs_cn]; rfl
theorem last_at (l : List D) : atP l (-1) = l.getLast? := by
  unfold atP pyIx
  rw [if_neg (by decide)]
  by_cases h : l.length = 0
  · simp [List.length_eq_zero_iff.mp h]
  · rw [if_pos (by omega), List.getLast?_eq_getElem?]
    have e : (-1 + (l.length : Int)).toNat = l.length - 1 := by omega
    rw [e]
    rfl
theorem mulBd {x y A B : Int} (h1 : 0 ≤ x) (h2 : x ≤ A) (h3 : 0 ≤ y) (h4 : y ≤ B) : 0 ≤ x * y ∧ x * y ≤ A * B := ⟨Int.mul_nonneg h1 h3, Int.mul_le_mul h2 h4 h3 (by omega)⟩
theorem pick_ok {l : List D} {i : Int} {P : D → Prop} (h0 : 0 ≤ i) (h1 : i < l.length) (h : ∀ d ∈ l, P d) : ∃ d, atP l i = some d ∧ P d := by
  have hl : i.toNat < l.length := by omega
  have e : (i.toNat : Int) = i := Int.toNat_of_nonneg h0
  refine ⟨l[i.toNat], ?_, h _ (List.getElem_mem hl)⟩
  have e2 : pyIx l.length i = some i.toNat := by
    have := ix_nn _ _ hl
    rw [e] at this
    exact this
  unfold atP
  rw [e2]
  simp [hl]
structure Fr (b : Nat) (S S' : Store) : Prop where
  bx : Bx S' b
  le : S.length ≤ S'.length
  keep : ∀ n, n < S.length → n ≠ b → S'[n]? = S[n]?
theorem Fr.trans {b : Nat} {S1 S2 : Store} (h : Fr b S S1) (k : Fr b S1 S2) : Fr b S S2 := ⟨k.bx, Nat.le_trans h.le k.le, fun n h1 h2 => (k.keep n (Nat.lt_of_lt_of_le h1 h.le) h2).trans (h.keep n h1 h2)⟩
theorem Bs.fr {b : Nat} {S1 : Store} (h : Bs S b S1) (hb : Bx S b) : Fr b S S1 := ⟨h.bx hb.lt, by rw [h.len]; exact Nat.le_refl _, fun n _ h2 => h.other h2⟩
theorem Bx.app {b : Nat} (h : Bx S b) (l : Store) : Bx (S ++ l) b := by
  obtain ⟨x, y, e, h1, h2⟩ := h
  exact ⟨x, y, by rw [List.getElem?_append_left (List.getElem?_eq_some_iff.mp e).1]; exact e, h1, h2⟩
theorem Fr.app {b : Nat} (h : Bx S b) (l : Store) : Fr b S (S ++ l) := ⟨h.app l, by simp, fun n h1 _ => List.getElem?_append_left h1⟩
theorem Fr.put {b m : Nat} {S1 : Store} (h : Fr b S S1) (hm : S.length ≤ m) (hb : b < S.length) (c : Cell) : Fr b S (S1.set m c) := by
  obtain ⟨⟨x, y, e, h1, h2⟩, h3, h4⟩ := h
  exact ⟨⟨x, y, by rw [List.getElem?_set_ne (by omega)]; exact e, h1, h2⟩, by simpa using h3, fun n k1 k2 => by rw [List.getElem?_set_ne (by omega)]; exact h4 n k1 k2⟩
theorem take_fr {b : Nat} {n : Int} (hB : Bx S b) (hn : 0 < n ∧ n < 1152921504606846976) : W (m__law_take [.ref b, .int n] S) fun d S' => (∃ i : Int, d = .int i ∧ 0 ≤ i ∧ i < n) ∧ Fr b S S' := (take_ok hB hn).mono fun d S' h => ⟨h.1, h.2.fr hB⟩
@[simp] theorem u_sRaise {c : String} {a : AX} {env : Env} : sRaise c a env S = (a env S).bnd fun fs S1 => .err c fs S1 := rfl
@[simp] theorem u_aChk {n : Nat} {fa : AX} {env : Env} : aChk n fa env S = (fa env S).bnd fun ds S1 => if ds.length = n ∧ ds.length ≤ 1000 then .ok ds S1 else .bad := rfl
theorem ne_str (s : Str) : neD (.str s) (.str s) = some (.bl false) := by
  unfold neD
  have h : plD (.str s) = true := rfl
  rw [h]
  simp
end Ro
end
section
set_option Elab.async false
set_option linter.all false
set_option maxRecDepth 100000
set_option maxHeartbeats 1000000
namespace Ro
open PySem
variable {S : Store}
def okD : D → Bool
  | .str s => decide (s.length ≤ LINE)
  | .non => true
  | .bl _ => true
  | .int _ => true
  | .tup _ => true
  | .lst _ => true
  | .dct _ => true
  | _ => false
def wholeB (d : D) (lo hi : Int) : Bool := match d with
  | .int i => decide (lo ≤ i) && decide (i ≤ hi)
  | _ => false
def kindB : D → Bool
  | .str z => decide (z ∈ kinds)
  | _ => false
@[simp] theorem st_int_int : subTy (.b "int") (.b "int") = true := by decide
@[simp] theorem st_bool_int : subTy (.b "bool") (.b "int") = true := by decide
@[simp] theorem st_NoneType_int : subTy (.b "NoneType") (.b "int") = false := by decide
@[simp] theorem st_str_int : subTy (.b "str") (.b "int") = false := by decide
@[simp] theorem st_tuple_int : subTy (.b "tuple") (.b "int") = false := by decide
@[simp] theorem st_list_int : subTy (.b "list") (.b "int") = false := by decide
@[simp] theorem st_dict_int : subTy (.b "dict") (.b "int") = false := by decide
@[simp] theorem st_int_bool : subTy (.b "int") (.b "bool") = false := by decide
@[simp] theorem st_bool_bool : subTy (.b "bool") (.b "bool") = true := by decide
@[simp] theorem st_NoneType_bool : subTy (.b "NoneType") (.b "bool") = false := by decide
@[simp] theorem st_str_bool : subTy (.b "str") (.b "bool") = false := by decide
@[simp] theorem st_tuple_bool : subTy (.b "tuple") (.b "bool") = false := by decide
@[simp] theorem st_list_bool : subTy (.b "list") (.b "bool") = false := by decide
@[simp] theorem st_dict_bool : subTy (.b "dict") (.b "bool") = false := by decide
@[simp] theorem st_int_str : subTy (.b "int") (.b "str") = false := by decide
@[simp] theorem st_bool_str : subTy (.b "bool") (.b "str") = false := by decide
@[simp] theorem st_NoneType_str : subTy (.b "NoneType") (.b "str") = false := by decide
@[simp] theorem st_str_str : subTy (.b "str") (.b "str") = true := by decide
@[simp] theorem st_tuple_str : subTy (.b "tuple") (.b "str") = false := by decide
@[simp] theorem st_list_str : subTy (.b "list") (.b "str") = false := by decide
@[simp] theorem st_dict_str : subTy (.b "dict") (.b "str") = false := by decide
@[simp] theorem st_int_tuple : subTy (.b "int") (.b "tuple") = false := by decide
@[simp] theorem st_bool_tuple : subTy (.b "bool") (.b "tuple") = false := by decide
@[simp] theorem st_NoneType_tuple : subTy (.b "NoneType") (.b "tuple") = false := by decide
@[simp] theorem st_str_tuple : subTy (.b "str") (.b "tuple") = false := by decide
@[simp] theorem st_tuple_tuple : subTy (.b "tuple") (.b "tuple") = true := by decide
@[simp] theorem st_list_tuple : subTy (.b "list") (.b "tuple") = false := by decide
@[simp] theorem st_dict_tuple : subTy (.b "dict") (.b "tuple") = false := by decide
@[simp] theorem tl_int : Ty.b "int" ∈ tysL := by decide
@[simp] theorem tl_bool : Ty.b "bool" ∈ tysL := by decide
@[simp] theorem tl_NoneType : Ty.b "NoneType" ∈ tysL := by decide
@[simp] theorem tl_str : Ty.b "str" ∈ tysL := by decide
@[simp] theorem tl_tuple : Ty.b "tuple" ∈ tysL := by decide
@[simp] theorem tl_list : Ty.b "list" ∈ tysL := by decide
@[simp] theorem tl_dict : Ty.b "dict" ∈ tysL := by decide
theorem whole_b {d : D} (hd : okD d = true) (lo hi : Int) : m_is_whole [d, .int lo, .int hi] S = .ok (.bl (wholeB d lo hi)) S := by
  unfold m_is_whole b_is_whole
  cases d with
  | int i => by_cases c : lo ≤ i <;> simp [c, wholeB]
  | scr l => cases hd
  | obj c l => cases hd
  | ref n => cases hd
  | fn n => cases hd
  | thk n l => cases hd
  | _ => simp [wholeB]
theorem kinds_d (z : Str) : (decide (("bed" : Str) = z) || (decide (("fee" : Str) = z) || (decide (("meal" : Str) = z) || (decide (("ride" : Str) = z) || decide (("sundry" : Str) = z))))) = decide (z ∈ kinds) := by
  unfold kinds
  simp only [List.mem_cons, List.not_mem_nil, or_false, Bool.decide_or]
  simp only [eq_comm (a := z)]
theorem kind_b {d : D} (hd : okD d = true) : m_is_kind [d] S = .ok (.bl (kindB d)) S := by
  unfold m_is_kind b_is_kind
  cases d with
  | str z => simp [inD, kinds_d, kindB]
  | scr l => cases hd
  | obj c l => cases hd
  | ref n => cases hd
  | fn n => cases hd
  | thk n l => cases hd
  | _ => simp [kindB]
theorem kind_len {z : Str} (h : z ∈ kinds) : z.length ≤ 100 := by
  unfold kinds at h
  simp at h
  rcases h with rfl | rfl | rfl | rfl | rfl <;> decide
theorem okD_str {z : Str} (h : z.length ≤ 16777216) : okD (.str z) = true := decide_eq_true h
def Ext (S S' : Store) : Prop := ∃ X, S' = S ++ X
theorem Ext.trans {S S1 S2 : Store} (h : Ext S S1) (k : Ext S1 S2) : Ext S S2 := by
  obtain ⟨X, rfl⟩ := h
  obtain ⟨Y, rfl⟩ := k
  exact ⟨X ++ Y, by rw [List.append_assoc]⟩
theorem Ext.bx {b : Nat} {S S' : Store} (h : Ext S S') (hB : Bx S b) : Bx S' b := by
  obtain ⟨X, rfl⟩ := h
  exact hB.app X
end Ro
end
section
set_option Elab.async false
set_option linter.all false
set_option maxRecDepth 100000
set_option maxHeartbeats 1000000
namespace Ro
open PySem
variable {S : Store} {env : Env}
structure Sp where
  kind : Str
  amount : Int
  day : Int
  paper : Bool
  heads : Int
  money : Int
structure Sp.ok (p : Sp) : Prop where
  kind : p.kind ∈ kinds
  a0 : 1 ≤ p.amount
  a1 : p.amount ≤ 1000000
  d0 : 0 ≤ p.day
  d1 : p.day ≤ 59
  h0 : 1 ≤ p.heads
  h1 : p.heads ≤ 6
  m0 : 0 ≤ p.money
  m1 : p.money ≤ 3
def Sp.ds (p : Sp) : List D := [.str p.kind, .int p.amount, .int p.day, .bl p.paper, .int p.heads, .int p.money]
def Sp.obj (p : Sp) : D := .obj "Spending" p.ds
@[simp] theorem f_kind (p : Sp) : attrD cf ["Spending"] "kind" p.obj S = some (.str p.kind) := rfl
@[simp] theorem f_amount (p : Sp) : attrD cf ["Spending"] "amount" p.obj S = some (.int p.amount) := rfl
@[simp] theorem f_day (p : Sp) : attrD cf ["Spending"] "day" p.obj S = some (.int p.day) := rfl
@[simp] theorem f_paper (p : Sp) : attrD cf ["Spending"] "paper" p.obj S = some (.bl p.paper) := rfl
@[simp] theorem f_heads (p : Sp) : attrD cf ["Spending"] "heads" p.obj S = some (.int p.heads) := rfl
@[simp] theorem f_money (p : Sp) : attrD cf ["Spending"] "money" p.obj S = some (.int p.money) := rfl
end Ro
end
section
set_option Elab.async false
set_option linter.all false
set_option maxRecDepth 100000
set_option maxHeartbeats 1000000
namespace Ro
open PySem
variable {S : Store} {env : Env}
theorem init_sp {n : Nat} {p : Sp} (h : p.ok) (hS : S[n]? = some (.ins "Spending" [])) : m_Spending_init (.ref n :: p.ds) S = .ok .non (S.set n (.ins "Spending" [("kind", .str p.kind), ("amount", .int p.amount), ("day", .int p.day), ("paper", .bl p.paper), ("heads", .int p.heads), ("money", .int p.money)])) := by
  have h1 := h.a0; have h2 := h.a1; have h3 := h.d0; have h4 := h.d1; have h5 := h.h0; have h6 := h.h1; have h7 := h.m0; have h8 := h.m1
  have hn : n < S.length := (List.getElem?_eq_some_iff.mp hS).1
  have hg : S[n] = .ins "Spending" [] := (List.getElem?_eq_some_iff.mp hS).2
  have hk := h.kind
  have kl : okD (.str p.kind) = true := okD_str (by have := kind_len hk; omega)
  have kk : kindB (.str p.kind) = true := by simp [kindB, hk]
  have ki : ∀ i : Int, okD (.int i) = true := fun _ => rfl
  have hz : ¬ p.heads ≤ 0 := by omega
  unfold m_Spending_init b_Spending_init Sp.ds
  simp [kind_b kl, kk, whole_b, ki, wholeB, h1, h2, h3, h4, h5, h6, h7, h8, hz, hg, hn, setF]
theorem frz_sp {xs zs : List D} {pk : List (Nat × Nat)} {n kn : Nat} {dfs : List D} {p : Sp} (h : p.ok) (hp : pick pk (.ref S.length :: xs) dfs zs = .ref S.length :: p.ds) (h1 : xs.length + 1 = n) (h2 : zs.length = kn) :
    ∃ X, frzM cf (newM "Spending" (callM m_Spending_init n kn 7 pk dfs) xs zs S) = .ok p.obj (S ++ X) := by
  have hS : (S ++ [Cell.ins "Spending" []])[S.length]? = some (.ins "Spending" []) := by simp
  have q := init_sp h hS
  unfold newM
  rw [u_callM, if_pos ⟨by simp [← h1], h2, by rw [hp]; rfl⟩, hp, q]
  exact ⟨[.dead], by simp [frzM, cf, Sp.obj, Sp.ds]⟩
end Ro
end
section
set_option Elab.async false
set_option linter.all false
set_option maxRecDepth 100000
set_option maxHeartbeats 1000000
namespace Ro
open PySem
variable {S : Store}
/-- a small plain part -/
structure SmA (d : D) : Prop where
  pl : plN 3 d = true
  sh : (toPy d).showable = true
  ln : (toPy d).shown.length ≤ 1000
/-- .. that may hold dicts -/
structure SmQ (d : D) : Prop where
  pl : plQ 2 d = true
  sh : (toPx d).showable = true
  ln : (toPx d).shown.length ≤ 1000
  dp : (toPx d).depth ≤ 3
theorem int_sm {i : Int} (h : i.natAbs < 10 ^ 100) : (PyData.int i).showable = true ∧ (PyData.shown (.int i)).length ≤ 101 := by
  refine ⟨?_, ?_⟩
  · simp only [PyData.showable, decide_eq_true_eq]
    by_cases c : i.natAbs = 0
    · rw [c]; decide
    · have := (Nat.log2_lt (n := i.natAbs) (k := 400) c).mpr (by
        have : (10 : Nat) ^ 100 < 2 ^ 400 := by decide
        omega)
      omega
  · show (Str.ofString (toString i)).length ≤ _
    rw [ofString_length]
    exact int_text_length_le10 (by decide) h
theorem smA_int {i : Int} (h : i.natAbs < 10 ^ 100) : SmA (.int i) := ⟨rfl, (int_sm h).1, Nat.le_trans (int_sm h).2 (by decide)⟩
theorem smA_bl (b : Bool) : SmA (.bl b) := ⟨rfl, rfl, by cases b <;> decide +kernel⟩
theorem tupText_len {ts : List Str} {n : Nat} (h : ∀ t ∈ ts, t.length ≤ n) : (tupleText ts).length ≤ ts.length * (n + 2) + 4 := by
  have hp : ∀ ts : List Str, (∀ t ∈ ts, t.length ≤ n) → piled ts ≤ ts.length * (n + 2) := by
    intro ts
    induction ts with
    | nil => intro _; simp [piled]
    | cons t ts ih =>
      intro h
      have h1 := h t (by simp)
      have h2 := ih fun x hx => h x (by simp [hx])
      rw [piled_cons, List.length_cons, Nat.add_mul]
      omega
  unfold tupleText
  rw [PySem.strLen_append, PySem.strLen_append]
  have e1 : ((("(" : String) : Str)).length = 1 := rfl
  have e3 : (((if ts.length == 1 then ",)" else ")" : String) : Str)).length ≤ 2 := by split <;> decide
  cases ts with
  | nil =>
    have : (Str.join ", " []).length = 0 := rfl
    omega
  | cons t r =>
    have e := join_length_add (t :: r) (by simp)
    have := hp (t :: r) h
    omega
theorem pyAll_sh : ∀ {l : List D}, (∀ x ∈ l, SmA x) → PyData.showableAll (toPys l) = true ∧ (∀ t ∈ PyData.shownAll (toPys l), t.length ≤ 1000) ∧ (PyData.shownAll (toPys l)).length = l.length ∧ l.all (plN 3) = true
  | [], _ => ⟨rfl, by simp [toPys, PyData.shownAll], rfl, rfl⟩
  | x :: l, h => by
    obtain ⟨h1, h2, h3, h4⟩ := pyAll_sh (l := l) fun y hy => h y (by simp [hy])
    have hx := h x (by simp)
    refine ⟨by simp [toPys, PyData.showableAll, h1, hx.sh], ?_, by simp [toPys, PyData.shownAll, h3], by simp [hx.pl]; simpa using h4⟩
    intro t ht
    simp only [toPys, PyData.shownAll, List.mem_cons] at ht
    rcases ht with rfl | ht
    · exact hx.ln
    · exact h2 t ht
theorem pl_mono : ∀ {n m : Nat} {d : D}, n ≤ m → plN n d = true → plN m d = true
  | _, _, .non, _, _ => by simp
  | _, _, .bl _, _, _ => by simp
  | _, _, .int _, _, _ => by simp
  | _, _, .str _, _, _ => by simp
  | 0, _, .tup l, _, h => by simp [plN] at h
  | 0, _, .lst l, _, h => by simp [plN] at h
  | n + 1, 0, _, h, _ => by omega
  | n + 1, m + 1, .tup l, h, k => by
    have k' : ∀ x ∈ l, plN n x = true := by simpa using k
    show l.all (plN m) = true
    rw [List.all_eq_true]
    intro x hx
    exact pl_mono (by omega) (k' x hx)
  | n + 1, m + 1, .lst l, h, k => by
    have k' : ∀ x ∈ l, plN n x = true := by simpa using k
    show l.all (plN m) = true
    rw [List.all_eq_true]
    intro x hx
    exact pl_mono (by omega) (k' x hx)
  | n, _, .scr _, _, h => by simp [plN] at h
  | n, _, .dct _, _, h => by simp [plN] at h
  | n, _, .obj _ _, _, h => by simp [plN] at h
  | n, _, .ref _, _, h => by simp [plN] at h
  | n, _, .fn _, _, h => by simp [plN] at h
  | n, _, .thk _ _, _, h => by simp [plN] at h
theorem textFrom_le {n : Nat} : ∀ (ts : List Str) (k : Nat) (acc : Str), (∀ t ∈ ts, t.length ≤ n) → (textFrom k acc ts).length ≤ acc.length + ts.length * (n + 2)
  | [], _, acc, _ => by simp [textFrom]
  | t :: ts, k, acc, h => by
    have h1 := h t (by simp)
    have ih := textFrom_le ts (k + 1) (acc ++ (if k > 0 then ", " else "" : String) ++ t) fun x hx => h x (by simp [hx])
    rw [PySem.strLen_append, PySem.strLen_append] at ih
    have e3 : (((if k > 0 then ", " else "" : String) : Str)).length ≤ 2 := by split <;> decide
    rw [textFrom, List.length_cons, Nat.add_mul]
    omega
theorem lstText_len {ts : List Str} {n : Nat} (h : ∀ t ∈ ts, t.length ≤ n) : (listText ts).length ≤ ts.length * (n + 2) + 4 := by
  have := textFrom_le ts 0 "[" h
  have e1 : ((("[" : String) : Str)).length = 1 := rfl
  unfold listText
  rw [PySem.strLen_append]
  have e2 : ((("]" : String) : Str)).length = 1 := rfl
  omega
/-- there is a repr -/
def Shw (d : D) : Prop := ∃ s, bReprX [d] = some (.str s)
theorem shw_ok {d : D} (h : reprOk d = true) : Shw d := ⟨_, by show (if reprOk d = true then _ else _) = _; rw [if_pos h]⟩
theorem shw_okX {d : D} (h : reprOkX d = true) : Shw d := by
  by_cases k : reprOk d = true
  · exact shw_ok k
  · exact ⟨_, by show (if reprOk d = true then _ else if reprOkX d = true then _ else _) = _; rw [if_neg k, if_pos h]⟩
end Ro
end
section
set_option Elab.async false
set_option linter.all false
set_option maxRecDepth 100000
set_option maxHeartbeats 1000000
namespace Ro
open PySem
variable {S : Store}
structure Rw where
  mon : Int
  day : Int
  top : Int
  bot : Int
def Rw.ok (r : Rw) : Prop := (1 ≤ r.mon ∧ r.mon ≤ 3) ∧ (0 ≤ r.day ∧ r.day ≤ 59) ∧ (1 ≤ r.top ∧ r.top ≤ 1000000) ∧ 1 ≤ r.bot ∧ r.bot ≤ 1000000
def Rw.d (r : Rw) : D := .tup [.int r.mon, .int r.day, .int r.top, .int r.bot]
@[simp] theorem at_2r (d e c : D) (l : List D) : atP (d :: e :: c :: l) 2 = some c := by
  have : pyIx (d :: e :: c :: l).length 2 = some 2 := ix_nn _ 2 (by simp)
  unfold atP
  rw [this]
  rfl
@[simp] theorem at_3r (d e c b : D) (l : List D) : atP (d :: e :: c :: b :: l) 3 = some b := by
  have : pyIx (d :: e :: c :: b :: l).length 3 = some 3 := ix_nn _ 3 (by simp)
  unfold atP
  rw [this]
  rfl
def rowB : D → Bool
  | .tup [a, b, c, e] => wholeB a 1 3 && (wholeB b 0 59 && (wholeB c 1 1000000 && wholeB e 1 1000000))
  | _ => false
theorem rowB_d {r : Rw} (h : r.ok) : rowB r.d = true := by
  obtain ⟨⟨a1, a2⟩, ⟨b1, b2⟩, ⟨c1, c2⟩, e1, e2⟩ := h
  simp [Rw.d, rowB, wholeB, a1, a2, b1, b2, c1, c2, e1, e2]
theorem whole_int {d : D} {lo hi : Int} (h : wholeB d lo hi = true) : ∃ i : Int, d = .int i ∧ lo ≤ i ∧ i ≤ hi := by
  cases d with
  | int i => exact ⟨i, rfl, by simpa [wholeB] using h⟩
  | _ => cases h
theorem rowB_of {d : D} (h : rowB d = true) : ∃ r : Rw, r.ok ∧ d = r.d := by
  unfold rowB at h
  split at h
  · simp only [Bool.and_eq_true] at h
    obtain ⟨h1, h2, h3, h4⟩ := h
    obtain ⟨a, rfl, a1, a2⟩ := whole_int h1
    obtain ⟨b, rfl, b1, b2⟩ := whole_int h2
    obtain ⟨c, rfl, c1, c2⟩ := whole_int h3
    obtain ⟨e, rfl, e1, e2⟩ := whole_int h4
    exact ⟨⟨a, b, c, e⟩, ⟨⟨a1, a2⟩, ⟨b1, b2⟩, ⟨c1, c2⟩, e1, e2⟩, rfl⟩
  · cases h
/-- a row that may be told -/
structure RowT (d : D) : Prop where
  k : okD d = true
  t : ∀ l, d = .tup l → ∀ x ∈ l, okD x = true
/-- a thing that may be told as rates -/
structure RtT (d : D) : Prop where
  k : okD d = true
  t : ∀ l, d = .tup l → l.length ≤ 100 ∧ ∀ x ∈ l, RowT x
theorem rate_b {d : D} (h : RowT d) : m_is_rate [d] S = .ok (.bl (rowB d)) S := by
  unfold m_is_rate b_is_rate
  obtain ⟨k, t⟩ := h
  cases d with
  | tup l =>
    have t := t l rfl
    match l, t with
    | [], _ => simp [bLenA, bLen, lenD, rowB]
    | [a], _ => simp [bLenA, bLen, lenD, rowB]
    | [a, b], _ => simp [bLenA, bLen, lenD, rowB]
    | [a, b, c], _ => simp [bLenA, bLen, lenD, rowB]
    | [a, b, c, e], t =>
      have ka := t a (by simp)
      have kb := t b (by simp)
      have kc := t c (by simp)
      have ke := t e (by simp)
      cases h1 : wholeB a 1 3 <;> cases h2 : wholeB b 0 59 <;> cases h3 : wholeB c 1 1000000 <;> simp [bLenA, bLen, lenD, rowB, whole_b, ka, kb, kc, ke, h1, h2, h3]
    | a :: b :: c :: e :: f :: l, _ =>
      have : ¬ ((l.length : Int) + 1 + 1 + 1 + 1 + 1 = 4) := by omega
      simp [bLenA, bLen, lenD, rowB, this]
  | scr l => cases k
  | obj c l => cases k
  | ref n => cases k
  | fn n => cases k
  | thk n l => cases k
  | _ => simp [rowB]
def lexR (a b : Rw) : Bool := HT.lexLt [a.mon, a.day] [b.mon, b.day]
structure TbOk (rs : List Rw) : Prop where
  len : rs.length ≤ 12
  ok : ∀ r ∈ rs, r.ok
  asc : rs.Pairwise fun a b => lexR a b = true
def tabD (rs : List Rw) : D := .tup (rs.map Rw.d)
theorem cut_row (r : Rw) : cutD r.d none (some 2) = some (.tup [.int r.mon, .int r.day]) := rfl
theorem cut_row2 (r : Rw) : cutD r.d (some 2) none = some (.tup [.int r.top, .int r.bot]) := rfl
theorem cut_m1 (l : List D) : cutL l none (some (-1)) = l.dropLast := by
  unfold cutL cutI
  simp
  rw [List.dropLast_eq_take]
  congr 1
  omega
theorem cut_1 (l : List D) : cutL l (some 1) none = l.tail := by
  unfold cutL cutI
  simp
  by_cases h : l.length = 0
  · simp [List.length_eq_zero_iff.mp h]
  · have e : min 1 l.length = 1 := by omega
    rw [e, List.take_of_length_le (by simp)]
    simp
def ascB : List Rw → Bool
  | a :: b :: rs => lexR a b && ascB (b :: rs)
  | _ => true
theorem lexR_iff {a b : Rw} : lexR a b = true ↔ a.mon < b.mon ∨ (a.mon = b.mon ∧ a.day < b.day) := by
  unfold lexR
  simp only [HT.lexLt]
  by_cases e : a.mon = b.mon
  · by_cases f : a.day = b.day
    · simp [e, f]
    · simp [e, f]
  · simp [e]
theorem asc_pw : ∀ {rs : List Rw}, ascB rs = true → rs.Pairwise fun a b => lexR a b = true
  | [], _ => .nil
  | [a], _ => List.pairwise_singleton _ _
  | a :: b :: rs, h => by
    simp only [ascB, Bool.and_eq_true] at h
    have ih := asc_pw h.2
    refine .cons (fun c hc => ?_) ih
    rcases List.mem_cons.mp hc with rfl | hc
    · exact h.1
    · have h2 := (List.pairwise_cons.mp ih).1 c hc
      have h1 := h.1
      rw [lexR_iff] at h1 h2 ⊢
      omega
theorem pw_asc : ∀ {rs : List Rw}, (rs.Pairwise fun a b => lexR a b = true) → ascB rs = true
  | [], _ => rfl
  | [a], _ => rfl
  | a :: b :: rs, h => by
    obtain ⟨h1, h2⟩ := List.pairwise_cons.mp h
    simp only [ascB, Bool.and_eq_true]
    exact ⟨h1 b (by simp), pw_asc h2⟩
def zipR : List Rw → List (Rw × Rw)
  | a :: b :: rs => (a, b) :: zipR (b :: rs)
  | _ => []
theorem zip_R : ∀ rs : List Rw, zipL ((rs.map Rw.d).dropLast) ((rs.map Rw.d).tail) = (zipR rs).map fun p => .tup [p.1.d, p.2.d]
  | [] => rfl
  | [a] => rfl
  | a :: b :: rs => by
    have e1 : ((a :: b :: rs).map Rw.d).dropLast = a.d :: ((b :: rs).map Rw.d).dropLast := by simp
    have e2 : ((a :: b :: rs).map Rw.d).tail = b.d :: ((b :: rs).map Rw.d).tail := by simp
    rw [e1, e2]
    show D.tup [a.d, b.d] :: zipL (((b :: rs).map Rw.d).dropLast) (((b :: rs).map Rw.d).tail) = _
    rw [zip_R (b :: rs)]
    rfl
theorem zipR_all : ∀ rs : List Rw, (zipR rs).all (fun p => lexR p.1 p.2) = ascB rs
  | [] => rfl
  | [a] => rfl
  | a :: b :: rs => by
    simp only [zipR, List.all_cons, ascB]
    rw [zipR_all (b :: rs)]
theorem zipR_len : ∀ rs : List Rw, (zipR rs).length ≤ rs.length
  | [] => Nat.le_refl _
  | [a] => by simp [zipR]
  | a :: b :: rs => by
    have := zipR_len (b :: rs)
    simp only [zipR, List.length_cons] at this ⊢
    omega
theorem dBls_map {α : Type} (f : α → Bool) : ∀ l : List α, dBls (l.map fun a => .bl (f a)) = some (l.map f)
  | [] => rfl
  | a :: l => by rw [List.map_cons, dBls, dBls_map f l]; rfl
theorem bAll_map {α : Type} (f : α → Bool) (l : List α) : bAll [.lst (l.map fun a => .bl (f a))] = some (.bl (l.all f)) := by
  show Option.map (fun bs => D.bl (bs.all id)) (dBls (l.map fun a => D.bl (f a))) = _
  rw [dBls_map f l]
  simp [List.all_map]
theorem filter_yes (l : List D) : l.filter (fun _ => true) = l := by simp
theorem lcRow {l : List D} (h : ∀ x ∈ l, RowT x) (hl : l.length ≤ 100) (T x2 : Option D) : lcLoop (pName 1) bYes (eFn (callM m_is_rate 1 0 1 [(0, 0)] []) (aCons (eVar 1) aNil) aNil) (wipeE [T, none, x2] [1]) l [] S = .ok (l.map fun d => .bl (rowB d)) S := by
  have := lc_pure (S := S) (tg := pName 1) (c := bYes) (el := eFn (callM m_is_rate 1 0 1 [(0, 0)] []) (aCons (eVar 1) aNil) aNil) (env0 := wipeE [T, none, x2] [1]) (p := fun _ => true) (g := fun d => .bl (rowB d)) (xs := l) (acc := []) (by simp; omega) fun x hx => by
    refine ⟨_, rfl, rfl, fun _ => ?_⟩
    simp [wipeE, rate_b (h x hx)]
  rw [filter_yes] at this
  simpa using this
theorem lcRise {rs : List Rw} (hl : rs.length ≤ 100) (T : Option D) : lcLoop (pTup (pCons (pName 1) (pCons (pName 2) pNil))) bYes (eOp ltA (eCut (eVar 1) oNone (oSome (eC (.int 2)))) (eCut (eVar 2) oNone (oSome (eC (.int 2))))) (wipeE [T, none, none] [1, 2]) ((zipR rs).map fun p => .tup [p.1.d, p.2.d]) [] S = .ok ((zipR rs).map fun p => .bl (lexR p.1 p.2)) S := by
  have hz := zipR_len rs
  have key : ∀ (ps : List (Rw × Rw)) (acc : List D), acc.length + ps.length ≤ LINE → lcLoop (pTup (pCons (pName 1) (pCons (pName 2) pNil))) bYes (eOp ltA (eCut (eVar 1) oNone (oSome (eC (.int 2)))) (eCut (eVar 2) oNone (oSome (eC (.int 2))))) (wipeE [T, none, none] [1, 2]) (ps.map fun p => .tup [p.1.d, p.2.d]) acc S = .ok (acc ++ ps.map fun p => .bl (lexR p.1 p.2)) S := by
    intro ps
    induction ps with
    | nil => intro acc _; simp [lcLoop]
    | cons p ps ih =>
      intro acc hle
      rw [List.map_cons, List.map_cons]
      unfold lcLoop
      have e1 : eOp ltA (eCut (eVar 1) oNone (oSome (eC (.int 2)))) (eCut (eVar 2) oNone (oSome (eC (.int 2)))) [T, some p.1.d, some p.2.d] S = .ok (.bl (lexR p.1 p.2)) S := by
        simp [cut_row, ltA, dInts]
        rfl
      have e2 : pTup (pCons (pName 1) (pCons (pName 2) pNil)) (.tup [p.1.d, p.2.d]) (wipeE [T, none, none] [1, 2]) = some [T, some p.1.d, some p.2.d] := rfl
      rw [e2]
      dsimp only
      rw [show bYes [T, some p.1.d, some p.2.d] S = .ok true S from rfl, nox_ok, bnd_ok, if_pos rfl, e1, nox_ok, bnd_ok, if_pos (by simp at hle ⊢; omega), ih _ (by simp at hle ⊢; omega)]
      simp
  simpa using key (zipR rs) [] (by simp; omega)
theorem rows_of : ∀ {l : List D}, l.all rowB = true → ∃ rs : List Rw, (∀ r ∈ rs, r.ok) ∧ l = rs.map Rw.d
  | [], _ => ⟨[], by simp, rfl⟩
  | d :: l, h => by
    simp only [List.all_cons, Bool.and_eq_true] at h
    obtain ⟨r, hr, rfl⟩ := rowB_of h.1
    obtain ⟨rs, h1, rfl⟩ := rows_of h.2
    exact ⟨r :: rs, by simpa using ⟨hr, h1⟩, rfl⟩
theorem rows_T {rs : List Rw} : ∀ x ∈ rs.map Rw.d, RowT x := fun x hx => by
  obtain ⟨r, _, rfl⟩ := List.mem_map.mp hx
  exact ⟨rfl, fun l e y hy => by cases e; simp at hy; rcases hy with rfl | rfl | rfl | rfl <;> rfl⟩
theorem rows_all {rs : List Rw} (h : ∀ r ∈ rs, r.ok) : (rs.map Rw.d).all rowB = true := by
  rw [List.all_eq_true]
  intro x hx
  obtain ⟨r, hr, rfl⟩ := List.mem_map.mp hx
  exact rowB_d (h r hr)
/-- are these rates? -/
def RatesD (d : D) : Prop := ∃ rs, TbOk rs ∧ d = tabD rs
theorem need_ok {rs : List Rw} (h : TbOk rs) : m_need_rates [tabD rs] S = .ok .non S := by
  have hl := h.len
  unfold m_need_rates b_need_rates tabD
  have l1 := lcRow (S := S) (l := rs.map Rw.d) rows_T (by simp; omega) (some (.tup (rs.map Rw.d))) none
  have l2 := lcRise (S := S) (rs := rs) (by omega) (some (.tup (rs.map Rw.d)))
  have b1 := bAll_map rowB (rs.map Rw.d)
  rw [rows_all h.ok] at b1
  have b2 := bAll_map (fun p : Rw × Rw => lexR p.1 p.2) (zipR rs)
  rw [zipR_all, pw_asc h.asc] at b2
  have hlt : ¬ (12 : Int) < rs.length := by omega
  rw [← zip_R] at l2
  generalize (rs.map Rw.d).map (fun d => D.bl (rowB d)) = B1 at l1 b1
  generalize (zipR rs).map (fun p => D.bl (lexR p.1 p.2)) = B2 at l2 b2
  generalize hz : zipL ((rs.map Rw.d).dropLast) ((rs.map Rw.d).tail) = Z at l2
  simp [bLenA, bLen, lenD, l1, b1, cutD, cut_m1, cut_1, hlt, hz, l2, b2]
theorem need_no {d : D} (h : RtT d) (hn : ¬ RatesD d) : m_need_rates [d] S = .err "NoRates" [] S := by
  unfold m_need_rates b_need_rates
  obtain ⟨k, t⟩ := h
  cases d with
  | tup l =>
    obtain ⟨hl, ht⟩ := t l rfl
    by_cases c : l.length ≤ 12
    · have hlt : ¬ (12 : Int) < l.length := by omega
      have l1 := lcRow (S := S) (l := l) ht (by omega) (some (.tup l)) none
      have b1 := bAll_map rowB l
      cases a : l.all rowB with
      | false =>
        rw [a] at b1
        generalize l.map (fun d => D.bl (rowB d)) = B1 at l1 b1
        simp [bLenA, bLen, lenD, l1, b1, hlt]
      | true =>
        rw [a] at b1
        obtain ⟨rs, hr, rfl⟩ := rows_of a
        have hrl : rs.length ≤ 12 := by simpa using c
        have hasc : ascB rs = false := by
          cases z : ascB rs with
          | false => rfl
          | true => exact absurd ⟨rs, ⟨hrl, hr, asc_pw z⟩, rfl⟩ hn
        have l2 := lcRise (S := S) (rs := rs) (by omega) (some (.tup (rs.map Rw.d)))
        have b2 := bAll_map (fun p : Rw × Rw => lexR p.1 p.2) (zipR rs)
        rw [zipR_all, hasc] at b2
        rw [← zip_R] at l2
        generalize (rs.map Rw.d).map (fun d => D.bl (rowB d)) = B1 at l1 b1
        generalize (zipR rs).map (fun p => D.bl (lexR p.1 p.2)) = B2 at l2 b2
        generalize hz : zipL ((rs.map Rw.d).dropLast) ((rs.map Rw.d).tail) = Z at l2
        have hlt : ¬ (12 : Int) < rs.length := by omega
        simp [bLenA, bLen, lenD, l1, b1, cutD, cut_m1, cut_1, hlt, hz, l2, b2]
    · have hlt : (12 : Int) < l.length := by omega
      simp [bLenA, bLen, lenD, hlt]
  | scr l => cases k
  | obj c l => cases k
  | ref n => cases k
  | fn n => cases k
  | thk n l => cases k
  | _ => simp
def hit (rs : List Rw) (m t : Int) : List Rw := rs.filter fun r => decide (r.mon = m) && decide (r.day ≤ t)
def rateOf (rs : List Rw) (m t : Int) : Option (Int × Int) := if m = 0 then some (1, 1) else (hit rs m t).getLast?.map fun r => (r.top, r.bot)
def hitB (m t : Int) : D → Bool
  | .tup [.int a, .int b, _, _] => decide (a = m) && decide (b ≤ t)
  | _ => false
theorem hit_d (rs : List Rw) (m t : Int) : (rs.map Rw.d).filter (hitB m t) = (hit rs m t).map Rw.d := by
  unfold hit
  rw [List.filter_map]
  rfl
theorem rateby_ok {rs : List Rw} {m t a b : Int} (hl : rs.length ≤ 16) (h : rateOf rs m t = some (a, b)) : m_rate_by [tabD rs, .int m, .int t] S = .ok (.tup [.int a, .int b]) S := by
  unfold m_rate_by b_rate_by tabD
  unfold rateOf at h
  by_cases c : m = 0
  · rw [if_pos c] at h
    cases h
    simp [c]
  · rw [if_neg c] at h
    have l1 : lcLoop (pName 4) (bAnd (bVal (eOp eqD (eIdxB (eVar 4) (eC (.int 0))) (eVar 1))) (bVal (eOp leD (eIdxB (eVar 4) (eC (.int 1))) (eVar 2)))) (eVar 4) (wipeE [some (.tup (rs.map Rw.d)), some (.int m), some (.int t), none, none] [4]) (rs.map Rw.d) [] S = .ok (((rs.map Rw.d).filter (hitB m t)).map id) S := by
      refine lc_pure (by simp; omega) fun x hx => ?_
      obtain ⟨r, hr, rfl⟩ := List.mem_map.mp hx
      refine ⟨_, rfl, ?_, fun _ => ?_⟩
      · by_cases c1 : r.mon = m <;> simp [wipeE, Rw.d, hitB, c1]
      · simp [wipeE]
    rw [List.map_id, hit_d] at l1
    cases z : (hit rs m t).getLast? with
    | none => rw [z] at h; cases h
    | some r =>
      rw [z] at h
      cases h
      have hp : ((hit rs m t).map Rw.d).all (plN 7) = true := by
        rw [List.all_eq_true]
        intro x hx
        obtain ⟨r, _, rfl⟩ := List.mem_map.mp hx
        simp [Rw.d]
      have he := rw_inj _ hp
      have hne : ((hit rs m t).map Rw.d).isEmpty = false := by
        cases y : hit rs m t with
        | nil => rw [y] at z; cases z
        | cons _ _ => rfl
      rw [hne] at he
      have hlast : ((hit rs m t).map Rw.d).getLast? = some r.d := by rw [List.getLast?_map, z]; rfl
      generalize (hit rs m t).map Rw.d = L at l1 he hlast
      simp [c, l1, he, idxB, idxD, last_at, hlast, cut_row2]
theorem rateby_no {rs : List Rw} {m t : Int} (hl : rs.length ≤ 16) (h : rateOf rs m t = none) : m_rate_by [tabD rs, .int m, .int t] S = .err "NoRate" [.int m, .int t] S := by
  unfold m_rate_by b_rate_by tabD
  unfold rateOf at h
  by_cases c : m = 0
  · rw [if_pos c] at h
    cases h
  · rw [if_neg c] at h
    have l1 : lcLoop (pName 4) (bAnd (bVal (eOp eqD (eIdxB (eVar 4) (eC (.int 0))) (eVar 1))) (bVal (eOp leD (eIdxB (eVar 4) (eC (.int 1))) (eVar 2)))) (eVar 4) (wipeE [some (.tup (rs.map Rw.d)), some (.int m), some (.int t), none, none] [4]) (rs.map Rw.d) [] S = .ok (((rs.map Rw.d).filter (hitB m t)).map id) S := by
      refine lc_pure (by simp; omega) fun x hx => ?_
      obtain ⟨r, hr, rfl⟩ := List.mem_map.mp hx
      refine ⟨_, rfl, ?_, fun _ => ?_⟩
      · by_cases c1 : r.mon = m <;> simp [wipeE, Rw.d, hitB, c1]
      · simp [wipeE]
    rw [List.map_id, hit_d] at l1
    have h0 : hit rs m t = [] := by
      cases z : hit rs m t with
      | nil => rfl
      | cons a l => rw [z] at h; simp [List.getLast?_cons] at h
    rw [h0] at l1
    have he := rw_inj [] rfl
    simp [c, l1, he, aChk]
def KvOk (p : List Int × D) : Prop := ∃ r : Rw, r.ok ∧ p.1 = [r.mon, r.day] ∧ p.2 = .tup [.int r.top, .int r.bot]
structure DcOk (l : List (List Int × D)) : Prop where
  ok : ∀ p ∈ l, KvOk p
  nd : (l.map (·.1)).Nodup
theorem put_ok {l : List (List Int × D)} {r : Rw} (h : DcOk l) (hr : r.ok) : DcOk (putL l [r.mon, r.day] (.tup [.int r.top, .int r.bot])) ∧ (putL l [r.mon, r.day] (.tup [.int r.top, .int r.bot])).length ≤ l.length + 1 := by
  unfold putL
  split
  · refine ⟨⟨fun p hp => ?_, ?_⟩, by simp⟩
    · obtain ⟨q, hq, rfl⟩ := List.mem_map.mp hp
      by_cases c : q.1 = [r.mon, r.day]
      · rw [if_pos c]
        exact ⟨r, hr, c, rfl⟩
      · rw [if_neg c]
        exact h.ok q hq
    · have e : (l.map fun p => if p.1 = [r.mon, r.day] then (p.1, D.tup [.int r.top, .int r.bot]) else p).map (·.1) = l.map (·.1) := by
        rw [List.map_map]
        refine List.map_congr_left fun p _ => ?_
        show (if p.1 = [r.mon, r.day] then (p.1, D.tup [.int r.top, .int r.bot]) else p).1 = p.1
        split <;> rfl
      rw [e]
      exact h.nd
  · rename_i c
    refine ⟨⟨fun p hp => ?_, ?_⟩, by simp⟩
    · rcases List.mem_append.mp hp with hp | hp
      · exact h.ok p hp
      · simp at hp
        subst hp
        exact ⟨r, hr, rfl, rfl⟩
    · rw [List.map_append, List.nodup_append]
      refine ⟨h.nd, by simp, fun a ha b hb => ?_⟩
      simp at hb
      subst hb
      intro z
      subst z
      obtain ⟨q, hq, e⟩ := List.mem_map.mp ha
      exact c (List.any_eq_true.mpr ⟨q, hq, by simpa using e⟩)
theorem get_ok {l : List (List Int × D)} (h : DcOk l) {k : List Int} (hk : k ∈ l.map (·.1)) : ∃ r : Rw, r.ok ∧ k = [r.mon, r.day] ∧ getL l k = some (.tup [.int r.top, .int r.bot]) := by
  unfold getL
  cases z : l.find? (fun p => decide (p.1 = k)) with
  | none =>
    obtain ⟨q, hq, e⟩ := List.mem_map.mp hk
    have := List.find?_eq_none.mp z q hq
    exact absurd e (by simpa using this)
  | some q =>
    have hm := List.mem_of_find?_eq_some z
    have he := List.find?_some z
    obtain ⟨r, hr, e1, e2⟩ := h.ok q hm
    have he : q.1 = k := by simpa using he
    exact ⟨r, hr, by rw [← he, e1], by rw [← e2]; rfl⟩
def rowOf (l : List (List Int × D)) (k : List Int) : Rw := match k, getL l k with
  | [m, d], some (.tup [.int t, .int b]) => ⟨m, d, t, b⟩
  | _, _ => ⟨0, 0, 0, 0⟩
theorem rowOf_ok {l : List (List Int × D)} (h : DcOk l) {k : List Int} (hk : k ∈ l.map (·.1)) : (rowOf l k).ok ∧ k = [(rowOf l k).mon, (rowOf l k).day] ∧ getL l k = some (.tup [.int (rowOf l k).top, .int (rowOf l k).bot]) := by
  obtain ⟨r, hr, rfl, e⟩ := get_ok h hk
  have e2 : rowOf l [r.mon, r.day] = r := by
    unfold rowOf
    rw [e]
  rw [e2]
  exact ⟨hr, rfl, e⟩
theorem code2 (a b : Int) : TS.code codB [a, b] = a * codB + b := by
  have e : codB ^ 1 = codB := by decide +kernel
  simp [TS.code, e]
theorem srt_asc {ks : List (List Int)} (hnd : ks.Nodup) (hb : ∀ k ∈ ks, TS.Bd codB k) {n : Nat} (hl : ∀ k ∈ ks, k.length = n) : (srtT ks).Pairwise fun a b => TS.code codB a < TS.code codB b := by
  have hs := srtT_sorted ks
  have hn : (srtT ks).Nodup := (srtT_perm ks).nodup_iff.mpr hnd
  have hm : ∀ k, k ∈ srtT ks → k ∈ ks := fun k hk => (srtT_perm ks).mem_iff.mp hk
  have z := hs.and hn
  refine List.Pairwise.imp_of_mem (fun {a b} ha hb' h => ?_) z
  obtain ⟨h1, h2⟩ := h
  by_cases e : TS.code codB a = TS.code codB b
  · exact absurd (code_eq ((hl _ (hm _ ha)).trans (hl _ (hm _ hb')).symm) (hb _ (hm _ ha)) (hb _ (hm _ hb')) e) h2
  · omega
theorem lex_of_code {a b c d : Int} (h : TS.code codB [a, b] < TS.code codB [c, d]) (h1 : 0 ≤ b ∧ b < codB) (h2 : 0 ≤ d ∧ d < codB) : HT.lexLt [a, b] [c, d] = true := by
  rw [code2, code2] at h
  unfold codB at h h1 h2
  simp [HT.lexLt]
  by_cases e : a = c
  · subst e
    rw [if_pos rfl]
    omega
  · rw [if_neg e]
    omega
theorem idx_dT {n : Nat} {l : List (List Int × D)} {k : List Int} {v : D} (h : S[n]? = some (.dcT l)) (e : getL l k = some v) : idxB (.ref n) (tupD k) S = some v := by
  show idxT (.ref n) (.tup (k.map D.int)) S = some v
  unfold idxT
  simp only [h, dInts_map]
  exact e
theorem rates_ok {b : Nat} (hB : Bx S b) : W (m__law_rates [.ref b] S) fun d S' => ∃ rs, TbOk rs ∧ d = tabD rs ∧ Fr b S S' := by
  have hb := hB.lt
  unfold m__law_rates b__law_rates
  simp
  refine (take_fr (hB.app [.dcT []]) (by decide)).mono ?_
  rintro _ S1 ⟨⟨n, rfl, n1, n2⟩, f1⟩
  have hc : (S ++ [Cell.dcT []])[S.length]? = some (.dcT []) := by simp
  have F1 : Fr b S S1 := (Fr.app hB _).trans f1
  have hc1 : S1[S.length]? = some (.dcT []) := (f1.keep S.length (by simp) (by omega)).trans hc
  have hs : -4611686018427387904 ≤ n ∧ n < 4611686018427387904 := by omega
  simp [hs]
  refine W.loop (I := fun i env S' => ∃ (l : List (List Int × D)) (z w v : Option D), env = [some (.ref b), some (.ref S.length), z, w, v, none] ∧ Fr b S S' ∧ S.length < S'.length ∧ S'[S.length]? = some (.dcT l) ∧ DcOk l ∧ l.length ≤ i) (k := 0)
    ⟨[], none, none, none, rfl, F1, by have := f1.le; simp at this; omega, hc1, ⟨by simp, by simp⟩, by simp⟩ (fun i d env S' hi hd hI => ?_) (fun env S' hI => ?_)
  · obtain ⟨l, z, w, v, rfl, F, hl, hd', hk, hle⟩ := hI
    refine ⟨_, rfl, ?_⟩
    try simp
    refine (take_fr F.bx (by decide)).mono ?_
    rintro _ S2 ⟨⟨i1, rfl, a1, b1⟩, g1⟩
    try simp
    refine (take_fr g1.bx (by decide)).mono ?_
    rintro _ S3 ⟨⟨i2, rfl, a2, b2⟩, g2⟩
    try simp
    refine (take_fr g2.bx (by decide)).mono ?_
    rintro _ S4 ⟨⟨i3, rfl, a3, b3⟩, g3⟩
    try simp
    obtain ⟨_, edy, dy, rfl, dy1, dy2⟩ := pick_ok (l := [.int 0, .int i1, .int i2]) (P := fun d => ∃ z : Int, d = .int z ∧ 0 ≤ z ∧ z ≤ 59) a3 (by simpa using b3) (by simp; omega)
    refine ⟨_, edy, ?_⟩
    refine (take_fr g3.bx (by decide)).mono ?_
    rintro _ S5 ⟨⟨i4, rfl, a4, b4⟩, g4⟩
    try simp
    refine (take_fr g4.bx (by decide)).mono ?_
    rintro _ S6 ⟨⟨i5, rfl, a5, b5⟩, g5⟩
    try simp
    obtain ⟨_, etp, tp, rfl, tp1, tp2⟩ := pick_ok (l := [.int 1, .int 1000000, .int (1 + i4)]) (P := fun d => ∃ z : Int, d = .int z ∧ 1 ≤ z ∧ z ≤ 1000000) a5 (by simpa using b5) (by simp; omega)
    refine ⟨_, etp, ?_⟩
    refine (take_fr g5.bx (by decide)).mono ?_
    rintro _ S7 ⟨⟨i6, rfl, a6, b6⟩, g6⟩
    try simp
    refine (take_fr g6.bx (by decide)).mono ?_
    rintro _ S8 ⟨⟨i7, rfl, a7, b7⟩, g7⟩
    try simp
    obtain ⟨_, ebt, bt, rfl, bt1, bt2⟩ := pick_ok (l := [.int 1, .int 1000000, .int 100, .int (1 + i6)]) (P := fun d => ∃ z : Int, d = .int z ∧ 1 ≤ z ∧ z ≤ 1000000) a7 (by simpa using b7) (by simp; omega)
    refine ⟨_, ebt, ?_⟩
    refine (take_fr g7.bx (by decide)).mono ?_
    rintro _ S9 ⟨⟨i8, rfl, a8, b8⟩, g8⟩
    have G : Fr b S' S9 := ((((((g1.trans g2).trans g3).trans g4).trans g5).trans g6).trans g7).trans g8
    have hc9 : S9[S.length]? = some (.dcT l) := (G.keep S.length hl (by omega)).trans hd'
    have hl9 : S.length < S9.length := Nat.lt_of_lt_of_le hl G.le
    have ha9 : S9[S.length] = .dcT l := by
      obtain ⟨_, e⟩ := List.getElem?_eq_some_iff.mp hc9
      exact e
    have hln : l.length < 16777216 := by have := rng_get hd; omega
    obtain ⟨p1, p2⟩ := put_ok (r := ⟨1 + i8, dy, tp, bt⟩) hk ⟨⟨by simp; omega, by simp; omega⟩, ⟨dy1, dy2⟩, ⟨tp1, tp2⟩, bt1, bt2⟩
    simp [dInts, hl9, ha9, hln]
    simp at p2
    exact ⟨(F.trans G).put (Nat.le_refl _) hb _, p1, by omega⟩
  · obtain ⟨l, z, w, v, rfl, F, hl, hd', hk, hle⟩ := hI
    have ha : S'[S.length] = .dcT l := by
      obtain ⟨_, e⟩ := List.getElem?_eq_some_iff.mp hd'
      exact e
    simp at hle
    have hl12 : l.length ≤ 12 := by omega
    have hkey : ∀ k ∈ l.map (·.1), k.length = 2 ∧ TS.Bd codB k := fun k hk' => by
      obtain ⟨h1, h2, _⟩ := rowOf_ok hk hk'
      rw [h2]
      obtain ⟨⟨x1, x2⟩, ⟨x3, x4⟩, _⟩ := h1
      refine ⟨rfl, fun m hm => ?_⟩
      unfold codB
      simp at hm
      rcases hm with rfl | rfl <;> omega
    have hso : sortOk (l.map (·.1)) = true := by
      unfold sortOk
      have e1 : decide ((l.map (·.1)).length < 64) = true := by simp; omega
      rw [e1, Bool.true_and]
      split
      · rfl
      · rename_i n r e
        have hn2 : n.length = 2 := (hkey n (by rw [e]; simp)).1
        rw [hn2, ← e]
        simp only [Bool.and_eq_true, decide_eq_true_eq, List.all_eq_true]
        refine ⟨by omega, fun k hk' => ?_⟩
        obtain ⟨k1, k2⟩ := hkey k hk'
        unfold tupOk
        simp only [Bool.and_eq_true, decide_eq_true_eq, List.all_eq_true]
        exact ⟨k1, fun z hz => k2 z hz⟩
    have hmem : ∀ k, k ∈ srtT (l.map (·.1)) → k ∈ l.map (·.1) := fun k hk' => (srtT_perm _).mem_iff.mp hk'
    have hlen : (srtT (l.map (·.1))).length ≤ 12 := by rw [(srtT_perm _).length_eq]; simpa using hl12
    have hasc := srt_asc hk.nd (fun k hk' => (hkey k hk').2) (fun k hk' => (hkey k hk').1)
    have hT : TbOk ((srtT (l.map (·.1))).map (rowOf l)) := by
      refine ⟨by simpa using hlen, fun r hr => ?_, ?_⟩
      · obtain ⟨k, hk', rfl⟩ := List.mem_map.mp hr
        exact (rowOf_ok hk (hmem k hk')).1
      · rw [List.pairwise_map]
        refine List.Pairwise.imp_of_mem (fun {a c} h1 h2 h => ?_) hasc
        obtain ⟨x1, x2, _⟩ := rowOf_ok hk (hmem a h1)
        obtain ⟨y1, y2, _⟩ := rowOf_ok hk (hmem c h2)
        rw [x2, y2] at h
        have u := x1.2.1
        have v := y1.2.1
        exact lex_of_code h (by unfold codB; omega) (by unfold codB; omega)
    have lc : lcLoop (pName 5) bYes (eOp addD (eVar 5) (eIdxB (eVar 1) (eVar 5))) (wipeE [some (.ref b), some (.ref S.length), z, w, v, none] [5]) ((srtT (l.map (·.1))).map tupD) [] S' = .ok (((srtT (l.map (·.1))).map (rowOf l)).map Rw.d) S' := by
      refine (lc_pure (p := fun _ => true) (g := fun d => match d with | .tup m => (rowOf l ((dInts m).getD [])).d | _ => .non) (by simp; omega) fun x hx => ?_).trans ?_
      · obtain ⟨k, hk', rfl⟩ := List.mem_map.mp hx
        obtain ⟨x1, x2, x3⟩ := rowOf_ok hk (hmem k hk')
        refine ⟨_, rfl, rfl, fun _ => ?_⟩
        have e1 : dInts (k.map D.int) = some k := dInts_map k
        have e2 := idx_dT hd' x3
        have e3 : addD (tupD k) (.tup [.int (rowOf l k).top, .int (rowOf l k).bot]) = some (rowOf l k).d := by
          generalize hr : rowOf l k = r at x2 ⊢
          rw [x2]
          rfl
        simp [wipeE, e2, e3]
        simp [tupD, e1]
      · rw [List.filter_eq_self.mpr (fun _ _ => rfl)]
        simp [Function.comp_def, tupD, dInts_map]
    generalize hL : ((srtT (l.map (·.1))).map (rowOf l)).map Rw.d = L at lc
    simp [hl, ha, bSortL, hso, lc, bTuple]
    exact ⟨_, hT, by rw [← hL]; rfl, F⟩
def rateD : Option (Int × Int) → D
  | none => .non
  | some (a, b) => .tup [.int a, .int b]
theorem lawrate_ok {rs : List Rw} {m t : Int} : m__law_rate [tabD rs, .int m, .int t] S = .ok (rateD (rateOf rs m t)) S := by
  unfold m__law_rate b__law_rate tabD rateOf
  by_cases c : m = 0
  · simp [c, rateD]
  · have key : ∀ (rs : List Rw) (o : Option (Int × Int)) (x4 x5 x6 x7 T : Option D), ∃ env', loop (pTup (pCons (pName 4) (pCons (pName 5) (pCons (pName 6) (pCons (pName 7) pNil))))) (sIf (bAnd (bVal (eOp eqD (eVar 4) (eVar 1))) (bVal (eOp leD (eVar 5) (eVar 2)))) (sSet 3 (eTup (aCons (eVar 6) (aCons (eVar 7) aNil)))) sPass) (rs.map Rw.d) [T, some (.int m), some (.int t), some (rateD o), x4, x5, x6, x7] S
        = .ok (.nx env') S ∧ env'[3]? = some (some (rateD (((hit rs m t).getLast?.map fun r => (r.top, r.bot)).or o))) := by
      intro rs
      induction rs with
      | nil => intro o x4 x5 x6 x7 T; exact ⟨_, rfl, by simp [hit]⟩
      | cons r rs ih =>
        intro o x4 x5 x6 x7 T
        have hl : ∀ q : List Rw, (hit (r :: rs) m t) = (if (decide (r.mon = m) && decide (r.day ≤ t)) = true then r :: hit rs m t else hit rs m t) := fun _ => by unfold hit; rw [List.filter_cons]
        rw [List.map_cons, hl []]
        unfold Ro.loop
        by_cases h1 : r.mon = m
        · by_cases h2 : r.day ≤ t
          · obtain ⟨e, e1, e2⟩ := ih (some (r.top, r.bot)) (some (.int r.mon)) (some (.int r.day)) (some (.int r.top)) (some (.int r.bot)) T
            refine ⟨e, ?_, ?_⟩
            · rw [← e1]
              simp [Rw.d, h1, h2, rateD]
            · rw [e2, if_pos (by simp [h1, h2]), List.getLast?_cons]
              cases (hit rs m t).getLast? <;> simp
          · obtain ⟨e, e1, e2⟩ := ih o (some (.int r.mon)) (some (.int r.day)) (some (.int r.top)) (some (.int r.bot)) T
            refine ⟨e, ?_, ?_⟩
            · rw [← e1]
              simp [Rw.d, h1, h2, rateD]
            · rw [e2, if_neg (by simp [h1, h2])]
        · obtain ⟨e, e1, e2⟩ := ih o (some (.int r.mon)) (some (.int r.day)) (some (.int r.top)) (some (.int r.bot)) T
          refine ⟨e, ?_, ?_⟩
          · rw [← e1]
            simp [Rw.d, h1, rateD]
          · rw [e2, if_neg (by simp [h1])]
    obtain ⟨e, e1, e2⟩ := key rs none none none none none (some (.tup (rs.map Rw.d)))
    have e1 : loop (pTup (pCons (pName 4) (pCons (pName 5) (pCons (pName 6) (pCons (pName 7) pNil))))) (sIf (bAnd (bVal (eOp eqD (eVar 4) (eVar 1))) (bVal (eOp leD (eVar 5) (eVar 2)))) (sSet 3 (eTup (aCons (eVar 6) (aCons (eVar 7) aNil)))) sPass) (rs.map Rw.d) [some (.tup (rs.map Rw.d)), some (.int m), some (.int t), some .non, none, none, none, none] S = .ok (.nx e) S := e1
    rw [Option.or_none] at e2
    simp [c, e1, e2]
end Ro
end
section
set_option Elab.async false
set_option linter.all false
set_option maxRecDepth 100000
set_option maxHeartbeats 1000000
namespace Ro
open PySem
variable {S : Store}
def Rw.k (r : Rw) : Int × Int := (r.mon, r.day)
theorem eq_pairs : ∀ ps qs : List (Int × Int), pyEqs (ps.map pairT) (qs.map pairT) = decide (ps = qs)
  | [], [] => by simp
  | [], q :: qs => by simp
  | p :: ps, [] => by simp
  | (a, b) :: ps, (c, d) :: qs => by
    have := eq_pairs ps qs
    rw [List.map_cons, List.map_cons, pyEqs_cons, this]
    by_cases h1 : a = c <;> by_cases h2 : b = d <;> by_cases h3 : ps = qs <;> simp [pairT, h1, h2, h3]
theorem dPairs_map : ∀ {ps : List (Int × Int)}, (∀ p ∈ ps, Pr64 p) → dPairs (ps.map pairT) = some ps
  | [], _ => rfl
  | (a, b) :: ps, h => by
    have h1 := h (a, b) (by simp)
    have h2 : pr64B (a, b) = true := by
      obtain ⟨⟨x1, x2⟩, x3, x4⟩ := h1
      simp only at x1 x2 x3 x4
      simp [pr64B, x1, x2, x3, x4]
    rw [List.map_cons]
    show (if pr64B (a, b) = true then _ else _) = _
    rw [if_pos h2, dPairs_map fun p hp => h p (by simp [hp])]
    rfl
theorem Rw.ok.p64 {r : Rw} (h : r.ok) : Pr64 r.k := by
  obtain ⟨⟨a1, a2⟩, ⟨b1, b2⟩, _⟩ := h
  exact ⟨⟨by simp [Rw.k]; omega, by simp [Rw.k]; omega⟩, by simp [Rw.k]; omega, by simp [Rw.k]; omega⟩
theorem code_lt {a b : Rw} (ha : a.ok) (hb : b.ok) : pcode a.k < pcode b.k ↔ lexR a b = true := by
  obtain ⟨⟨x1, x2⟩, x3, x4⟩ := ha.p64
  obtain ⟨⟨y1, y2⟩, y3, y4⟩ := hb.p64
  rw [lexR_iff]
  simp only [Rw.k, pcode] at *
  omega
theorem keys_asc {rs : List Rw} (h : ∀ r ∈ rs, r.ok) : rs.map Rw.k = psort (rs.map Rw.k) ↔ ascB rs = true := by
  have h64 : ∀ p ∈ rs.map Rw.k, Pr64 p := fun p hp => by
    obtain ⟨r, hr, rfl⟩ := List.mem_map.mp hp
    exact (h r hr).p64
  constructor
  · intro e
    have hp := asc_ssort ((rs.map Rw.k).map pcode)
    have e2 : (psort (rs.map Rw.k)).map pcode = ssort ((rs.map Rw.k).map pcode) := by
      unfold psort
      rw [List.map_map]
      have : (ssort ((rs.map Rw.k).map pcode)).map (pcode ∘ pdec) = (ssort ((rs.map Rw.k).map pcode)).map id := List.map_congr_left fun c hc => by
        rw [mem_ssort] at hc
        obtain ⟨p, hp, rfl⟩ := List.mem_map.mp hc
        show pcode (pdec (pcode p)) = pcode p
        rw [pdec_code (h64 p hp)]
      rw [this, List.map_id]
    rw [← e2, ← e, List.map_map, List.pairwise_map] at hp
    exact pw_asc (List.Pairwise.imp_of_mem (fun {a b} ha hb hlt => (code_lt (h a ha) (h b hb)).mp hlt) hp)
  · intro a
    have hp := asc_pw a
    have hc : ((rs.map Rw.k).map pcode).Pairwise (· < ·) := by
      rw [List.map_map, List.pairwise_map]
      exact List.Pairwise.imp_of_mem (fun {a b} ha hb hlt => (code_lt (h a ha) (h b hb)).mpr hlt) hp
    refine psort_of h64 (fun p hp => hp) (fun p hp => hp) ?_ (hc.imp fun h => Int.le_of_lt h)
    rw [List.nodup_iff_pairwise_ne]
    rw [List.pairwise_map] at hc
    exact hc.imp fun hlt e => by subst e; omega
theorem lwhole_b {d : D} (hd : okD d = true) (lo hi : Int) : m__law_whole [d, .int lo, .int hi] S = .ok (.bl (wholeB d lo hi)) S := whole_b hd lo hi
theorem are_loop {T : Option D} : ∀ {l : List D}, (∀ x ∈ l, RowT x) → ∀ x1 : Option D, ∃ x1', loop (pName 1) t__law_are_4 l [T, x1, none] S = if l.all rowB then .ok (.nx [T, x1', none]) S else .ok (.rt (.bl false)) S
  | [], _, x1 => ⟨x1, rfl⟩
  | d :: l, h, x1 => by
    obtain ⟨x1', ih⟩ := are_loop (T := T) (l := l) (fun x hx => h x (List.mem_cons_of_mem _ hx)) (some d)
    refine ⟨x1', ?_⟩
    have hd := h d (by simp)
    have body : t__law_are_4 [T, some d, none] S = if rowB d then .ok (.nx [T, some d, none]) S else .ok (.rt (.bl false)) S := by
      unfold t__law_are_4 t__law_are_6
      obtain ⟨k, t⟩ := hd
      cases d with
      | tup l =>
        have t := t l rfl
        match l, t with
        | [], _ => simp [bLenA, bLen, lenD, rowB]
        | [a], _ => simp [bLenA, bLen, lenD, rowB]
        | [a, b], _ => simp [bLenA, bLen, lenD, rowB]
        | [a, b, c], _ => simp [bLenA, bLen, lenD, rowB]
        | [a, b, c, e], t =>
          have ka := t a (by simp)
          have kb := t b (by simp)
          have kc := t c (by simp)
          have ke := t e (by simp)
          cases h1 : wholeB a 1 3 <;> cases h2 : wholeB b 0 59 <;> cases h3 : wholeB c 1 1000000 <;> cases h4 : wholeB e 1 1000000 <;> simp [bLenA, bLen, lenD, rowB, lwhole_b, ka, kb, kc, ke, h1, h2, h3, h4]
        | a :: b :: c :: e :: f :: l, _ =>
          have : ¬ ((l.length : Int) + 1 + 1 + 1 + 1 + 1 = 4) := by omega
          simp [bLenA, bLen, lenD, rowB, this]
      | scr l => cases k
      | obj c l => cases k
      | ref n => cases k
      | fn n => cases k
      | thk n l => cases k
      | _ => simp [rowB]
    unfold Ro.loop
    have e1 : pName 1 d [T, x1, none] = some [T, some d, none] := rfl
    rw [e1]
    dsimp only
    rw [body]
    cases z : rowB d with
    | true =>
      rw [if_pos rfl, bnd_ok]
      dsimp only
      rw [ih]
      simp [z]
    | false =>
      rw [if_neg Bool.false_ne_true, bnd_ok]
      simp [z]
theorem lare_ok {d : D} (h : RtT d) : ∃ b, m__law_are [d] S = .ok (.bl b) S ∧ (b = true ↔ RatesD d) := by
  unfold m__law_are
  rw [u_fnM, x__law_are]
  obtain ⟨k, t⟩ := h
  cases d with
  | tup l =>
    obtain ⟨hl, ht⟩ := t l rfl
    by_cases c : l.length ≤ 12
    · have hlt : ¬ (12 : Int) < l.length := by omega
      obtain ⟨x1', el⟩ := are_loop (S := S) (T := some (.tup l)) ht none
      cases a : l.all rowB with
      | false =>
        refine ⟨false, ?_, by simp; rintro ⟨rs, h1, h2⟩; cases h2; rw [rows_all h1.ok] at a; cases a⟩
        rw [a, if_neg Bool.false_ne_true] at el
        unfold t__law_are_3
        simp [bLenA, bLen, lenD, hlt, el]
      | true =>
        rw [a, if_pos rfl] at el
        obtain ⟨rs, hr, rfl⟩ := rows_of a
        have hrl : rs.length ≤ 12 := by simpa using c
        have h64 : ∀ p ∈ rs.map Rw.k, Pr64 p := fun p hp => by
          obtain ⟨r, hr', rfl⟩ := List.mem_map.mp hp
          exact (hr r hr').p64
        have l1 := lc_pure (S := S) (tg := pName 1) (c := bYes) (el := eCut (eVar 1) oNone (oSome (eC (.int 2)))) (env0 := wipeE [some (.tup (rs.map Rw.d)), x1', none] [1]) (p := fun _ => true) (g := fun d => (cutD d none (some 2)).getD .non) (xs := rs.map Rw.d) (acc := []) (by simp; omega) fun x hx => by
          obtain ⟨r, _, rfl⟩ := List.mem_map.mp hx
          refine ⟨_, rfl, rfl, fun _ => ?_⟩
          simp [wipeE, cut_row]
        rw [filter_yes, List.map_map, List.nil_append] at l1
        have e2 : (rs.map ((fun d => (cutD d none (some 2)).getD .non) ∘ Rw.d)) = (rs.map Rw.k).map pairT := by
          rw [List.map_map]
          exact List.map_congr_left fun r _ => rfl
        rw [e2] at l1
        have e3 : sortSetP (.lst ((rs.map Rw.k).map pairT)) = some (.lst ((psort (rs.map Rw.k)).map pairT)) := by
          unfold sortSetP
          simp only [dPairs_map h64]
          rw [if_pos (by simp; omega)]
        have pl : ∀ ps : List (Int × Int), plD (.lst (ps.map pairT)) = true := fun ps => by
          show (ps.map pairT).all (plN 7) = true
          rw [List.all_eq_true]
          intro x hx
          obtain ⟨p, _, rfl⟩ := List.mem_map.mp hx
          simp [pairT]
        have e4 : eqD (.lst ((rs.map Rw.k).map pairT)) (.lst ((psort (rs.map Rw.k)).map pairT)) = some (.bl (decide (rs.map Rw.k = psort (rs.map Rw.k)))) := by
          unfold eqD
          rw [if_pos (by rw [pl, pl]; rfl), pyEq_lst, eq_pairs]
        have hlt : ¬ (12 : Int) < rs.length := by omega
        refine ⟨decide (rs.map Rw.k = psort (rs.map Rw.k)), ?_, ?_⟩
        · unfold t__law_are_3 t__law_are_8 t__law_are_9
          generalize (psort (rs.map Rw.k)).map pairT = B at e3 e4
          generalize (rs.map Rw.k).map pairT = A at l1 e3 e4
          generalize decide (rs.map Rw.k = psort (rs.map Rw.k)) = q at e4
          simp [bLenA, bLen, lenD, hlt, el, l1, eSortSetP, e3, e4]
        · rw [decide_eq_true_eq, keys_asc hr]
          constructor
          · intro z
            exact ⟨rs, ⟨hrl, hr, asc_pw z⟩, rfl⟩
          · rintro ⟨rs', h1, h2⟩
            have : rs.map Rw.d = rs'.map Rw.d := by injection h2
            have inj : rs = rs' := by
              have ij : Function.Injective Rw.d := by
                rintro ⟨a, b, c, d⟩ ⟨a', b', c', d'⟩ e
                simp only [Rw.d, D.tup.injEq, List.cons.injEq, D.int.injEq, and_true] at e
                obtain ⟨rfl, rfl, rfl, rfl⟩ := e
                rfl
              exact (List.map_inj_right fun x y e => ij e).mp this
            rw [inj]
            exact pw_asc h1.asc
    · have hlt : (12 : Int) < l.length := by omega
      refine ⟨false, by simp [bLenA, bLen, lenD, hlt], by simp; rintro ⟨rs, h1, h2⟩; cases h2; have := h1.len; simp at c; omega⟩
  | scr l => cases k
  | obj c l => cases k
  | ref n => cases k
  | fn n => cases k
  | thk n l => cases k
  | _ => exact ⟨false, by simp, by simp; rintro ⟨rs, _, h⟩; cases h⟩
end Ro
end
section
set_option Elab.async false
set_option linter.all false
set_option maxRecDepth 100000
set_option maxHeartbeats 1000000
namespace Ro
open PySem
variable {S : Store}
def share (amount heads a b : Int) : Int := (2 * amount * a + b * heads) / (2 * (b * heads))
theorem rate_bd {rs : List Rw} {m t a b : Int} (hT : TbOk rs) (h : rateOf rs m t = some (a, b)) : 1 ≤ a ∧ a ≤ 1000000 ∧ 1 ≤ b ∧ b ≤ 1000000 := by
  unfold rateOf at h
  split at h
  · cases h; decide
  · cases z : (hit rs m t).getLast? with
    | none => rw [z] at h; cases h
    | some r =>
      rw [z] at h
      cases h
      have hm : r ∈ hit rs m t := List.mem_of_getLast? z
      have hr := hT.ok r (List.mem_filter.mp hm).1
      exact ⟨hr.2.2.1.1, hr.2.2.1.2, hr.2.2.2.1, hr.2.2.2.2⟩
theorem shareby_ok {rs : List Rw} {p : Sp} {a b : Int} (hT : TbOk rs) (hp : p.ok) (h : rateOf rs p.money p.day = some (a, b)) : m_share_by [p.obj, tabD rs] S = .ok (.int (share p.amount p.heads a b)) S := by
  have a1 := hp.a0; have a2 := hp.a1; have e1 := hp.h0; have e2 := hp.h1
  obtain ⟨r1, r2, r3, r4⟩ := rate_bd hT h
  have hl := hT.len
  have q := rateby_ok (S := S) (rs := rs) (by omega) h
  unfold m_share_by b_share_by
  obtain ⟨x1, x2⟩ := mulBd (x := b) (y := p.heads) (A := 1000000) (B := 6) (by omega) r4 (by omega) e2
  have hpos : 0 < b * p.heads := Int.mul_pos (by omega) (by omega)
  have e1' : mulOk b p.heads = true := mulOk_lt (n := 21) (m := 4) (by omega) (by omega) (by decide)
  have e2' : mulOk 2 p.amount = true := mulOk_lt (n := 2) (m := 21) (by decide) (by omega) (by decide)
  have e3' : mulOk (2 * p.amount) a = true := mulOk_lt (n := 22) (m := 21) (by omega) (by omega) (by decide)
  have e4' : mulOk 2 (b * p.heads) = true := mulOk_lt (n := 2) (m := 24) (by decide) (by omega) (by decide)
  have e5' : (2 * (b * p.heads)).natAbs.log2 < 9000 := by
    have : (2 * (b * p.heads)).natAbs < 2 ^ 30 := by omega
    have := (Nat.log2_lt (n := (2 * (b * p.heads)).natAbs) (k := 30) (by omega)).mpr this
    omega
  have e6' : 0 < 2 * (b * p.heads) := by omega
  simp [q, e1', e2', e3', e4', e5', e6', hpos, share]
theorem shareby_no {rs : List Rw} {p : Sp} (hT : TbOk rs) (h : rateOf rs p.money p.day = none) : m_share_by [p.obj, tabD rs] S = .err "NoRate" [.int p.money, .int p.day] S := by
  have hl := hT.len
  have q := rateby_no (S := S) (rs := rs) (by omega) h
  unfold m_share_by b_share_by
  simp [q]
/-- what is told of a share -/
def shareR (rs : List Rw) (p : Sp) (S : Store) : R D := match rateOf rs p.money p.day with
  | some (a, b) => .ok (.int (share p.amount p.heads a b)) S
  | none => .err "NoRate" [.int p.money, .int p.day] S
theorem shareby_all {rs : List Rw} {p : Sp} (hT : TbOk rs) (hp : p.ok) : m_share_by [p.obj, tabD rs] S = shareR rs p S := by
  unfold shareR
  cases z : rateOf rs p.money p.day with
  | none => exact shareby_no hT z
  | some q => obtain ⟨a, b⟩ := q; exact shareby_ok hT hp z
theorem shareof_ok {rs : List Rw} {p : Sp} (hT : TbOk rs) (hp : p.ok) : m_share_of [p.obj, tabD rs] S = shareR rs p S := by
  have e : isND (tabD rs) .non = some (.bl false) := rfl
  have q := shareby_all (S := S) hT hp
  have n := need_ok (S := S) hT
  unfold m_share_of b_share_of
  unfold shareR at q ⊢
  cases z : rateOf rs p.money p.day with
  | none => rw [z] at q; simp [e, n, q]
  | some o => rw [z] at q; simp [e, n, q]
theorem shareof_no {p : Sp} {d : D} (h : RtT d) (hd : d ≠ .non) (hn : ¬ RatesD d) : m_share_of [p.obj, d] S = .err "NoRates" [] S := by
  have e : isND d .non = some (.bl false) := by
    unfold isND
    cases d <;> first | rfl | exact absurd rfl hd
  have n := need_no (S := S) h hn
  unfold m_share_of b_share_of
  simp [e, n]
def rateR (rs : List Rw) (m t : Int) (S : Store) : R D := match rateOf rs m t with
  | some (a, b) => .ok (.tup [.int a, .int b]) S
  | none => .err "NoRate" [.int m, .int t] S
theorem rateon_ok {rs : List Rw} {m t : Int} (hT : TbOk rs) : m_rate_on [tabD rs, .int m, .int t] S = rateR rs m t S := by
  have hl := hT.len
  have n := need_ok (S := S) hT
  unfold m_rate_on b_rate_on rateR
  cases z : rateOf rs m t with
  | none => simp [n, rateby_no (S := S) (rs := rs) (by omega) z]
  | some o => obtain ⟨a, b⟩ := o; simp [n, rateby_ok (S := S) (rs := rs) (by omega) z]
theorem rateon_no {d : D} {m t : Int} (h : RtT d) (hn : ¬ RatesD d) : m_rate_on [d, .int m, .int t] S = .err "NoRates" [] S := by
  have n := need_no (S := S) h hn
  unfold m_rate_on b_rate_on
  simp [n]
end Ro
end
section
set_option Elab.async false
set_option linter.all false
set_option maxRecDepth 100000
set_option maxHeartbeats 1000000
namespace Ro
open PySem
variable {S : Store} {env : Env}
/-- what odd things are: a small plain part, or one that holds a dict -/
structure Odd (d : D) : Prop where
  k : okD d = true
  t : ∀ l, d = .tup l → ∀ x ∈ l, okD x = true
  s : SmA d ∨ SmQ d
  w : Shw d
  n : ∀ l, d = .tup l → l.length ≤ 1
  r : ∀ l, d = .tup l → ∀ x ∈ l, ∀ m, x ≠ .tup m
theorem lodd_ok {b : Nat} (hB : Bx S b) : W (m__law_odd [.ref b] S) fun d S' => Odd d ∧ Bs S b S' := by
  unfold m__law_odd
  rw [x__law_odd]
  simp
  unfold t__law_odd_2
  have e0 : addD (.lst [.non, .bl true, .bl false, .int 0, .int (-1), .int 7, .int 60, .int 1000001, .int 100000000000000000000000000000, .str "", .str "meal", .str "Meal", .str "let", .tup [], .lst [], .dct [], .tup [.int 0], .lst [.int 0]]) (.lst [.tup [.str "meal"], dctC [(.inl 0, .int 1)]])
    = some (.lst [.non, .bl true, .bl false, .int 0, .int (-1), .int 7, .int 60, .int 1000001, .int 100000000000000000000000000000, .str "", .str "meal", .str "Meal", .str "let", .tup [], .lst [], .dct [], .tup [.int 0], .lst [.int 0], .tup [.str "meal"], dctC [(.inl 0, .int 1)]]) := rfl
  simp [e0]
  refine (take_ok (n := 20) hB (by decide)).mono ?_
  rintro _ S1 ⟨⟨i1, rfl, a1, b1⟩, s1⟩
  have at_ : ∀ {d : D}, (∀ l, d ≠ .tup l) → okD d = true → SmA d → Shw d → Odd d := fun hn hk hs hw => ⟨hk, fun l e => absurd e (hn l), .inl hs, hw, fun l e => absurd e (hn l), fun l e => absurd e (hn l)⟩
  have aint : ∀ i : Int, i.natAbs < 10 ^ 100 → Odd (.int i) := fun i hi => at_ (by intro l e; cases e) rfl (smA_int hi) (shw_ok (by
    have := smA_int hi
    have h := int_sm hi
    unfold reprOk
    have e1 : plD (.int i) = true := rfl
    have e2 : (toPy (.int i)).showable = true := h.1
    have e3 : (toPy (.int i)).shown.length ≤ LINE := Nat.le_trans h.2 (by decide)
    simp only [e1, e2, e3, decide_true, Bool.and_self]))
  have astr : ∀ z : Str, z.length ≤ 100 → (PyData.shown (.str z)).length ≤ 1000 → Odd (.str z) := fun z hz hl => at_ (by intro l e; cases e) (okD_str (by omega)) ⟨rfl, rfl, hl⟩ (shw_ok (by
    unfold reprOk
    have e1 : plD (.str z) = true := rfl
    have e2 : (toPy (.str z)).showable = true := rfl
    have e3 : (toPy (.str z)).shown.length ≤ LINE := Nat.le_trans hl (by decide)
    simp only [e1, e2, e3, decide_true, Bool.and_self]))
  have ex : ∃ d, atP [.non, .bl true, .bl false, .int 0, .int (-1), .int 7, .int 60, .int 1000001, .int 100000000000000000000000000000, .str "", .str "meal", .str "Meal", .str "let", .tup [], .lst [], .dct [], .tup [.int 0], .lst [.int 0], .tup [.str "meal"], dctC [(.inl 0, .int 1)]] i1 = some d ∧ Odd d := by
    refine pick_ok a1 (by simpa using b1) ?_
    intro d hd
    simp only [List.mem_cons, List.not_mem_nil, or_false] at hd
    rcases hd with rfl | rfl | rfl | rfl | rfl | rfl | rfl | rfl | rfl | rfl | rfl | rfl | rfl | rfl | rfl | rfl | rfl | rfl | rfl | rfl
    · exact at_ (by intro l e; cases e) rfl ⟨rfl, rfl, by decide +kernel⟩ (shw_ok (by decide +kernel))
    · exact at_ (by intro l e; cases e) rfl (smA_bl _) (shw_ok (by decide +kernel))
    · exact at_ (by intro l e; cases e) rfl (smA_bl _) (shw_ok (by decide +kernel))
    · exact aint _ (by decide)
    · exact aint _ (by decide)
    · exact aint _ (by decide)
    · exact aint _ (by decide)
    · exact aint _ (by decide)
    · exact aint _ (by decide)
    · exact astr _ (by decide) (by decide +kernel)
    · exact astr _ (by decide) (by decide +kernel)
    · exact astr _ (by decide) (by decide +kernel)
    · exact astr _ (by decide) (by decide +kernel)
    · exact ⟨rfl, fun l e => (by cases e; simp), .inl ⟨rfl, rfl, by decide +kernel⟩, shw_ok (by decide +kernel), fun l e => (by cases e; simp), fun l e => (by cases e; simp)⟩
    · exact at_ (by intro l e; cases e) rfl ⟨rfl, rfl, by decide +kernel⟩ (shw_ok (by decide +kernel))
    · exact ⟨rfl, fun l e => (by cases e), .inr ⟨rfl, rfl, by decide +kernel, by decide +kernel⟩, shw_okX (by decide +kernel), fun l e => (by cases e), fun l e => (by cases e)⟩
    · exact ⟨rfl, fun l e => (by cases e; simp [okD]), .inl ⟨rfl, rfl, by decide +kernel⟩, shw_ok (by decide +kernel), fun l e => (by cases e; simp), fun l e => (by cases e; simp)⟩
    · exact at_ (by intro l e; cases e) rfl ⟨rfl, rfl, by decide +kernel⟩ (shw_ok (by decide +kernel))
    · exact ⟨rfl, fun l e => (by cases e; simp [okD]; decide), .inl ⟨rfl, rfl, by decide +kernel⟩, shw_ok (by decide +kernel), fun l e => (by cases e; simp), fun l e => (by cases e; simp)⟩
    · exact ⟨rfl, fun l e => (by cases e), .inr ⟨rfl, rfl, by decide +kernel, by decide +kernel⟩, shw_okX (by decide +kernel), fun l e => (by cases e), fun l e => (by cases e)⟩
  obtain ⟨d, hd, ho⟩ := ex
  simp [hd]
  exact ⟨ho, s1⟩
theorem Odd.rt {d : D} (h : Odd d) : RtT d := ⟨h.k, fun l e => ⟨by have := h.n l e; omega, fun x hx => ⟨h.t l e x hx, fun m e2 => absurd e2 (h.r l e x hx m)⟩⟩⟩
end Ro
end
section
set_option Elab.async false
set_option linter.all false
set_option maxRecDepth 100000
set_option maxHeartbeats 1000000
namespace Ro
open PySem
variable {S : Store} {env : Env}
structure RowS (d : D) : Prop where
  t : RowT d
  s : SmA d
structure Th (d : D) : Prop where
  r : RtT d
  w : Shw d
theorem tup40 {l : List D} (hl : l.length ≤ 100) (h : ∀ x ∈ l, SmA x) : reprOk (.tup l) = true := by
  obtain ⟨h1, h2, h3, h4⟩ := pyAll_sh h
  have hp : plD (.tup l) = true := by
    show l.all (plN 7) = true
    rw [List.all_eq_true] at h4 ⊢
    exact fun x hx => pl_mono (by decide) (h4 x hx)
  have hs : (toPy (.tup l)).showable = true := h1
  have hn : (toPy (.tup l)).shown.length ≤ LINE := by
    have := tupText_len h2
    rw [h3] at this
    show (tupleText (PyData.shownAll (toPys l))).length ≤ LINE
    have : l.length * (1000 + 2) ≤ 100 * 1002 := Nat.mul_le_mul_right _ hl
    simp
    omega
  unfold reprOk
  simp only [hp, hs, hn, decide_true, Bool.and_self]
theorem lst40 {l : List D} (hl : l.length ≤ 100) (h : ∀ x ∈ l, SmA x) : reprOk (.lst l) = true := by
  obtain ⟨h1, h2, h3, h4⟩ := pyAll_sh h
  have hp : plD (.lst l) = true := by
    show l.all (plN 7) = true
    rw [List.all_eq_true] at h4 ⊢
    exact fun x hx => pl_mono (by decide) (h4 x hx)
  have hs : (toPy (.lst l)).showable = true := h1
  have hn : (toPy (.lst l)).shown.length ≤ LINE := by
    have := lstText_len h2
    rw [h3] at this
    show (listText (PyData.shownAll (toPys l))).length ≤ LINE
    have : l.length * (1000 + 2) ≤ 100 * 1002 := Nat.mul_le_mul_right _ hl
    simp
    omega
  unfold reprOk
  simp only [hp, hs, hn, decide_true, Bool.and_self]
theorem th_tup {l : List D} (hl : l.length ≤ 100) (h : ∀ x ∈ l, RowS x) : Th (.tup l) :=
  ⟨⟨rfl, fun m e => by cases e; exact ⟨hl, fun x hx => (h x hx).t⟩⟩, shw_ok (tup40 hl fun x hx => (h x hx).s)⟩
theorem th_lst {l : List D} (hl : l.length ≤ 100) (h : ∀ x ∈ l, RowS x) : Th (.lst l) :=
  ⟨⟨rfl, fun m e => by cases e⟩, shw_ok (lst40 hl fun x hx => (h x hx).s)⟩
theorem ints_sm {l : List D} (hl : l.length ≤ 5) (h : ∀ x ∈ l, ∃ i : Int, x = .int i ∧ i.natAbs < 10 ^ 100) : SmA (.tup l) := by
  have key : ∀ m : List D, (∀ x ∈ m, ∃ i : Int, x = .int i ∧ i.natAbs < 10 ^ 100) → PyData.showableAll (toPys m) = true ∧ (∀ t ∈ PyData.shownAll (toPys m), t.length ≤ 101) ∧ (PyData.shownAll (toPys m)).length = m.length ∧ m.all (plN 2) = true := by
    intro m
    induction m with
    | nil => intro _; exact ⟨rfl, by simp [toPys, PyData.shownAll], rfl, rfl⟩
    | cons x m ih =>
      intro hm
      obtain ⟨h1, h2, h3, h4⟩ := ih fun y hy => hm y (by simp [hy])
      obtain ⟨i, rfl, hi⟩ := hm x (by simp)
      obtain ⟨q1, q2⟩ := int_sm hi
      refine ⟨by simp [toPys, PyData.showableAll, h1]; exact q1, ?_, by simp [toPys, PyData.shownAll, h3], by simpa using h4⟩
      intro t ht
      simp only [toPys, PyData.shownAll, List.mem_cons] at ht
      rcases ht with rfl | ht
      · exact q2
      · exact h2 t ht
  obtain ⟨h1, h2, h3, h4⟩ := key l h
  refine ⟨h4, h1, ?_⟩
  have := tupText_len h2
  rw [h3] at this
  show (tupleText (PyData.shownAll (toPys l))).length ≤ 1000
  have : l.length * (101 + 2) ≤ 5 * 103 := Nat.mul_le_mul_right _ hl
  omega
theorem rowS_ints {l : List D} (hl : l.length ≤ 5) (h : ∀ x ∈ l, ∃ i : Int, x = .int i ∧ i.natAbs < 10 ^ 100) : RowS (.tup l) :=
  ⟨⟨rfl, fun m e x hx => by cases e; obtain ⟨i, rfl, _⟩ := h x hx; rfl⟩, ints_sm hl h⟩
theorem Rw.ok.s {r : Rw} (h : r.ok) : RowS r.d := by
  obtain ⟨⟨a1, a2⟩, ⟨b1, b2⟩, ⟨c1, c2⟩, e1, e2⟩ := h
  have big : (10 : Nat) ^ 100 > 10000000 := by decide
  refine rowS_ints (by simp) fun x hx => ?_
  simp only [List.mem_cons, List.not_mem_nil, or_false] at hx
  rcases hx with rfl | rfl | rfl | rfl
  · exact ⟨_, rfl, by omega⟩
  · exact ⟨_, rfl, by omega⟩
  · exact ⟨_, rfl, by omega⟩
  · exact ⟨_, rfl, by omega⟩
theorem rows_S {rs : List Rw} (h : ∀ r ∈ rs, r.ok) : ∀ x ∈ rs.map Rw.d, RowS x := fun x hx => by
  obtain ⟨r, hr, rfl⟩ := List.mem_map.mp hx
  exact (h r hr).s
theorem TbOk.th {rs : List Rw} (h : TbOk rs) : Th (tabD rs) := th_tup (by have := h.len; simp; omega) (rows_S h.ok)
theorem Odd.th {d : D} (h : Odd d) : Th d := ⟨h.rt, h.w⟩
theorem rowS_tup {l : List D} (hk : ∀ x ∈ l, okD x = true) (hs : SmA (.tup l)) : RowS (.tup l) := ⟨⟨rfl, fun m e => by cases e; exact hk⟩, hs⟩
theorem cutL_mem {l : List D} {lo hi : Option Int} : ∀ x ∈ cutL l lo hi, x ∈ l := fun x hx => List.mem_of_mem_drop (List.mem_of_mem_take hx)
theorem cutL_len {l : List D} {lo hi : Option Int} : (cutL l lo hi).length ≤ l.length := by
  unfold cutL
  rw [List.length_take, List.length_drop]
  omega
theorem add_tup {l m : List D} (h : l.length + m.length ≤ 1000) : addD (.tup l) (.tup m) = some (.tup (l ++ m)) := by
  show (if _ then _ else _) = _
  rw [if_pos (by simp; omega)]
theorem mem3 {a b c : List D} {P : D → Prop} (h1 : ∀ x ∈ a, P x) (h2 : ∀ x ∈ b, P x) (h3 : ∀ x ∈ c, P x) : ∀ x ∈ a ++ b ++ c, P x := by
  intro x hx
  simp only [List.mem_append] at hx
  rcases hx with (h | h) | h
  · exact h1 x h
  · exact h2 x h
  · exact h3 x h
theorem bent_ok {b : Nat} {rs : List Rw} (hB : Bx S b) (h : TbOk rs) : W (m__law_bent [.ref b, tabD rs] S) fun d S' => Th d ∧ Bs S b S' := by
  have hl := h.len
  unfold m__law_bent
  rw [u_fnM, x__law_bent]
  simp [tabD, bLenA, bLen, lenD]
  refine (take_ok (n := rs.length + 1) hB (by omega)).mono ?_
  rintro _ S1 ⟨⟨i1, rfl, a1, b1⟩, s1⟩
  have B1 := s1.bx hB.lt
  try simp
  refine (take_ok (n := 9) B1 (by decide)).mono ?_
  rintro _ S2 ⟨⟨i2, rfl, a2, b2⟩, s2⟩
  have B2 := s2.bx B1.lt
  try simp
  unfold t__law_bent_2 t__law_bent_3
  have e0 : addD (.lst [.tup [.int 0, .int 5, .int 1, .int 1], .tup [.int 4, .int 5, .int 1, .int 1], .tup [.int 1, .int 60, .int 1, .int 1], .tup [.int 1, .int 5, .int 0, .int 1], .tup [.int 1, .int 5, .int 1, .int 0], .tup [.int 1, .bl true, .int 1, .int 1]])
      (.lst [.tup [.int 1, .int 5, .int 1], .lst [.int 1, .int 5, .int 1, .int 1], .tup [.int 1, .int 5, .int 1000001, .int 1], .non, .tup [.int 3, .int 59, .int 7, .int 3]])
    = some (.lst [.tup [.int 0, .int 5, .int 1, .int 1], .tup [.int 4, .int 5, .int 1, .int 1], .tup [.int 1, .int 60, .int 1, .int 1], .tup [.int 1, .int 5, .int 0, .int 1], .tup [.int 1, .int 5, .int 1, .int 0], .tup [.int 1, .bl true, .int 1, .int 1], .tup [.int 1, .int 5, .int 1], .lst [.int 1, .int 5, .int 1, .int 1], .tup [.int 1, .int 5, .int 1000001, .int 1], .non, .tup [.int 3, .int 59, .int 7, .int 3]]) := rfl
  simp [e0]
  refine (take_ok (n := 11) B2 (by decide)).mono ?_
  rintro _ S3 ⟨⟨i3, rfl, a3, b3⟩, s3⟩
  have B3 := s3.bx B2.lt
  have s123 := (s1.trans s2).trans s3
  have big : (10 : Nat) ^ 100 > 10000000 := by decide
  obtain ⟨row, erow, hrow⟩ : ∃ d, atP [.tup [.int 0, .int 5, .int 1, .int 1], .tup [.int 4, .int 5, .int 1, .int 1], .tup [.int 1, .int 60, .int 1, .int 1], .tup [.int 1, .int 5, .int 0, .int 1], .tup [.int 1, .int 5, .int 1, .int 0], .tup [.int 1, .bl true, .int 1, .int 1], .tup [.int 1, .int 5, .int 1], .lst [.int 1, .int 5, .int 1, .int 1], .tup [.int 1, .int 5, .int 1000001, .int 1], .non, .tup [.int 3, .int 59, .int 7, .int 3]] i3 = some d ∧ RowS d := by
    refine pick_ok a3 (by simpa using b3) ?_
    intro d hd
    simp only [List.mem_cons, List.not_mem_nil, or_false] at hd
    rcases hd with rfl | rfl | rfl | rfl | rfl | rfl | rfl | rfl | rfl | rfl | rfl
    · exact rowS_tup (by simp [okD]) ⟨rfl, rfl, by decide +kernel⟩
    · exact rowS_tup (by simp [okD]) ⟨rfl, rfl, by decide +kernel⟩
    · exact rowS_tup (by simp [okD]) ⟨rfl, rfl, by decide +kernel⟩
    · exact rowS_tup (by simp [okD]) ⟨rfl, rfl, by decide +kernel⟩
    · exact rowS_tup (by simp [okD]) ⟨rfl, rfl, by decide +kernel⟩
    · exact rowS_tup (by simp [okD]) ⟨rfl, rfl, by decide +kernel⟩
    · exact rowS_tup (by simp [okD]) ⟨rfl, rfl, by decide +kernel⟩
    · exact ⟨⟨rfl, fun l e => by cases e⟩, ⟨rfl, rfl, by decide +kernel⟩⟩
    · exact rowS_tup (by simp [okD]) ⟨rfl, rfl, by decide +kernel⟩
    · exact ⟨⟨rfl, fun l e => by cases e⟩, ⟨rfl, rfl, by decide +kernel⟩⟩
    · exact rowS_tup (by simp [okD]) ⟨rfl, rfl, by decide +kernel⟩
  simp [erow]
  have hT := rows_S h.ok
  have hTl : (rs.map Rw.d).length ≤ 12 := by simpa using hl
  have c1 : (cutL (rs.map Rw.d) none (some i1)).length ≤ 12 := Nat.le_trans cutL_len hTl
  have c2 : (cutL (rs.map Rw.d) (some i1) none).length ≤ 12 := Nat.le_trans cutL_len hTl
  have c3 : (cutL (rs.map Rw.d) (some (-1)) none).length ≤ 12 := Nat.le_trans cutL_len hTl
  have c4 : (cutL (rs.map Rw.d) none (some 1)).length ≤ 12 := Nat.le_trans cutL_len hTl
  have m1 : ∀ x ∈ cutL (rs.map Rw.d) none (some i1), RowS x := fun x hx => hT x (cutL_mem x hx)
  have m2 : ∀ x ∈ cutL (rs.map Rw.d) (some i1) none, RowS x := fun x hx => hT x (cutL_mem x hx)
  have m3 : ∀ x ∈ cutL (rs.map Rw.d) (some (-1)) none, RowS x := fun x hx => hT x (cutL_mem x hx)
  unfold t__law_bent_4
  by_cases w1 : i2 < 4
  · simp [ltA, w1, cutD, add_tup (l := cutL (rs.map Rw.d) none (some i1)) (m := [row]) (by simp; omega), add_tup (l := cutL (rs.map Rw.d) none (some i1) ++ [row]) (m := cutL (rs.map Rw.d) (some i1) none) (by simp; omega)]
    refine ⟨?_, s123⟩
    have := th_tup (l := cutL (rs.map Rw.d) none (some i1) ++ [row] ++ cutL (rs.map Rw.d) (some i1) none) (by simp; omega) (mem3 m1 (by simpa using hrow) m2)
    simpa using this
  · simp [ltA, w1]
    unfold t__law_bent_6
    by_cases w2 : i2 = 4
    · simp [w2, revT]
      refine ⟨?_, s123⟩
      have := th_tup (l := (rs.map Rw.d).reverse) (by simp; omega) fun x hx => hT x (by simpa using hx)
      simpa using this
    · simp [w2]
      unfold t__law_bent_8
      by_cases w3 : i2 = 5
      · simp [w3, cutD, add_tup (l := rs.map Rw.d) (m := cutL (rs.map Rw.d) (some (-1)) none) (by omega)]
        refine ⟨?_, s123⟩
        refine th_tup (by rw [List.length_append]; omega) fun x hx => ?_
        rcases List.mem_append.mp hx with hx | hx
        · exact hT x hx
        · exact m3 x hx
      · simp [w3]
        unfold t__law_bent_10
        by_cases w4 : i2 = 6
        · have key : ∀ x5 : Option D, ∃ L : List D, lcLoop (pName 5) bYes (eOp addD (eCut (eVar 5) oNone (oSome (eC (.int 2)))) (eTup (aCons (eOp addD (eOp modD (eIdxB (eVar 5) (eC (.int 2))) (eOp powD (eC (.int 10)) (eC (.int 6)))) (eC (.int 1))) (aCons (eIdxB (eVar 5) (eC (.int 3))) aNil)))) (wipeE [some (.ref b), some (.tup (rs.map Rw.d)), some row, some (.int i1), some (.int i2), x5] [5]) (cutL (rs.map Rw.d) none (some 1)) [] S3 = .ok L S3 ∧ L.length ≤ 12 ∧ ∀ x ∈ L, RowS x := by
            intro x5
            obtain ⟨L, hL⟩ : ∃ L, cutL (rs.map Rw.d) none (some 1) = L := ⟨_, rfl⟩
            rw [hL] at c4 ⊢
            have hm : ∀ x ∈ L, ∃ r : Rw, r.ok ∧ x = r.d := fun x hx => by
              rw [← hL] at hx
              obtain ⟨r, hr, rfl⟩ := List.mem_map.mp (cutL_mem x hx)
              exact ⟨r, h.ok r hr, rfl⟩
            have hg : ∀ r : Rw, addD (.tup [.int r.mon, .int r.day]) (.tup [.int (r.top % 1000000 + 1), .int r.bot]) = some (.tup [.int r.mon, .int r.day, .int (r.top % 1000000 + 1), .int r.bot]) := fun r => rfl
            have := lc_pure (S := S3) (tg := pName 5) (c := bYes) (el := eOp addD (eCut (eVar 5) oNone (oSome (eC (.int 2)))) (eTup (aCons (eOp addD (eOp modD (eIdxB (eVar 5) (eC (.int 2))) (eOp powD (eC (.int 10)) (eC (.int 6)))) (eC (.int 1))) (aCons (eIdxB (eVar 5) (eC (.int 3))) aNil)))) (env0 := wipeE [some (.ref b), some (.tup (rs.map Rw.d)), some row, some (.int i1), some (.int i2), x5] [5]) (p := fun _ => true) (g := fun d => match d with | .tup [.int m, .int t, .int a, .int c] => .tup [.int m, .int t, .int (a % 1000000 + 1), .int c] | d => d) (xs := L) (acc := []) (by simp; omega) fun x hx => by
              obtain ⟨r, hr, rfl⟩ := hm x hx
              refine ⟨_, rfl, rfl, fun _ => ?_⟩
              have i2 : ∀ S : Store, idxB r.d (.int 2) S = some (.int r.top) := fun _ => rfl
              have i3 : ∀ S : Store, idxB r.d (.int 3) S = some (.int r.bot) := fun _ => rfl
              have pw : Int.natAbs 1000000 = 1000000 := rfl
              simp [-idx_tup, wipeE, cut_row, i2, i3, hg]
              simp [Rw.d]
            rw [filter_yes, List.nil_append] at this
            refine ⟨_, this, by simpa using c4, fun x hx => ?_⟩
            obtain ⟨y, hy, rfl⟩ := List.mem_map.mp hx
            obtain ⟨r, hr, rfl⟩ := hm y hy
            obtain ⟨⟨a1, a2⟩, ⟨b1, b2⟩, ⟨c1, c2⟩, e1, e2⟩ := hr
            refine rowS_ints (by simp) fun x hx => ?_
            simp only [List.mem_cons, List.not_mem_nil, or_false] at hx
            rcases hx with rfl | rfl | rfl | rfl
            · exact ⟨_, rfl, by omega⟩
            · exact ⟨_, rfl, by omega⟩
            · exact ⟨_, rfl, by omega⟩
            · exact ⟨_, rfl, by omega⟩
          obtain ⟨L, e1, e2, e3⟩ := key none
          subst w4
          simp [cutD, e1, bTuple, add_tup (l := cutL (rs.map Rw.d) none (some i1)) (m := L) (by omega), add_tup (l := cutL (rs.map Rw.d) none (some i1) ++ L) (m := cutL (rs.map Rw.d) (some i1) none) (by simp; omega)]
          refine ⟨?_, s123⟩
          have := th_tup (l := cutL (rs.map Rw.d) none (some i1) ++ L ++ cutL (rs.map Rw.d) (some i1) none) (by simp; omega) (mem3 m1 e3 m2)
          simpa using this
        · simp [w4]
          unfold t__law_bent_12
          by_cases w5 : i2 = 7
          · simp [w5, bList]
            exact ⟨th_lst (by simp; omega) hT, s123⟩
          · simp [w5]
            refine (lodd_ok B3).mono ?_
            rintro d S4 ⟨ho, s4⟩
            exact ⟨ho.th, s123.trans s4⟩
end Ro
end
section
set_option Elab.async false
set_option linter.all false
set_option maxRecDepth 100000
set_option maxHeartbeats 1000000
namespace Ro
open PySem
variable {S : Store} {env : Env}
theorem eq_tups {l : List D} (h : l.all (plN 7) = true) (he : pyEqs l l = true) : eqD (.tup l) (.tup l) = some (.bl true) ∧ neD (.tup l) (.tup l) = some (.bl false) := by
  have h1 : plD (.tup l) = true := h
  unfold eqD neD
  rw [h1, pyEq_tup, he]
  exact ⟨rfl, rfl⟩
theorem right_ok {rs : List Rw} {m t : Int} (h : TbOk rs) : m__law_right [tabD rs, .int m, .int t] S = .ok (.bl true) S := by
  have lr := fun S => lawrate_ok (S := S) (rs := rs) (m := m) (t := t)
  have rr := fun S => rateon_ok (S := S) (rs := rs) (m := m) (t := t) h
  unfold m__law_right
  rw [u_fnM, x__law_right]
  unfold rateR at rr
  cases z : rateOf rs m t with
  | none =>
    rw [z] at rr lr
    have sd : ∀ x3 S, eSaid "told" (refL cnsL) (eFn (callM m_rate_on 3 0 3 [(0, 0), (0, 1), (0, 2)] []) (aCons (eVar 0) (aCons (eVar 1) (aCons (eVar 2) aNil))) aNil) [some (tabD rs), some (.int m), some (.int t), x3] S = .ok (.tup [.str "rate", .int m, .int t]) S := fun x3 S => by
      have e : (eFn (callM m_rate_on 3 0 3 [(0, 0), (0, 1), (0, 2)] []) (aCons (eVar 0) (aCons (eVar 1) (aCons (eVar 2) aNil))) aNil) [some (tabD rs), some (.int m), some (.int t), x3] S = .err "NoRate" [.int m, .int t] S := by simp [rr]
      unfold eSaid
      rw [e]
      rfl
    have sk : ∀ x3 S, eSaid "told" (refL cnsL) (eFn (callM m_rate_on 0 3 3 [(2, 0), (2, 2), (2, 1)] []) aNil (aCons (eVar 0) (aCons (eVar 2) (aCons (eVar 1) aNil)))) [some (tabD rs), some (.int m), some (.int t), x3] S = .ok (.tup [.str "rate", .int m, .int t]) S := fun x3 S => by
      have e : (eFn (callM m_rate_on 0 3 3 [(2, 0), (2, 2), (2, 1)] []) aNil (aCons (eVar 0) (aCons (eVar 2) (aCons (eVar 1) aNil)))) [some (tabD rs), some (.int m), some (.int t), x3] S = .err "NoRate" [.int m, .int t] S := by simp [rr]
      unfold eSaid
      rw [e]
      rfl
    obtain ⟨e1, e2⟩ := eq_tups (l := [.str "rate", .int m, .int t]) rfl (by simp)
    have i1 : isND .non .non = some (.bl true) := rfl
    simp [lr, rateD]
    unfold t__law_right_2 t__law_right_3 t__law_right_5
    simp [i1, sd, sk, e1, e2]
  | some o =>
    obtain ⟨a, b⟩ := o
    rw [z] at rr lr
    have sd : ∀ x3 S, eSaid "told" (refL cnsL) (eFn (callM m_rate_on 3 0 3 [(0, 0), (0, 1), (0, 2)] []) (aCons (eVar 0) (aCons (eVar 1) (aCons (eVar 2) aNil))) aNil) [some (tabD rs), some (.int m), some (.int t), x3] S = .ok (.tup [.str "told", .tup [.int a, .int b]]) S := fun x3 S => by
      have e : (eFn (callM m_rate_on 3 0 3 [(0, 0), (0, 1), (0, 2)] []) (aCons (eVar 0) (aCons (eVar 1) (aCons (eVar 2) aNil))) aNil) [some (tabD rs), some (.int m), some (.int t), x3] S = .ok (.tup [.int a, .int b]) S := by simp [rr]
      unfold eSaid
      rw [e]
    have sk : ∀ x3 S, eSaid "told" (refL cnsL) (eFn (callM m_rate_on 0 3 3 [(2, 0), (2, 2), (2, 1)] []) aNil (aCons (eVar 0) (aCons (eVar 2) (aCons (eVar 1) aNil)))) [some (tabD rs), some (.int m), some (.int t), x3] S = .ok (.tup [.str "told", .tup [.int a, .int b]]) S := fun x3 S => by
      have e : (eFn (callM m_rate_on 0 3 3 [(2, 0), (2, 2), (2, 1)] []) aNil (aCons (eVar 0) (aCons (eVar 2) (aCons (eVar 1) aNil)))) [some (tabD rs), some (.int m), some (.int t), x3] S = .ok (.tup [.int a, .int b]) S := by simp [rr]
      unfold eSaid
      rw [e]
    obtain ⟨e1, e2⟩ := eq_tups (l := [.str "told", .tup [.int a, .int b]]) rfl (by simp)
    have i1 : isND (.tup [.int a, .int b]) .non = some (.bl false) := rfl
    simp [lr, rateD]
    unfold t__law_right_2 t__law_right_3 t__law_right_5
    simp [i1, sd, sk, e1, e2]
theorem oddrates_ok : ∃ L : List D, m__law_odd_rates [] S = .ok (.lst L) S ∧ L.length ≤ 50 ∧ ∀ x ∈ L, Th x := by
  unfold m__law_odd_rates
  rw [u_fnM, x__law_odd_rates]
  have sing : ∀ d : D, RowS d → Th (.tup [d]) := fun d h => th_tup (by simp) (by simpa using h)
  have key : ∀ L : List D, (∀ x ∈ L, RowS x) → L.length ≤ 50 → ∀ x0 x1, lcLoop (pName 1) bYes (eTup (aCons (eVar 1) aNil)) (wipeE [x0, x1] [1]) L [] S = .ok (L.map fun d => .tup [d]) S := fun L h hl x0 x1 => by
    have := lc_pure (S := S) (tg := pName 1) (c := bYes) (el := eTup (aCons (eVar 1) aNil)) (env0 := wipeE [x0, x1] [1]) (p := fun _ => true) (g := fun d => .tup [d]) (xs := L) (acc := []) (by simp; omega) fun x hx => by
      refine ⟨_, rfl, rfl, fun _ => ?_⟩
      simp [wipeE]
    rw [filter_yes, List.nil_append] at this
    exact this
  have a1 : addD (.lst [.tup [.bl true, .int 5, .int 1, .int 1], .tup [.int 1, .bl false, .int 1, .int 1], .tup [.int 1, .int 5, .bl true, .int 1], .tup [.int 1, .int 5, .int 1, .bl true], .tup [.int (-1), .int 5, .int 1, .int 1], .tup [.int 1, .int (-1), .int 1, .int 1]])
      (.lst [.tup [.int 1, .int 5, .int (-1), .int 1], .tup [.int 1, .int 5, .int 1, .int (-1)], .tup [.int 1, .int 5, .int 1, .int 1000001], .tup [.non, .int 5, .int 1, .int 1], .tup [.int 1, .non, .int 1, .int 1]])
    = some (.lst [.tup [.bl true, .int 5, .int 1, .int 1], .tup [.int 1, .bl false, .int 1, .int 1], .tup [.int 1, .int 5, .bl true, .int 1], .tup [.int 1, .int 5, .int 1, .bl true], .tup [.int (-1), .int 5, .int 1, .int 1], .tup [.int 1, .int (-1), .int 1, .int 1],
      .tup [.int 1, .int 5, .int (-1), .int 1], .tup [.int 1, .int 5, .int 1, .int (-1)], .tup [.int 1, .int 5, .int 1, .int 1000001], .tup [.non, .int 5, .int 1, .int 1], .tup [.int 1, .non, .int 1, .int 1]]) := rfl
  have a2 : addD (.lst [.tup [.bl true, .int 5, .int 1, .int 1], .tup [.int 1, .bl false, .int 1, .int 1], .tup [.int 1, .int 5, .bl true, .int 1], .tup [.int 1, .int 5, .int 1, .bl true], .tup [.int (-1), .int 5, .int 1, .int 1], .tup [.int 1, .int (-1), .int 1, .int 1],
      .tup [.int 1, .int 5, .int (-1), .int 1], .tup [.int 1, .int 5, .int 1, .int (-1)], .tup [.int 1, .int 5, .int 1, .int 1000001], .tup [.non, .int 5, .int 1, .int 1], .tup [.int 1, .non, .int 1, .int 1]])
      (.lst [.tup [.int 1, .int 5, .non, .int 1], .tup [.int 1, .int 5, .int 1, .non], .tup [.int 1, .str "5", .int 1, .int 1], .tup [.lst [.int 1], .int 5, .int 1, .int 1], .tup [.int 1, .lst [.int 5], .int 1, .int 1], .tup []])
    = some (.lst [.tup [.bl true, .int 5, .int 1, .int 1], .tup [.int 1, .bl false, .int 1, .int 1], .tup [.int 1, .int 5, .bl true, .int 1], .tup [.int 1, .int 5, .int 1, .bl true], .tup [.int (-1), .int 5, .int 1, .int 1], .tup [.int 1, .int (-1), .int 1, .int 1],
      .tup [.int 1, .int 5, .int (-1), .int 1], .tup [.int 1, .int 5, .int 1, .int (-1)], .tup [.int 1, .int 5, .int 1, .int 1000001], .tup [.non, .int 5, .int 1, .int 1], .tup [.int 1, .non, .int 1, .int 1],
      .tup [.int 1, .int 5, .non, .int 1], .tup [.int 1, .int 5, .int 1, .non], .tup [.int 1, .str "5", .int 1, .int 1], .tup [.lst [.int 1], .int 5, .int 1, .int 1], .tup [.int 1, .lst [.int 5], .int 1, .int 1], .tup []]) := rfl
  have hrow : ∀ x ∈ [D.tup [.bl true, .int 5, .int 1, .int 1], .tup [.int 1, .bl false, .int 1, .int 1], .tup [.int 1, .int 5, .bl true, .int 1], .tup [.int 1, .int 5, .int 1, .bl true], .tup [.int (-1), .int 5, .int 1, .int 1], .tup [.int 1, .int (-1), .int 1, .int 1],
      .tup [.int 1, .int 5, .int (-1), .int 1], .tup [.int 1, .int 5, .int 1, .int (-1)], .tup [.int 1, .int 5, .int 1, .int 1000001], .tup [.non, .int 5, .int 1, .int 1], .tup [.int 1, .non, .int 1, .int 1],
      .tup [.int 1, .int 5, .non, .int 1], .tup [.int 1, .int 5, .int 1, .non], .tup [.int 1, .str "5", .int 1, .int 1], .tup [.lst [.int 1], .int 5, .int 1, .int 1], .tup [.int 1, .lst [.int 5], .int 1, .int 1], .tup []], RowS x := by
    intro x hx
    simp only [List.mem_cons, List.not_mem_nil, or_false] at hx
    rcases hx with rfl | rfl | rfl | rfl | rfl | rfl | rfl | rfl | rfl | rfl | rfl | rfl | rfl | rfl | rfl | rfl | rfl <;> exact rowS_tup (by decide) ⟨rfl, rfl, by decide +kernel⟩
  generalize hL1 : [D.tup [.bl true, .int 5, .int 1, .int 1], .tup [.int 1, .bl false, .int 1, .int 1], .tup [.int 1, .int 5, .bl true, .int 1], .tup [.int 1, .int 5, .int 1, .bl true], .tup [.int (-1), .int 5, .int 1, .int 1], .tup [.int 1, .int (-1), .int 1, .int 1],
      .tup [.int 1, .int 5, .int (-1), .int 1], .tup [.int 1, .int 5, .int 1, .int (-1)], .tup [.int 1, .int 5, .int 1, .int 1000001], .tup [.non, .int 5, .int 1, .int 1], .tup [.int 1, .non, .int 1, .int 1]] = L1 at a1 a2
  generalize hL2 : [D.tup [.bl true, .int 5, .int 1, .int 1], .tup [.int 1, .bl false, .int 1, .int 1], .tup [.int 1, .int 5, .bl true, .int 1], .tup [.int 1, .int 5, .int 1, .bl true], .tup [.int (-1), .int 5, .int 1, .int 1], .tup [.int 1, .int (-1), .int 1, .int 1],
      .tup [.int 1, .int 5, .int (-1), .int 1], .tup [.int 1, .int 5, .int 1, .int (-1)], .tup [.int 1, .int 5, .int 1, .int 1000001], .tup [.non, .int 5, .int 1, .int 1], .tup [.int 1, .non, .int 1, .int 1],
      .tup [.int 1, .int 5, .non, .int 1], .tup [.int 1, .int 5, .int 1, .non], .tup [.int 1, .str "5", .int 1, .int 1], .tup [.lst [.int 1], .int 5, .int 1, .int 1], .tup [.int 1, .lst [.int 5], .int 1, .int 1], .tup []] = L2 at a2 hrow
  have hl2 : L2.length = 17 := by rw [← hL2]; rfl
  have k2 := key L2 hrow (by omega)
  refine ⟨L2.map fun d => .tup [d], ?_, by simp; omega, fun x hx => ?_⟩
  · simp [a1]
    unfold t__law_odd_rates_2 t__law_odd_rates_3 t__law_odd_rates_4
    simp [a1, a2, k2]
  · obtain ⟨d, hd, rfl⟩ := List.mem_map.mp hx
    exact sing d (hrow d hd)
def sp7 : Sp := ⟨"meal", 7, 0, true, 1, 3⟩
theorem sp7_ok : sp7.ok := ⟨by decide, by decide, by decide, by decide, by decide, by decide, by decide, by decide, by decide⟩
theorem app_stepX {env : Env} {f : EX} {i n : Nat} {l : List D} {v : D} {X : Store} (h1 : env[i]? = some (some (.ref n))) (hn : S[n]? = some (.lst l)) (h2 : f env S = .ok v (S ++ X)) (hl : l.length < 16777216) : eApp (eVar i) f env S = .ok .non ((S ++ X).set n (.lst (l ++ [v]))) := by
  have hn2 : (S ++ X)[n]? = some (.lst l) := by
    rw [List.getElem?_append_left (List.getElem?_eq_some_iff.mp hn).1]
    exact hn
  unfold eApp
  rw [u_eVar, h1]
  dsimp only
  rw [bnd_ok]
  have t : tyD (.ref n) S = some (.b "list") := by unfold tyD; simp only [hn]
  rw [if_pos t, h2, bnd_ok]
  unfold appM
  dsimp only
  rw [hn2]
  dsimp only
  rw [if_pos (by simpa using hl)]
def f_ro : EX := eIdxB (eSaid "told" (refL cnsL) (eFn (callM m_rate_on 3 0 3 [(0, 0), (0, 1), (0, 2)] []) (aCons (eVar 8) (aCons (eC (.int 3)) (aCons (eC (.int 0)) aNil))) aNil)) (eC (.int 0))
def f_so : EX := eIdxB (eSaid "told" (refL cnsL) (eFn (callM m_share_of 2 0 2 [(0, 0), (0, 1)] [.non]) (aCons (eFrz cf (eFn (newM "Spending" (callM m_Spending_init 3 1 7 [(0, 0), (0, 1), (0, 2), (1, 0), (1, 1), (1, 2), (2, 0)] [.int 0, .bl true, .int 1, .int 0])) (aCons (eC (.str "meal")) (aCons (eC (.int 7)) aNil)) (aCons (eC (.int 3)) aNil))) (aCons (eVar 8) aNil)) aNil)) (eC (.int 0))
theorem words {d : D} (h : RtT d) : ∃ w : Str, (w = "rates" ↔ ¬ RatesD d) ∧ (∀ env S, env[8]? = some (some d) → f_ro env S = .ok (.str w) S) ∧ (d ≠ .non → ∀ env S, env[8]? = some (some d) → ∃ X, f_so env S = .ok (.str w) (S ++ X)) := by
  have fz := fun S => frz_sp (S := S) (p := sp7) (n := 3) (kn := 1) (xs := [.str "meal", .int 7]) (zs := [.int 3]) (pk := [(0, 0), (0, 1), (0, 2), (1, 0), (1, 1), (1, 2), (2, 0)]) (dfs := [.int 0, .bl true, .int 1, .int 0]) sp7_ok rfl rfl rfl
  have c1 : ¬ (("told" : Str) = "rates") := by decide
  have c2 : ¬ (("rate" : Str) = "rates") := by decide
  by_cases hr : RatesD d
  · obtain ⟨rs, hT, rfl⟩ := hr
    have rr := fun S => rateon_ok (S := S) (rs := rs) (m := 3) (t := 0) hT
    have ss := fun S => shareof_ok (S := S) (rs := rs) (p := sp7) hT sp7_ok
    have e37 : sp7.money = 3 := rfl
    have e30 : sp7.day = 0 := rfl
    unfold rateR at rr
    unfold shareR at ss
    rw [e37, e30] at ss
    cases z : rateOf rs 3 0 with
    | none =>
      rw [z] at rr ss
      refine ⟨"rate", ⟨fun e => absurd e c2, fun e => absurd ⟨rs, hT, rfl⟩ e⟩, fun env S he => ?_, fun _ env S he => ?_⟩
      · unfold f_ro
        have e : (eFn (callM m_rate_on 3 0 3 [(0, 0), (0, 1), (0, 2)] []) (aCons (eVar 8) (aCons (eC (.int 3)) (aCons (eC (.int 0)) aNil))) aNil) env S = .err "NoRate" [.int 3, .int 0] S := by simp [he, rr]
        have e2 : eSaid "told" (refL cnsL) (eFn (callM m_rate_on 3 0 3 [(0, 0), (0, 1), (0, 2)] []) (aCons (eVar 8) (aCons (eC (.int 3)) (aCons (eC (.int 0)) aNil))) aNil) env S = .ok (.tup [.str "rate", .int 3, .int 0]) S := by
          unfold eSaid
          rw [e]
          rfl
        simp [e2]
      · obtain ⟨X, q⟩ := fz S
        refine ⟨X, ?_⟩
        unfold f_so
        have e : (eFn (callM m_share_of 2 0 2 [(0, 0), (0, 1)] [.non]) (aCons (eFrz cf (eFn (newM "Spending" (callM m_Spending_init 3 1 7 [(0, 0), (0, 1), (0, 2), (1, 0), (1, 1), (1, 2), (2, 0)] [.int 0, .bl true, .int 1, .int 0])) (aCons (eC (.str "meal")) (aCons (eC (.int 7)) aNil)) (aCons (eC (.int 3)) aNil))) (aCons (eVar 8) aNil)) aNil) env S = .err "NoRate" [.int 3, .int 0] (S ++ X) := by
          simp [q, he, ss]
        have e2 : eSaid "told" (refL cnsL) (eFn (callM m_share_of 2 0 2 [(0, 0), (0, 1)] [.non]) (aCons (eFrz cf (eFn (newM "Spending" (callM m_Spending_init 3 1 7 [(0, 0), (0, 1), (0, 2), (1, 0), (1, 1), (1, 2), (2, 0)] [.int 0, .bl true, .int 1, .int 0])) (aCons (eC (.str "meal")) (aCons (eC (.int 7)) aNil)) (aCons (eC (.int 3)) aNil))) (aCons (eVar 8) aNil)) aNil) env S = .ok (.tup [.str "rate", .int 3, .int 0]) (S ++ X) := by
          unfold eSaid
          rw [e]
          rfl
        simp [e2]
    | some o =>
      obtain ⟨a, b⟩ := o
      rw [z] at rr ss
      refine ⟨"told", ⟨fun e => absurd e c1, fun e => absurd ⟨rs, hT, rfl⟩ e⟩, fun env S he => ?_, fun _ env S he => ?_⟩
      · unfold f_ro
        have e : (eFn (callM m_rate_on 3 0 3 [(0, 0), (0, 1), (0, 2)] []) (aCons (eVar 8) (aCons (eC (.int 3)) (aCons (eC (.int 0)) aNil))) aNil) env S = .ok (.tup [.int a, .int b]) S := by simp [he, rr]
        have e2 : eSaid "told" (refL cnsL) (eFn (callM m_rate_on 3 0 3 [(0, 0), (0, 1), (0, 2)] []) (aCons (eVar 8) (aCons (eC (.int 3)) (aCons (eC (.int 0)) aNil))) aNil) env S = .ok (.tup [.str "told", .tup [.int a, .int b]]) S := by
          unfold eSaid
          rw [e]
        simp [e2]
      · obtain ⟨X, q⟩ := fz S
        refine ⟨X, ?_⟩
        unfold f_so
        have e : (eFn (callM m_share_of 2 0 2 [(0, 0), (0, 1)] [.non]) (aCons (eFrz cf (eFn (newM "Spending" (callM m_Spending_init 3 1 7 [(0, 0), (0, 1), (0, 2), (1, 0), (1, 1), (1, 2), (2, 0)] [.int 0, .bl true, .int 1, .int 0])) (aCons (eC (.str "meal")) (aCons (eC (.int 7)) aNil)) (aCons (eC (.int 3)) aNil))) (aCons (eVar 8) aNil)) aNil) env S = .ok (.int (share sp7.amount sp7.heads a b)) (S ++ X) := by
          simp [q, he, ss]
        have e2 : eSaid "told" (refL cnsL) (eFn (callM m_share_of 2 0 2 [(0, 0), (0, 1)] [.non]) (aCons (eFrz cf (eFn (newM "Spending" (callM m_Spending_init 3 1 7 [(0, 0), (0, 1), (0, 2), (1, 0), (1, 1), (1, 2), (2, 0)] [.int 0, .bl true, .int 1, .int 0])) (aCons (eC (.str "meal")) (aCons (eC (.int 7)) aNil)) (aCons (eC (.int 3)) aNil))) (aCons (eVar 8) aNil)) aNil) env S = .ok (.tup [.str "told", .int (share sp7.amount sp7.heads a b)]) (S ++ X) := by
          unfold eSaid
          rw [e]
        simp [e2]
  · have rr := fun S => rateon_no (S := S) (d := d) (m := 3) (t := 0) h hr
    refine ⟨"rates", ⟨fun _ => hr, fun _ => rfl⟩, fun env S he => ?_, fun hd env S he => ?_⟩
    · unfold f_ro
      have e : (eFn (callM m_rate_on 3 0 3 [(0, 0), (0, 1), (0, 2)] []) (aCons (eVar 8) (aCons (eC (.int 3)) (aCons (eC (.int 0)) aNil))) aNil) env S = .err "NoRates" [] S := by simp [he, rr]
      have e2 : eSaid "told" (refL cnsL) (eFn (callM m_rate_on 3 0 3 [(0, 0), (0, 1), (0, 2)] []) (aCons (eVar 8) (aCons (eC (.int 3)) (aCons (eC (.int 0)) aNil))) aNil) env S = .ok (.tup [.str "rates"]) S := by
        unfold eSaid
        rw [e]
        rfl
      simp [e2]
    · have ss := fun S => shareof_no (S := S) (p := sp7) h hd hr
      obtain ⟨X, q⟩ := fz S
      refine ⟨X, ?_⟩
      unfold f_so
      have e : (eFn (callM m_share_of 2 0 2 [(0, 0), (0, 1)] [.non]) (aCons (eFrz cf (eFn (newM "Spending" (callM m_Spending_init 3 1 7 [(0, 0), (0, 1), (0, 2), (1, 0), (1, 1), (1, 2), (2, 0)] [.int 0, .bl true, .int 1, .int 0])) (aCons (eC (.str "meal")) (aCons (eC (.int 7)) aNil)) (aCons (eC (.int 3)) aNil))) (aCons (eVar 8) aNil)) aNil) env S = .err "NoRates" [] (S ++ X) := by
        simp [q, he, ss]
      have e2 : eSaid "told" (refL cnsL) (eFn (callM m_share_of 2 0 2 [(0, 0), (0, 1)] [.non]) (aCons (eFrz cf (eFn (newM "Spending" (callM m_Spending_init 3 1 7 [(0, 0), (0, 1), (0, 2), (1, 0), (1, 1), (1, 2), (2, 0)] [.int 0, .bl true, .int 1, .int 0])) (aCons (eC (.str "meal")) (aCons (eC (.int 7)) aNil)) (aCons (eC (.int 3)) aNil))) (aCons (eVar 8) aNil)) aNil) env S = .ok (.tup [.str "rates"]) (S ++ X) := by
        unfold eSaid
        rw [e]
        rfl
      simp [e2]
end Ro
end
section
set_option Elab.async false
set_option linter.all false
set_option maxRecDepth 100000
set_option maxHeartbeats 1000000
namespace Ro
open PySem
variable {S : Store} {env : Env}
theorem in_one (w : Str) : inS (.str "rates") (.lst [.str w]) = some (.bl (decide (w = "rates"))) := by
  simp [inS]
theorem in_two (w : Str) : inS (.str "rates") (.lst [.str w, .str w]) = some (.bl (decide (w = "rates"))) := by
  simp [inS]
theorem at_m1 (w : Str) : atP [D.str w] (-1) = some (.str w) := last_at _
theorem at_m2 (w : Str) : atP [D.str w, D.str w] (-1) = some (.str w) := last_at _
theorem eqbl (a b : Bool) : eqD (.bl a) (.bl b) = some (.bl (a == b)) := by
  cases a <;> cases b <;> rfl
theorem ixM {n : Nat} {l : List D} {i : Int} (h : S[n]? = some (.lst l)) : idxM (.ref n) (.int i) S = atP l i := by
  unfold idxM
  simp only [h]
theorem thing_step {b : Nat} {x0 x1 x3 x4 x5 x6 x7 x9 x10 x11 x12 x13 : Option D} {d : D} (hB : Bx S b) (h : Th d) : ∃ (y4 y10 y11 : Option D) (S' : Store), t_law_14 [x0, x1, some (.ref b), x3, x4, x5, x6, x7, some d, x9, x10, x11, x12, x13] S = .ok (.nx [x0, x1, some (.ref b), x3, y4, x5, x6, x7, some d, x9, y10, y11, x12, x13]) S' ∧ Bx S' b := by
  have hb := hB.lt
  obtain ⟨s, hs⟩ := h.w
  obtain ⟨r, hr, hri⟩ := lare_ok (S := S) h.r
  obtain ⟨w, hw, ew, es⟩ := words h.r
  have hq : (r == decide (w = "rates")) = false := by
    cases r with
    | true =>
      have : RatesD d := hri.mp rfl
      have : ¬ (w = "rates") := fun e => (hw.mp e) this
      simp [this]
    | false =>
      have : ¬ RatesD d := fun e => by have := hri.mpr e; cases this
      have : w = "rates" := hw.mpr this
      simp [this]
  have e0 : ∀ x : D, [x] = [x] := fun _ => rfl
  unfold t_law_14
  simp [hs, hr]
  unfold t_law_15
  have k1 := ew [x0, x1, some (.ref b), x3, some (.str s), x5, x6, x7, some d, x9, x10, some (.bl r), x12, x13] S rfl
  have k1' : eLstM (aCons f_ro aNil) [x0, x1, some (.ref b), x3, some (.str s), x5, x6, x7, some d, x9, x10, some (.bl r), x12, x13] S = .ok (.ref S.length) (S ++ [.lst [.str w]]) := by
    simp [k1]
  have k1'' : sSet 10 (eLstM (aCons f_ro aNil)) [x0, x1, some (.ref b), x3, some (.str s), x5, x6, x7, some d, x9, x10, some (.bl r), x12, x13] S = .ok (.nx [x0, x1, some (.ref b), x3, some (.str s), x5, x6, x7, some d, x9, some (.ref S.length), some (.bl r), x12, x13]) (S ++ [.lst [.str w]]) := by
    rw [u_sSet, k1']
    rfl
  change ∃ (y4 y10 y11 : Option D) (S' : Store), (sSeq (sSet 10 (eLstM (aCons f_ro aNil))) t_law_16) [x0, x1, some (.ref b), x3, some (.str s), x5, x6, x7, some d, x9, x10, some (.bl r), x12, x13] S = _ ∧ _
  rw [u_sSeq, k1'', bnd_ok]
  dsimp only
  have hc : (S ++ [Cell.lst [.str w]])[S.length]? = some (.lst [.str w]) := by simp
  have hBx : Bx (S ++ [Cell.lst [.str w]]) b := hB.app _
  unfold t_law_16
  by_cases hn : d = .non
  · subst hn
    have e1 : notND .non .non = some (.bl false) := rfl
    have sc : seeD (.ref S.length) (S ++ [Cell.lst [.str w]]) = .lst [.str w] := by
      unfold seeD
      dsimp only
      rw [hc]
    have m0 := ixM (i := 0) hc
    have m1 := ixM (i := -1) hc
    rw [at_m1] at m1
    simp only [at_0] at m0
    simp [e1]
    unfold t_law_18
    simp [eOpS, sc, seeD, in_one, eqbl, hq, hs, idxB, m0, m1, ne_str]
    exact ⟨_, _, _, _, ⟨⟨rfl, rfl, rfl⟩, rfl⟩, hBx⟩
  · have e1 : notND d .non = some (.bl true) := by
      unfold notND
      cases d <;> first | rfl | exact absurd rfl hn
    obtain ⟨X, k2⟩ := es hn [x0, x1, some (.ref b), x3, some (.str s), x5, x6, x7, some d, x9, some (.ref S.length), some (.bl r), x12, x13] (S ++ [.lst [.str w]]) rfl
    have k3 := app_stepX (env := [x0, x1, some (.ref b), x3, some (.str s), x5, x6, x7, some d, x9, some (.ref S.length), some (.bl r), x12, x13]) (i := 10) rfl hc k2 (by simp)
    obtain ⟨S2, hS2⟩ : ∃ S2, S2 = (S ++ [Cell.lst [.str w]] ++ X).set S.length (.lst ([.str w] ++ [.str w])) := ⟨_, rfl⟩
    rw [← hS2] at k3
    have hc2 : S2[S.length]? = some (.lst [.str w, .str w]) := by
      rw [hS2]
      simp
    have hB2 : Bx S2 b := by
      obtain ⟨x, y, e, h1, h2⟩ := hBx.app X
      refine ⟨x, y, ?_, h1, h2⟩
      rw [hS2, List.getElem?_set_ne (by omega)]
      exact e
    have sc : seeD (.ref S.length) S2 = .lst [.str w, .str w] := by
      unfold seeD
      dsimp only
      rw [hc2]
    have m0 := ixM (i := 0) hc2
    have m1 := ixM (i := -1) hc2
    rw [at_m2] at m1
    simp only [at_0] at m0
    change ∃ (y4 y10 y11 : Option D) (S' : Store), (sSeq (sIf (bVal (eOp notND (eVar 8) (eC .non))) (sExpr (eApp (eVar 10) f_so)) sPass) t_law_18) _ _ = _ ∧ _
    simp [e1, k3]
    unfold t_law_18
    have s0 : ∀ z : Str, seeD (.str z) S2 = .str z := fun _ => rfl
    simp [eOpS, sc, s0, in_two, eqbl, hq, hs, idxB, m0, m1, ne_str]
    exact ⟨_, _, _, _, ⟨⟨rfl, rfl, rfl⟩, rfl⟩, hB2⟩
end Ro
end
section
set_option Elab.async false
set_option linter.all false
set_option maxRecDepth 100000
set_option maxHeartbeats 1000000
namespace Ro
open PySem
variable {S : Store} {env : Env}
theorem lc_rows {i : Nat} {el : EX} {env0 : Env} {g : Rw → D} {rs : List Rw} (hl : rs.length ≤ 1000) (h : ∀ r ∈ rs, el (env0.set i (some r.d)) S = .ok (g r) S) :
    lcLoop (pName i) bYes el env0 (rs.map Rw.d) [] S = .ok (rs.map g) S := by
  have key : ∀ (rs : List Rw) (acc : List D), (∀ r ∈ rs, el (env0.set i (some r.d)) S = .ok (g r) S) → acc.length + rs.length ≤ 1000 → lcLoop (pName i) bYes el env0 (rs.map Rw.d) acc S = .ok (acc ++ rs.map g) S := by
    intro rs
    induction rs with
    | nil => intro acc _ _; simp [lcLoop]
    | cons r rs ih =>
      intro acc h hl
      simp at hl
      rw [List.map_cons, lcLoop]
      simp only [u_pName]
      rw [u_bYes, nox_ok, bnd_ok, if_pos rfl, h r (by simp), nox_ok, bnd_ok, if_pos (by simp; omega), ih _ (fun x hx => h x (by simp [hx])) (by simp; omega)]
      simp
  simpa using key rs [] h (by simpa using hl)
theorem add_lst {l m : List D} (h : l.length + m.length ≤ 1000) : addD (.lst l) (.lst m) = some (.lst (l ++ m)) := by
  show (if _ then _ else _) = _
  rw [if_pos (by simp; omega)]
theorem rep_mem {l : List D} : ∀ (n : Nat), ∀ x ∈ (List.replicate n l).flatten, x ∈ l := by
  intro n x hx
  rw [List.mem_flatten] at hx
  obtain ⟨m, hm, hx⟩ := hx
  rw [List.eq_of_mem_replicate hm] at hx
  exact hx
theorem rights_loop {rs : List Rw} {x0 x1 x2 x4 x5 x7 x8 x9 x10 x11 x12 x13 : Option D} {t : Int} (h : TbOk rs) : W (t_law_7 [x0, x1, x2, some (tabD rs), x4, x5, some (.int t), x7, x8, x9, x10, x11, x12, x13] S) fun c S' => (∃ y9, c = .nx [x0, x1, x2, some (tabD rs), x4, x5, some (.int t), x7, x8, y9, x10, x11, x12, x13]) ∧ S' = S := by
  unfold t_law_7
  simp
  refine W.loop (I := fun k env S' => (∃ y9, env = [x0, x1, x2, some (tabD rs), x4, x5, some (.int t), x7, x8, y9, x10, x11, x12, x13]) ∧ S' = S) (k := 0) ⟨⟨_, rfl⟩, rfl⟩ (fun j dd env S7 hj hd hI => ?_) (fun env S7 hI => ?_)
  · obtain ⟨⟨y9, rfl⟩, rfl⟩ := hI
    obtain ⟨_, rfl⟩ := rng_get hd
    refine ⟨_, rfl, ?_⟩
    unfold t_law_8
    simp [right_ok h]
  · obtain ⟨⟨y9, rfl⟩, rfl⟩ := hI
    exact ⟨⟨_, rfl⟩, rfl⟩
theorem things_loop {b : Nat} {x0 x1 x3 x4 x5 x6 x7 x8 x9 x10 x11 x12 x13 : Option D} {L : List D} (hB : Bx S b) (h : ∀ d ∈ L, Th d) : W (loop (pName 8) t_law_14 L [x0, x1, some (.ref b), x3, x4, x5, x6, x7, x8, x9, x10, x11, x12, x13] S) fun c S' => ∃ y4 y8 y10 y11 : Option D, c = .nx [x0, x1, some (.ref b), x3, y4, x5, x6, x7, y8, x9, y10, y11, x12, x13] := by
  refine W.loop (I := fun k env S' => (∃ y4 y8 y10 y11, env = [x0, x1, some (.ref b), x3, y4, x5, x6, x7, y8, x9, y10, y11, x12, x13]) ∧ Bx S' b) (k := 0) ⟨⟨_, _, _, _, rfl⟩, hB⟩ (fun j dd env S7 hj hd hI => ?_) (fun env S7 hI => ?_)
  · obtain ⟨⟨y4, y8, y10, y11, rfl⟩, B7⟩ := hI
    refine ⟨_, rfl, ?_⟩
    obtain ⟨z4, z10, z11, S8, e, B8⟩ := thing_step (x0 := x0) (x1 := x1) (x3 := x3) (x4 := y4) (x5 := x5) (x6 := x6) (x7 := x7) (x9 := x9) (x10 := y10) (x11 := y11) (x12 := x12) (x13 := x13) B7 (h _ (List.mem_of_getElem? hd))
    show W (t_law_14 [x0, x1, some (.ref b), x3, y4, x5, x6, x7, some dd, x9, y10, y11, x12, x13] S7) _
    rw [e, W_ok]
    exact ⟨⟨_, _, _, _, rfl⟩, B8⟩
  · obtain ⟨⟨y4, y8, y10, y11, rfl⟩, _⟩ := hI
    exact ⟨_, _, _, _, rfl⟩
theorem turn_ok {ns : List Int} {i : Nat} {x2 x3 x4 x5 x6 x7 x8 x9 x10 x11 x12 x13 : Option D} (hl : ns.length ≤ 63) (hi : i < 63) : W (t_law_2 [some (.scr ns), some (.int (i : Int)), x2, x3, x4, x5, x6, x7, x8, x9, x10, x11, x12, x13] S) fun c S' => ∃ y1 y2 y3 y4 y5 y6 y7 y8 y9 y10 y11 y12 y13 : Option D, c = .nx [some (.scr ns), y1, y2, y3, y4, y5, y6, y7, y8, y9, y10, y11, y12, y13] := by
  unfold t_law_2
  simp
  refine (box_ok (k := i) hl hi).mono ?_
  rintro _ _ ⟨z1, z2, rfl, rfl, h1, h2⟩
  have hB : Bx (S ++ [.lst [.int z1, .int z2]]) S.length := ⟨z1, z2, by simp, h1, h2⟩
  generalize S ++ [.lst [.int z1, .int z2]] = S0 at hB
  generalize S.length = b at hB
  try simp
  unfold t_law_3
  simp
  refine (rates_ok hB).mono ?_
  rintro _ S1 ⟨rs, hT, rfl, f1⟩
  have B1 := f1.bx
  have hlen := hT.len
  obtain ⟨s, hs⟩ := hT.th.w
  try simp
  unfold t_law_4
  simp [hs]
  unfold t_law_5
  simp
  refine (take_ok (n := 60) B1 (by decide)).mono ?_
  rintro _ S2 ⟨⟨i2, rfl, a2, b2⟩, s2⟩
  have B2 := s2.bx B1.lt
  have l1 := fun env0 (he : env0.length = 14) => lc_rows (S := S2) (i := 12) (el := eIdxB (eVar 12) (eC (.int 1))) (env0 := env0) (g := fun r => .int r.day) (rs := rs) (by omega) (fun r _ => by
    have i1 : ∀ S : Store, idxB r.d (.int 1) S = some (.int r.day) := fun _ => rfl
    simp [-idx_tup, he, i1])
  have l2 := fun env0 (he : env0.length = 14) => lc_rows (S := S2) (i := 12) (el := eB bMax2 (aCons (eC (.int 0)) (aCons (eOp subD (eIdxB (eVar 12) (eC (.int 1))) (eC (.int 1))) aNil))) (env0 := env0) (g := fun r => .int (if r.day - 1 > 0 then r.day - 1 else 0)) (rs := rs.take 4) (by rw [List.length_take]; omega) (fun r _ => by
    have i1 : ∀ S : Store, idxB r.d (.int 1) S = some (.int r.day) := fun _ => rfl
    simp [-idx_tup, he, i1, bMax2])
  have ct : cutD (tabD rs) none (some 4) = some (.tup ((rs.take 4).map Rw.d)) := by
    show some (D.tup (cutL (rs.map Rw.d) none (some 4))) = _
    unfold cutL cutI
    simp
  obtain ⟨M1, hM1⟩ : ∃ M1 : List D, M1 = [.int 0, .int 59, .int i2] ++ (rs.map fun r => .int r.day) := ⟨_, rfl⟩
  have ad1 := add_lst (l := [.int 0, .int 59, .int i2]) (m := rs.map fun r => .int r.day) (by simp; omega)
  rw [← hM1] at ad1
  obtain ⟨M2, hM2⟩ : ∃ M2 : List D, M2 = M1 ++ ((rs.take 4).map fun r => .int (if r.day - 1 > 0 then r.day - 1 else 0)) := ⟨_, rfl⟩
  have ad2 := add_lst (l := M1) (m := (rs.take 4).map fun r => .int (if r.day - 1 > 0 then r.day - 1 else 0)) (by rw [hM1]; simp; omega)
  rw [← hM2] at ad2
  have hM : ∀ d ∈ M2, ∃ z : Int, d = .int z := by
    intro d hd
    rw [hM2, hM1] at hd
    simp only [List.mem_append, List.mem_cons, List.not_mem_nil, or_false, List.mem_map] at hd
    rcases hd with ((rfl | rfl | rfl) | ⟨r, q, rfl⟩) | ⟨r, q, rfl⟩ <;> exact ⟨_, rfl⟩
  generalize hG1 : (rs.map fun r => D.int r.day) = G1 at l1 ad1
  generalize hG2 : ((rs.take 4).map fun r => D.int (if r.day - 1 > 0 then r.day - 1 else 0)) = G2 at l2 ad2
  have it1 : tabD rs = .tup (rs.map Rw.d) := rfl
  generalize hG3 : (rs.take 4).map Rw.d = G3 at l2 ct
  generalize hG4 : rs.map Rw.d = G4 at l1 it1
  simp [it1, wipeE, l1, ad1]
  unfold t_law_6
  rw [← it1]
  simp [wipeE, ct, l2, ad2]
  refine W.loop (I := fun k env S' => (∃ y6 y9 : Option D, env = [some (.scr ns), some (.int (i : Int)), some (.ref b), some (tabD rs), some (.str s), some (.lst M1), y6, x7, x8, y9, x10, x11, x12, x13]) ∧ S' = S2) (k := 0) ⟨⟨_, _, rfl⟩, rfl⟩ (fun j dd env S7 hj hd hI => ?_) (fun env S7 hI => ?_)
  · obtain ⟨⟨y6, y9, rfl⟩, rfl⟩ := hI
    obtain ⟨z, rfl⟩ := hM _ (List.mem_of_getElem? hd)
    refine ⟨_, rfl, ?_⟩
    refine (rights_loop hT).mono ?_
    rintro _ S8 ⟨⟨y9, rfl⟩, rfl⟩
    exact ⟨⟨_, _, rfl⟩, rfl⟩
  · obtain ⟨⟨y6, y9, rfl⟩, rfl⟩ := hI
    try simp
    unfold t_law_10
    simp [hs, ne_str]
    unfold t_law_12
    simp
    refine W.lc (I := fun k acc S' => acc.length = k ∧ (∀ d ∈ acc, Th d) ∧ Bx S' b) (k := 0) ⟨rfl, by simp, B2⟩ (by simp) (fun k x acc S3 hi hx hI => ?_) (fun acc S3 hI => ?_)
    · obtain ⟨e1, e2, B3⟩ := hI
      refine ⟨_, rfl, ?_⟩
      simp [wipeE]
      refine (bent_ok B3 hT).mono ?_
      rintro d S4 ⟨hd, s4⟩
      refine ⟨by simp [e1], ?_, s4.bx B3.lt⟩
      intro x hx
      rcases hx with hx | hx
      · exact e2 x hx
      · rw [hx]; exact hd
    · obtain ⟨e1, e2, B3⟩ := hI
      have e1 : acc.length = 14 := by simpa using e1
      have hfl : ∀ n : Nat, ((List.replicate n (rs.map Rw.d)).flatten).length = n * rs.length := fun n => by
        rw [List.length_flatten]
        simp
      have m1 : mulR0 (tabD rs) (.int 13) = some (.tup (List.replicate 13 (rs.map Rw.d)).flatten) := by
        show (if _ then _ else _) = _
        rw [if_pos ⟨by decide, by decide, by simp; omega⟩]
        rfl
      have m2 : mulR (.tup [.tup [.int 1, .int 0, .int 2, .int 3]]) (.int 2) = some (.tup [.tup [.int 1, .int 0, .int 2, .int 3], .tup [.int 1, .int 0, .int 2, .int 3]]) := rfl
      have t1 : Th (.tup (cutL (List.replicate 13 (rs.map Rw.d)).flatten none (some 13))) := by
        refine th_tup ?_ fun x hx => rows_S hT.ok x (rep_mem 13 x (cutL_mem x hx))
        unfold cutL cutI
        simp
        omega
      have t2 : Th (.tup [.tup [.int 1, .int 0, .int 2, .int 3], .tup [.int 1, .int 0, .int 2, .int 3]]) := by
        refine th_tup (by simp) fun x hx => ?_
        simp at hx
        subst hx
        exact rowS_tup (by simp [okD]) ⟨rfl, rfl, by decide +kernel⟩
      obtain ⟨L, el, hL1, hL2⟩ := oddrates_ok (S := S3)
      generalize (List.replicate 13 (rs.map Rw.d)).flatten = F at m1 t1
      have ad3 := add_lst (l := acc) (m := [.tup (cutL F none (some 13)), .tup [.tup [.int 1, .int 0, .int 2, .int 3], .tup [.int 1, .int 0, .int 2, .int 3]]]) (by simp; omega)
      have ad4 := add_lst (l := acc ++ [.tup (cutL F none (some 13)), .tup [.tup [.int 1, .int 0, .int 2, .int 3], .tup [.int 1, .int 0, .int 2, .int 3]]]) (m := L) (by simp; omega)
      simp [m1, m2, cutD, ad3]
      unfold t_law_13
      obtain ⟨M, hM⟩ : ∃ M, M = acc ++ [D.tup (cutL F none (some 13)), .tup [.tup [.int 1, .int 0, .int 2, .int 3], .tup [.int 1, .int 0, .int 2, .int 3]]] := ⟨_, rfl⟩
      rw [← hM] at ad4 ⊢
      have hT3 : ∀ d ∈ M ++ L, Th d := by
        intro d hd
        rw [hM] at hd
        simp only [List.mem_append, List.mem_cons, List.not_mem_nil, or_false] at hd
        rcases hd with (hd | rfl | rfl) | hd
        · exact e2 d hd
        · exact t1
        · exact t2
        · exact hL2 d hd
      simp [el, ad4]
      refine (things_loop B3 hT3).mono ?_
      rintro _ S5 ⟨y4, y8, y10, y11, rfl⟩
      exact ⟨_, _, _, _, _, _, _, _, _, _, _, _, _, rfl⟩
theorem law04_ok {ns : List Int} (hl : ns.length ≤ 63) : ∃ S, m_law [.scr ns] [] = .ok (.bl true) S := by
  refine W.ex ?_
  unfold m_law
  rw [x_law]
  simp [bLenA, bLen, lenD, bMin2, bMax2]
  generalize hN : (if (1 : Int) < (if (4 : Int) < (ns.length : Int) then (4 : Int) else (ns.length : Int)) then (if (4 : Int) < (ns.length : Int) then (4 : Int) else (ns.length : Int)) else (1 : Int)) = N
  have hN2 : N ≤ 4 ∧ -4611686018427387904 ≤ N ∧ N < 4611686018427387904 := by
    rw [← hN]
    split <;> split <;> omega
  simp [hN2.2]
  refine W.loop (I := fun i env S' => ∃ x1 x2 x3 x4 x5 x6 x7 x8 x9 x10 x11 x12 x13 : Option D, env = [some (.scr ns), x1, x2, x3, x4, x5, x6, x7, x8, x9, x10, x11, x12, x13]) (k := 0)
    ⟨none, none, none, none, none, none, none, none, none, none, none, none, none, rfl⟩ (fun i d env S' hi hd hI => ?_) (fun env S' hI => ?_)
  · obtain ⟨x1, x2, x3, x4, x5, x6, x7, x8, x9, x10, x11, x12, x13, rfl⟩ := hI
    obtain ⟨hi2, rfl⟩ := rng_get hd
    refine ⟨_, rfl, ?_⟩
    simp
    refine (turn_ok (i := i) hl (by omega)).mono ?_
    rintro _ S7 ⟨y1, y2, y3, y4, y5, y6, y7, y8, y9, y10, y11, y12, y13, rfl⟩
    exact ⟨_, _, _, _, _, _, _, _, _, _, _, _, _, rfl⟩
  · obtain ⟨x1, x2, x3, x4, x5, x6, x7, x8, x9, x10, x11, x12, x13, rfl⟩ := hI
    simp [t_law_20]
end Ro
end
open PySem
set_option maxRecDepth 100000 in
theorem PySem.Challenge.cw_roadpence_k04_rates_of_days_holds : PySem.Challenge.rw_roadpence_k04_rates_of_days.Holds := by
  exact Ro.law_from fun ns hl _ => Ro.law04_ok hl

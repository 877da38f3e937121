import PyProof.Rows.All
import Wide.All
import OpenK.AllK
import Wide.FinOn
import HandS.ForMost
import HandS.Wide
import HandS.Exc
import HandS.TryOnly
import HandS.TryMany
import HandS.ExcOwn
import HandS.WordsExc
import HandS.ExcInit
import HandS.Lambda
import HandS.OwnEq
import HandS.TupAny
import HandS.Defaults
import HandS.HeadHook2
import HandS.MakeKw
import HandS.IsInst
import HandS.WideBits
import HandS.Zip
import HandS.Text
import KE.DataEq
import KE.DataCmp
import HandS.FStr
import HandS.RaiseMore
import PyProof.ReprRoads
import HandS.HeadHook3
import HandS.HeadHook4
import HandS.Head2
import HandS.HeadEnd
import HandS.Style
import HandS.TupSets
import HandS.Conv
import PyProof.TupleOfSeq
import HandS.Keys
import HandS.Small
import HandS.EndBits
import Wide.Once
import HandS.HotCalls
import HandS.ExcField
import HandS.ExcIs
import KE.KExcIs
import HandS.Deep
import PyProof.P3In
import HandS.NestedK
import HandS.TupMul
import HandS.More
import PyProof.InstEq
import PyProof.InstNe
import KE.KFmtOwn
import KE.GoesMore
import KE.GoesZip
import HandS.Strs
import HandS.SetFor
import OpenK.KOps
import HandS.ListEq
import PyProof.StrOps2
import KE.KStateDown
import Lean
import KE.KIntText
import PySem.Challenge.RW_roadpence_k07_rules_alike
section
set_option linter.all false
namespace Ro
open PySem
inductive D where
  | non | bl (b : Bool) | int (i : Int) | str (s : Str)
  | tup (l : List D) | lst (l : List D) | dct (l : List (D × D))
  | obj (c : String) (fs : List D)
  | scr (l : List Int) | ref (n : Nat) | fn (x : String) | thk (k : Nat) (caps : List D)
  deriving Inhabited
inductive Cell where
  | dead | lst (l : List D) | dct (l : List (D × D)) | ins (c : String) (fs : List (String × D)) | dcT (l : List (List Int × D))
  deriving Inhabited
abbrev Store := List Cell
inductive R (α : Type) where
  | ok (a : α) (S : Store) | err (c : String) (fs : List D) (S : Store) | bad
def R.bnd {α β : Type} : R α → (α → Store → R β) → R β
  | .ok a S, f => f a S
  | .err c fs S, _ => .err c fs S
  | .bad, _ => .bad
@[simp] theorem bnd_ok {α β : Type} (a : α) (S : Store) (f : α → Store → R β) : (R.ok a S).bnd f = f a S := rfl
@[simp] theorem bnd_err {α β : Type} (c : String) (fs : List D) (S : Store) (f : α → Store → R β) : (R.err c fs S : R α).bnd f = .err c fs S := rfl
@[simp] theorem bnd_bad {α β : Type} (f : α → Store → R β) : (R.bad : R α).bnd f = .bad := rfl
/-- an option as a result -/
def lift {α : Type} (o : Option α) (S : Store) : R α := match o with
  | some a => .ok a S
  | none => .bad
@[simp] theorem lift_some {α : Type} (a : α) (S : Store) : lift (some a) S = .ok a S := rfl
@[simp] theorem lift_none {α : Type} (S : Store) : lift (none : Option α) S = .bad := rfl
abbrev LINE : Nat := 16777216
mutual
def pyEq : D → D → Bool
  | .non, .non => true
  | .bl a, .bl b => a == b
  | .bl a, .int j => decide ((if a then 1 else 0) = j)
  | .int i, .bl b => decide (i = (if b then 1 else 0))
  | .int i, .int j => decide (i = j)
  | .str s, .str t => decide (s = t)
  | .tup l, .tup m => pyEqs l m
  | .lst l, .lst m => pyEqs l m
  | .dct l, .dct m => l.length == m.length && pySub l m
  | .obj c l, .obj d m => c == d && pyEqs l m
  | _, _ => false
def pyEqs : List D → List D → Bool
  | [], [] => true
  | x :: l, y :: m => pyEq x y && pyEqs l m
  | _, _ => false
def pySub : List (D × D) → List (D × D) → Bool
  | [], _ => true
  | (k, v) :: l, m => (match m.find? (fun p => pyEq k p.1) with
     | some p => pyEq v p.2
     | none => false) && pySub l m
end
abbrev Env := List (Option D)
abbrev EX := Env → Store → R D
abbrev BX := Env → Store → R Bool
abbrev AX := Env → Store → R (List D)
inductive Ctl where
  | nx (e : Env) | rt (d : D) | bk (e : Env) | ct (e : Env)
abbrev ES := Env → Store → R Ctl
abbrev Fn := List D → Store → R D
def eVar (i : Nat) : EX := fun env S => match env[i]? with
  | some (some d) => .ok d S
  | _ => .bad
def eC (d : D) : EX := fun _ S => .ok d S
def eOp (op : D → D → Option D) (a b : EX) : EX := fun env S => (a env S).bnd fun x S1 => (b env S1).bnd fun y S2 => lift (op x y) S2
def eUn (op : D → Option D) (a : EX) : EX := fun env S => (a env S).bnd fun x S1 => lift (op x) S1
def aNil : AX := fun _ S => .ok [] S
def aCons (a : EX) (r : AX) : AX := fun env S => (a env S).bnd fun x S1 => (r env S1).bnd fun xs S2 => .ok (x :: xs) S2
/-- how a call's values are put: from the written ones (0), the defaults (1), the keywords' (2) -/
def pick {α : Type} (pk : List (Nat × Nat)) (us its ws : List α) : List α := pk.flatMap fun q => ((if q.1 = 0 then us else if q.1 = 1 then its else ws)[q.2]?).toList
def eTup (a : AX) : EX := fun env S => (a env S).bnd fun xs S1 => if xs.length ≤ LINE then .ok (.tup xs) S1 else .bad
def eLst (a : AX) : EX := fun env S => (a env S).bnd fun xs S1 => if xs.length ≤ LINE then .ok (.lst xs) S1 else .bad
/-- a list that will be changed -/
def eLstM (a : AX) : EX := fun env S => (a env S).bnd fun xs S1 => if xs.length ≤ LINE then .ok (.ref S1.length) (S1 ++ [.lst xs]) else .bad
def truth : D → Option Bool
  | .non => some false
  | .bl b => some b
  | .int i => some (decide (i ≠ 0))
  | .str s => if s.length ≤ LINE then some (decide (s.length ≠ 0)) else none
  | .tup l => some (!l.isEmpty)
  | .lst l => some (!l.isEmpty)
  | .dct l => some (!l.isEmpty)
  | _ => none
/-- an expression's truth -/
def bOf (a : EX) : BX := fun env S => (a env S).bnd fun x S1 => lift (truth x) S1
/-- an expression that is a bool, as a test -/
def bVal (a : EX) : BX := fun env S => (a env S).bnd fun x S1 => match x with
  | .bl b => .ok b S1
  | _ => .bad
def bAnd (a b : BX) : BX := fun env S => (a env S).bnd fun c S1 => if c then b env S1 else .ok false S1
def bOr (a b : BX) : BX := fun env S => (a env S).bnd fun c S1 => if c then .ok true S1 else b env S1
def bNot (a : BX) : BX := fun env S => (a env S).bnd fun c S1 => .ok (!c) S1
/-- .. as values, all but the last a bool -/
def eAnd (a b : EX) : EX := fun env S => (a env S).bnd fun x S1 => match x with
  | .bl c => if c then b env S1 else .ok (.bl false) S1
  | _ => .bad
def eOr (a b : EX) : EX := fun env S => (a env S).bnd fun x S1 => match x with
  | .bl c => if c then .ok (.bl true) S1 else b env S1
  | _ => .bad
def eNot (a : EX) : EX := fun env S => (a env S).bnd fun x S1 => match x with
  | .bl c => .ok (.bl (!c)) S1
  | _ => .bad
def eIf (c : BX) (a b : EX) : EX := fun env S => (c env S).bnd fun k S1 => if k then a env S1 else b env S1
/-- a op b op' c -/
def eChain (op op' : D → D → Option D) (a b c : EX) : EX := fun env S => (a env S).bnd fun x S1 => (b env S1).bnd fun y S2 => match op x y with
  | some (.bl true) => (c env S2).bnd fun z S3 => lift (op' y z) S3
  | some (.bl false) => .ok (.bl false) S2
  | _ => .bad
def addD : D → D → Option D
  | .int i, .int j => some (.int (i + j))
  | .str s, .str t => if s.length + t.length ≤ LINE then some (.str (s ++ t)) else none
  | .tup l, .tup m => if l.length + m.length ≤ LINE then some (.tup (l ++ m)) else none
  | .lst l, .lst m => if l.length + m.length ≤ LINE then some (.lst (l ++ m)) else none
  | _, _ => none
def subD : D → D → Option D
  | .int i, .int j => some (.int (i - j))
  | _, _ => none
def mulOk (i j : Int) : Bool := decide (i.natAbs.log2 + j.natAbs.log2 < 1000000)
def mulD : D → D → Option D
  | .int i, .int j => if mulOk i j then some (.int (i * j)) else none
  | _, _ => none
def fdivD : D → D → Option D
  | .int i, .int j => if 0 < j ∧ j.natAbs.log2 < 9000 then some (.int (i / j)) else none
  | _, _ => none
def modD : D → D → Option D
  | .int i, .int j => if 0 < j then some (.int (i % j)) else none
  | _, _ => none
def powD : D → D → Option D
  | .int i, .int j => if 0 ≤ j ∧ j ≤ 1000000 ∧ i.natAbs < 2 ^ 64 then some (.int (i ^ j.toNat)) else none
  | _, _ => none
def negD : D → Option D
  | .int i => some (.int (-i))
  | _ => none
def leD : D → D → Option D
  | .int i, .int j => some (.bl (decide (i ≤ j)))
  | _, _ => none
def gtD : D → D → Option D
  | .int i, .int j => some (.bl (decide (j < i)))
  | _, _ => none
def isNonD : D → Bool
  | .non => true
  | _ => false
def isND (x y : D) : Option D := if isNonD y then some (.bl (isNonD x)) else none
def notND (x y : D) : Option D := if isNonD y then some (.bl (!isNonD x)) else none
/-- the place of an index -/
def pyIx (n : Nat) (i : Int) : Option Nat := if 0 ≤ i then (if i < n then some i.toNat else none) else if -(n : Int) ≤ i then some (i + n).toNat else none
def atP {α : Type} (xs : List α) (i : Int) : Option α := (pyIx xs.length i).bind fun j => xs[j]?
def idxD : D → D → Option D
  | .tup l, .int i => atP l i
  | .lst l, .int i => atP l i
  | .scr l, .int i => (atP l i).map D.int
  | .str s, .int i => if s.length ≤ LINE then (atP s.cps.toList i).map fun c => .str ⟨#[c]⟩ else none
  | _, _ => none
/-- .. of a changing list -/
def idxM (x y : D) (S : Store) : Option D := match x, y with
  | .ref n, .int i => (match S[n]? with
    | some (.lst l) => atP l i
    | _ => none)
  | _, _ => none
def eIdx (a b : EX) : EX := eOp idxD a b
def eIdxM (a b : EX) : EX := fun env S => (a env S).bnd fun x S1 => (b env S1).bnd fun y S2 => lift (idxM x y S2) S2
/-- o[i] = v, o a changing list -/
def setM (x y v : D) (S : Store) : Option Store := match x, y with
  | .ref n, .int i => (match S[n]? with
    | some (.lst l) => (pyIx l.length i).map fun j => S.set n (.lst (l.set j v))
    | _ => none)
  | _, _ => none
def sSetIt (o i v : EX) : ES := fun env S => (v env S).bnd fun z S1 => (o env S1).bnd fun x S2 => (i env S2).bnd fun y S3 => match setM x y z S3 with
  | some S4 => .ok (.nx env) S4
  | none => .bad
/-- the ends of a slice -/
def cutI (n d : Nat) : Option Int → Nat
  | none => d
  | some i => if i < 0 then (i + n).toNat else min i.toNat n
def cutL {α : Type} (xs : List α) (lo hi : Option Int) : List α := (xs.drop (cutI xs.length 0 lo)).take (cutI xs.length xs.length hi - cutI xs.length 0 lo)
def cutD (x : D) (lo hi : Option Int) : Option D := match x with
  | .tup l => some (.tup (cutL l lo hi))
  | .lst l => some (.lst (cutL l lo hi))
  | .str s => if s.length ≤ LINE then some (.str ⟨(cutL s.cps.toList lo hi).toArray⟩) else none
  | _ => none
/-- a part of a slice -/
abbrev OX := Env → Store → R (Option Int)
def oNone : OX := fun _ S => .ok none S
def oSome (a : EX) : OX := fun env S => (a env S).bnd fun x S1 => match x with
  | .int i => .ok (some i) S1
  | _ => .bad
def eCut (a : EX) (lo hi : OX) : EX := fun env S => (a env S).bnd fun x S1 => (lo env S1).bnd fun l S2 => (hi env S2).bnd fun h S3 => lift (cutD x l h) S3
/-- isinstance: what a thing is -/
inductive Ty where
  | b (n : String) | o (c : String)
  deriving DecidableEq
def tyD : D → Store → Option Ty
  | .non, _ => some (.b "NoneType")
  | .bl _, _ => some (.b "bool")
  | .int _, _ => some (.b "int")
  | .str _, _ => some (.b "str")
  | .tup _, _ => some (.b "tuple")
  | .lst _, _ => some (.b "list")
  | .scr _, _ => some (.b "list")
  | .dct _, _ => some (.b "dict")
  | .obj c _, _ => some (.o c)
  | .ref n, S => match S[n]? with
    | some (.lst _) => some (.b "list")
    | some (.dct _) => some (.b "dict")
    | some (.ins c _) => some (.o c)
    | _ => none
  | _, _ => none
/-- is a thing of the type t one of T -/
def subTy (t T : Ty) : Bool := decide (t = T) || (decide (t = .b "bool") && decide (T = .b "int"))
/-- tys: those that are looked at -/
def eIsI (tys : List Ty) (Tt : Ty) (a : EX) : EX := fun env S => (a env S).bnd fun x S1 => match tyD x S1 with
  | some t => if tys.contains t then .ok (.bl (subTy t Tt)) S1 else .bad
  | none => .bad
def lenD : D → Option D
  | .tup l => some (.int l.length)
  | .lst l => some (.int l.length)
  | .scr l => some (.int l.length)
  | .str s => if s.length ≤ LINE then some (.int s.length) else none
  | .dct l => some (.int l.length)
  | _ => none
def sSet (i : Nat) (e : EX) : ES := fun env S => (e env S).bnd fun d S1 => .ok (.nx (env.set i (some d))) S1
def sSeq (s t : ES) : ES := fun env S => (s env S).bnd fun c S1 => match c with
  | .nx e => t e S1
  | c => .ok c S1
def sPass : ES := fun env S => .ok (.nx env) S
def sIf (c : BX) (s t : ES) : ES := fun env S => (c env S).bnd fun k S1 => if k then s env S1 else t env S1
def sRet (e : EX) : ES := fun env S => (e env S).bnd fun d S1 => .ok (.rt d) S1
def sExpr (e : EX) : ES := fun env S => (e env S).bnd fun _ S1 => .ok (.nx env) S1
def sRaise (c : String) (a : AX) : ES := fun env S => (a env S).bnd fun fs S1 => .err c fs S1
abbrev Pat := D → Env → Option Env
def pName (i : Nat) : Pat := fun d env => some (env.set i (some d))
def pNil : List D → Env → Option Env := fun ds env => match ds with
  | [] => some env
  | _ => none
def pCons (p : Pat) (r : List D → Env → Option Env) : List D → Env → Option Env := fun ds env => match ds with
  | d :: ds => (p d env).bind fun e => r ds e
  | [] => none
def pTup (r : List D → Env → Option Env) : Pat := fun d env => match d with
  | .tup l => r l env
  | _ => none
def sUnp (p : Pat) (e : EX) : ES := fun env S => (e env S).bnd fun d S1 => match p d env with
  | some env' => .ok (.nx env') S1
  | none => .bad
def loop (tg : Pat) (body : ES) : List D → ES
  | [], env, S => .ok (.nx env) S
  | x :: xs, env, S => match tg x env with
    | none => .bad
    | some env1 => (body env1 S).bnd fun c S1 => match c with
      | .nx e => loop tg body xs e S1
      | .ct e => loop tg body xs e S1
      | .bk e => .ok (.nx e) S1
      | .rt d => .ok (.rt d) S1
def sFor (it : AX) (tg : Pat) (body : ES) : ES := fun env S => (it env S).bnd fun xs S1 => loop tg body xs env S1
/-- what raises is not told -/
def R.nox {α : Type} : R α → R α
  | .ok a S => .ok a S
  | _ => .bad
@[simp] theorem nox_ok {α : Type} (a : α) (S : Store) : (R.ok a S).nox = .ok a S := rfl
def lcLoop (tg : Pat) (c : BX) (el : EX) (env : Env) : List D → List D → Store → R (List D)
  | [], acc, S => .ok acc S
  | x :: xs, acc, S => match tg x env with
    | none => .bad
    | some env1 => (c env1 S).nox.bnd fun k S1 => if k then (el env1 S1).nox.bnd fun y S2 => if acc.length < LINE then lcLoop tg c el env xs (acc ++ [y]) S2 else .bad else lcLoop tg c el env xs acc S1
def bYes : BX := fun _ S => .ok true S
/-- a comprehension: vs the slots of its own names -/
def wipeE (env : Env) : List Nat → Env
  | [] => env
  | v :: vs => (wipeE env vs).set v none
def eLC (vs : List Nat) (it : AX) (tg : Pat) (c : BX) (el : EX) : EX := fun env S => (it env S).bnd fun xs S1 => (lcLoop tg c el (wipeE env vs) xs [] S1).bnd fun ys S2 => .ok (.lst ys) S2
/-- a def's body -/
def fnM (n : Nat) (body : ES) : Fn := fun ds S => (body (ds.map some ++ List.replicate (n - ds.length) none) S).bnd fun c S1 => match c with
  | .rt d => .ok d S1
  | .nx _ => .ok .non S1
  | _ => .bad
theorem ofString_inj {s t : String} : Str.ofString s = Str.ofString t ↔ s = t := by
  constructor
  · intro h
    rw [Str.ofString_eq_toList, Str.ofString_eq_toList] at h
    have h1 := congrArg Str.cps h
    have h2 : s.toList.map Char.toNat = t.toList.map Char.toNat := by simpa using h1
    have key : ∀ {l m : List Char}, l.map Char.toNat = m.map Char.toNat → l = m := by
      intro l
      induction l with
      | nil => intro m e; cases m with
        | nil => rfl
        | cons _ _ => cases e
      | cons a l ih => intro m e; cases m with
        | nil => cases e
        | cons b m =>
          rw [List.map_cons, List.map_cons] at e
          injection e with e1 e2
          rw [Char.toNat_inj.mp e1, ih e2]
    exact String.toList_inj.mp (key h2)
  · rintro rfl; rfl
def setF (f : String) (v : D) : List (String × D) → List (String × D)
  | [] => [(f, v)]
  | (g, u) :: r => if g = f then (f, v) :: r else (g, u) :: setF f v r
/-- a value's attribute: cs the classes that have it -/
def attrD (cf : String → List String) (cs : List String) (f : String) : D → Store → Option D
  | .obj c fs, _ => if cs.contains c then ((cf c).zip fs).lookup f else none
  | .ref n, S => match S[n]? with
    | some (.ins c fs) => if cs.contains c then fs.lookup f else none
    | _ => none
  | _, _ => none
def eAttr (cf : String → List String) (cs : List String) (f : String) (a : EX) : EX := fun env S => (a env S).bnd fun x S1 => lift (attrD cf cs f x S1) S1
/-- o.f = v, o a changing thing -/
def sSetAttr (cs : List String) (f : String) (o v : EX) : ES := fun env S => (v env S).bnd fun y S1 => (o env S1).bnd fun x S2 => match x with
  | .ref n => match S2[n]? with
    | some (.ins c fs) => if cs.contains c && decide (fs.length < 1000) then .ok (.nx env) (S2.set n (.ins c (setF f y fs))) else .bad
    | _ => .bad
  | _ => .bad
/-- is it a thing of the class c, without a field m -/
def isInst (cf : String → List String) (c m : String) (x : D) (S : Store) : Bool := match x with
  | .obj c' _ => c' == c && !(cf c).contains m
  | .ref n => match S[n]? with
    | some (.ins c' fs) => c' == c && (fs.lookup m).isNone
    | _ => false
  | _ => false
/-- o.m(..) -/
def eMeth (cf : String → List String) (c mn : String) (m : List D → List D → Store → R D) (o : EX) (fa fk : AX) : EX := fun env S => (o env S).bnd fun x S1 => if isInst cf c mn x S1 then (fa env S1).bnd fun xs S2 => (fk env S2).bnd fun zs S3 => m (x :: xs) zs S3 else .bad
/-- C(..): a new thing -/
def newM (c : String) (m : List D → List D → Store → R D) (xs zs : List D) (S : Store) : R D := (m (.ref S.length :: xs) zs (S ++ [.ins c []])).bnd fun r S1 => match r with
  | .non => .ok (.ref S.length) S1
  | _ => .bad
/-- .. that stands still from then on -/
def frzM (cf : String → List String) (r : R D) : R D := r.bnd fun x S => match x with
  | .ref n => match S[n]? with
    | some (.ins c fs) => if fs.map (·.1) = cf c then .ok (.obj c (fs.map (·.2))) (S.set n .dead) else .bad
    | some (.lst l) => .ok (.lst l) (S.set n .dead)
    | some (.dct l) => .ok (.dct l) (S.set n .dead)
    | _ => .bad
  | _ => .bad
/-- an expression's value stands still from now on -/
def eFrz (cf : String → List String) (a : EX) : EX := fun env S => frzM cf (a env S)
/-- built-ins by values -/
def eB (m : List D → Option D) (fa : AX) : EX := fun env S => (fa env S).bnd fun xs S1 => lift (m xs) S1
def bLen : List D → Option D
  | [x] => lenD x
  | _ => none
def bAbs : List D → Option D
  | [.int i] => some (.int (if i < 0 then -i else i))
  | _ => none
def bMax2 : List D → Option D
  | [.int i, .int j] => some (.int (if j > i then j else i))
  | _ => none
def bMin2 : List D → Option D
  | [.int i, .int j] => some (.int (if j < i then j else i))
  | _ => none
def divOk (j : Int) : Bool := decide (0 < j ∧ j < 1152921504606846976)
def bDivmod : List D → Option D
  | [.int i, .int j] => if divOk j then some (.tup [.int (i / j), .int (i % j)]) else none
  | _ => none
/-- l.append(x) -/
def appM (l x : D) (S : Store) : Option Store := match l with
  | .ref n => (match S[n]? with
    | some (.lst xs) => if xs.length < LINE then some (S.set n (.lst (xs ++ [x]))) else none
    | _ => none)
  | _ => none
def eApp (o : EX) (x : EX) : EX := fun env S => (o env S).bnd fun l S1 => if tyD l S1 = some (.b "list") then (x env S1).bnd fun y S2 => match appM l y S2 with
  | some S3 => .ok .non S3
  | none => .bad else .bad
end Ro
end
section
set_option Elab.async false
set_option linter.all false
set_option maxRecDepth 100000
set_option maxHeartbeats 4000000
namespace Ro
open PySem PySem.Spec PyProof.Rows L2
abbrev St := L2.St
structure Wd where
  G : Hp
  am : List Addr
  hid : List (Addr × List D) := []
/-- the exception in hand: where it lies, its dict, its class -/
structure XC where
  a : Addr
  dx : Option Addr
  c : String
/-- what is told of the text -/
structure Tb where
  K : PySem.W.Frag
  cf : String → List String
  tabs : List (Addr × Str)
  xc : Option XC := none
mutual
inductive Rep (T : Tb) (w : Wd) : D → V → Prop
  | non : Rep T w .non .non
  | bl (b : Bool) : Rep T w (.bl b) (.bl b)
  | int (i : Int) : Rep T w (.int i) (.int i)
  | str (s : Str) : Rep T w (.str s) (.str s)
  | tup {l : List D} {a : Addr} {vs : List V} (h : SqT T.K w.G a vs) (r : Reps T w l vs) : Rep T w (.tup l) (.ref a)
  | scr {l : List Int} {a : Addr} (h : SqL T.K w.G a (l.map V.int)) : Rep T w (.scr l) (.ref a)
  | lst {l : List D} {a : Addr} {vs : List V} (h : w.G a = some (.lst vs)) (r : Reps T w l vs) : Rep T w (.lst l) (.ref a)
  | dct {l : List (D × D)} {a : Addr} {kvs : List (Key × V)} (h : w.G a = some (.dK kvs)) (r : RepK T w l kvs) : Rep T w (.dct l) (.ref a)
  | obj {c : String} {l : List D} {a dx : Addr} {fs : List (Str × V)} (h : w.G a = some (.ins (He.ga T.K (c : Str)) dx fs)) (n : fs.map (·.1) = (T.cf c).map Str.ofString) (r : Reps T w l (fs.map (·.2))) : Rep T w (.obj c l) (.ref a)
  | ref {n : Nat} {a : Addr} (h : w.am[n]? = some a) : Rep T w (.ref n) (.ref a)
  | fn (x : String) : Rep T w (.fn x) (.ref (He.ga T.K (x : Str)))
  | xc0 {z : XC} (h : T.xc = some z) (hd : z.dx = none) : Rep T w (.thk 0 []) (.ref z.a)
  | xc1 {z : XC} {dd : Addr} {gs : List (Str × V)} {l : List D} (h : T.xc = some z) (hd : z.dx = some dd) (g : w.G dd = some (.xd gs)) (ex : ∀ f ∈ T.cf z.c, ∃ v, gs.lookup (Str.ofString f) = some v) (r : Reps T w l ((T.cf z.c).map fun f : String => (gs.lookup (Str.ofString f)).getD .non)) : Rep T w (.thk 0 l) (.ref z.a)
inductive Reps (T : Tb) (w : Wd) : List D → List V → Prop
  | nil : Reps T w [] []
  | cons {d : D} {v : V} {l : List D} {vs : List V} (h : Rep T w d v) (r : Reps T w l vs) : Reps T w (d :: l) (v :: vs)
inductive RepK (T : Tb) (w : Wd) : List (D × D) → List (Key × V) → Prop
  | nil : RepK T w [] []
  | int {i : Int} {d : D} {v : V} {l : List (D × D)} {vs : List (Key × V)} (h : Rep T w d v) (r : RepK T w l vs) : RepK T w ((.int i, d) :: l) ((.inl i, v) :: vs)
  | str {s : Str} {d : D} {v : V} {l : List (D × D)} {vs : List (Key × V)} (h : Rep T w d v) (r : RepK T w l vs) : RepK T w ((.str s, d) :: l) ((.inr s, v) :: vs)
end
/-- the world has grown; the lists that are being made stay -/
structure Wd.sb (w w' : Wd) : Prop where
  G : ∀ a o, w.G a = some o → w'.G a = some o
  am : ∃ t, w'.am = w.am ++ t
structure Wd.le (w w' : Wd) : Prop where
  tosb : w.sb w'
  hid : w'.hid = w.hid
theorem Wd.sb.trans {w w1 w2 : Wd} (a : w.sb w1) (b : w1.sb w2) : w.sb w2 := ⟨fun c o h => b.G c o (a.G c o h), by
  obtain ⟨t, e⟩ := a.am
  obtain ⟨u, e'⟩ := b.am
  exact ⟨t ++ u, by rw [e', e, List.append_assoc]⟩⟩
theorem Wd.le.refl (w : Wd) : w.le w := ⟨⟨fun _ _ h => h, [], by simp⟩, rfl⟩
theorem Wd.le.trans {w w1 w2 : Wd} (a : w.le w1) (b : w1.le w2) : w.le w2 := ⟨a.tosb.trans b.tosb, b.hid.trans a.hid⟩
theorem Wd.sb.at {w w' : Wd} (h : w.sb w') {n : Nat} {a : Addr} (e : w.am[n]? = some a) : w'.am[n]? = some a := by
  obtain ⟨t, q⟩ := h.am
  have hl := (List.getElem?_eq_some_iff.mp e).1
  rw [q, List.getElem?_append_left hl]
  exact e
theorem rd_le {w w' : Wd} (h : w.sb w') {a : Addr} {u : HO} (r : Rd w.G a u) : Rd w'.G a u := r.elim (fun r => .inl (h.G _ _ r)) fun ⟨o, r⟩ => .inr ⟨o, h.G _ _ r⟩
theorem sqt_le {K : PySem.W.Frag} {w w' : Wd} (h : w.sb w') {a : Addr} {xs : List V} (r : SqT K w.G a xs) : SqT K w'.G a xs := r.elim (fun r => .inl (rd_le h r)) .inr
theorem sql_le {K : PySem.W.Frag} {w w' : Wd} (h : w.sb w') {a : Addr} {xs : List V} (r : SqL K w.G a xs) : SqL K w'.G a xs := r.elim (fun r => .inl (rd_le h r)) .inr
theorem Wd.le.app (w : Wd) (p : Addr) : w.le ⟨w.G, w.am ++ [p], w.hid⟩ := ⟨⟨fun _ _ h => h, [p], rfl⟩, rfl⟩
mutual
theorem Rep.monoS {T : Tb} {w w' : Wd} (h : w.sb w') : ∀ {d : D} {v : V}, Rep T w d v → Rep T w' d v
  | _, _, .non => .non
  | _, _, .bl b => .bl b
  | _, _, .int i => .int i
  | _, _, .str s => .str s
  | _, _, .tup q r => .tup (sqt_le h q) (r.monoS h)
  | _, _, .scr q => .scr (sql_le h q)
  | _, _, .lst q r => .lst (h.G _ _ q) (r.monoS h)
  | _, _, .dct q r => .dct (h.G _ _ q) (r.monoS h)
  | _, _, .obj q n r => .obj (h.G _ _ q) n (r.monoS h)
  | _, _, .ref q => .ref (h.at q)
  | _, _, .fn x => .fn x
  | _, _, .xc0 q hd => .xc0 q hd
  | _, _, .xc1 q hd g ex r => .xc1 q hd (h.G _ _ g) ex (r.monoS h)
theorem Reps.monoS {T : Tb} {w w' : Wd} (h : w.sb w') : ∀ {l : List D} {vs : List V}, Reps T w l vs → Reps T w' l vs
  | _, _, .nil => .nil
  | _, _, .cons q r => .cons (q.monoS h) (r.monoS h)
theorem RepK.monoS {T : Tb} {w w' : Wd} (h : w.sb w') : ∀ {l : List (D × D)} {vs : List (Key × V)}, RepK T w l vs → RepK T w' l vs
  | _, _, .nil => .nil
  | _, _, .int q r => .int (q.monoS h) (r.monoS h)
  | _, _, .str q r => .str (q.monoS h) (r.monoS h)
end
theorem Rep.mono {T : Tb} {w w' : Wd} (h : w.le w') {d : D} {v : V} (r : Rep T w d v) : Rep T w' d v := r.monoS h.tosb
theorem Reps.mono {T : Tb} {w w' : Wd} (h : w.le w') {d : List D} {v : List V} (r : Reps T w d v) : Reps T w' d v := r.monoS h.tosb
theorem RepK.mono {T : Tb} {w w' : Wd} (h : w.le w') {d : List (D × D)} {v : List (Key × V)} (r : RepK T w d v) : RepK T w' d v := r.monoS h.tosb
theorem Reps.length {T : Tb} {w : Wd} : ∀ {l : List D} {vs : List V}, Reps T w l vs → l.length = vs.length
  | _, _, .nil => rfl
  | _, _, .cons _ r => by rw [List.length_cons, List.length_cons, r.length]
theorem Reps.get {T : Tb} {w : Wd} : ∀ {l : List D} {vs : List V} {i : Nat} {d : D}, Reps T w l vs → l[i]? = some d → ∃ v, vs[i]? = some v ∧ Rep T w d v
  | _, _, _, _, .nil, e => by simp at e
  | _, _, 0, _, .cons q _, e => by simp at e; subst e; exact ⟨_, rfl, q⟩
  | _, _, i + 1, d, .cons _ r, e => by
    obtain ⟨v, h1, h2⟩ := Reps.get (i := i) (d := d) r (by simpa using e)
    exact ⟨v, by simpa using h1, h2⟩
theorem Reps.append {T : Tb} {w : Wd} : ∀ {l m : List D} {vs us : List V}, Reps T w l vs → Reps T w m us → Reps T w (l ++ m) (vs ++ us)
  | _, _, _, _, .nil, s => s
  | _, _, _, _, .cons q r, s => .cons q (Reps.append r s)
theorem Reps.take {T : Tb} {w : Wd} : ∀ {l : List D} {vs : List V} (n : Nat), Reps T w l vs → Reps T w (l.take n) (vs.take n)
  | _, _, 0, _ => .nil
  | _, _, _ + 1, .nil => .nil
  | _, _, n + 1, .cons q r => .cons q (Reps.take n r)
theorem Reps.drop {T : Tb} {w : Wd} : ∀ {l : List D} {vs : List V} (n : Nat), Reps T w l vs → Reps T w (l.drop n) (vs.drop n)
  | _, _, 0, r => r
  | _, _, _ + 1, .nil => .nil
  | _, _, n + 1, .cons _ r => Reps.drop n r
theorem Reps.set {T : Tb} {w : Wd} {d : D} {v : V} (q : Rep T w d v) : ∀ {l : List D} {vs : List V} (i : Nat), Reps T w l vs → Reps T w (l.set i d) (vs.set i v)
  | _, _, _, .nil => .nil
  | _, _, 0, .cons _ r => .cons q r
  | _, _, i + 1, .cons p r => .cons p (Reps.set q i r)
theorem Reps.reverse {T : Tb} {w : Wd} : ∀ {l : List D} {vs : List V}, Reps T w l vs → Reps T w l.reverse vs.reverse
  | _, _, .nil => .nil
  | _, _, .cons q r => by rw [List.reverse_cons, List.reverse_cons]; exact (Reps.reverse r).append (.cons q .nil)
def CellR (T : Tb) (w : Wd) (H : Hp) (a : Addr) : Cell → Prop
  | .dead => True
  | .lst l => ∃ vs, H a = some (.lst vs) ∧ Reps T w l vs
  | .dct l => ∃ kvs, H a = some (.dK kvs) ∧ RepK T w l kvs
  | .ins c fs => ∃ dx gs, H a = some (.ins (He.ga T.K (c : Str)) dx gs) ∧ gs.map (·.1) = fs.map (fun p => Str.ofString p.1) ∧ Reps T w (fs.map (·.2)) (gs.map (·.2))
  | .dcT l => ∃ kvs : List (List Key × V), H a = some (.dT kvs) ∧ kvs.map (·.1) = l.map (fun p => p.1.map Sum.inl) ∧ Reps T w (l.map (·.2)) (kvs.map (·.2))
structure WR (T : Tb) (w : Wd) (S : Store) (H : Hp) : Prop where
  sub : ∀ a o, w.G a = some o → H a = some o
  len : w.am.length = S.length
  nd : w.am.Nodup
  has : ∀ a ∈ w.am, ∃ o, H a = some o ∧ ∀ ps, o ≠ .tbl ps
  out : ∀ (n : Nat) c a, S[n]? = some c → w.am[n]? = some a → c ≠ .dead → w.G a = none
  cell : ∀ (n : Nat) c a, S[n]? = some c → w.am[n]? = some a → CellR T w H a c
  tabs : LamX.Tabs T.tabs H
  hn : (w.hid.map (·.1)).Nodup
  hd : ∀ p ∈ w.hid, w.G p.1 = none ∧ p.1 ∉ w.am ∧ ∃ vs, H p.1 = some (.lst vs) ∧ Reps T w p.2 vs
  nt : ∀ a ps, w.G a ≠ some (.tbl ps)
/-- .. of a frame's slots -/
def ER (T : Tb) (w : Wd) (env : Env) (σ : St) : Prop := env.length = σ.length ∧ ∀ (i : Nat) d, env[i]? = some (some d) → ∃ v, σ[i]? = some (some v) ∧ Rep T w d v
theorem ER.monoS {T : Tb} {w w' : Wd} (h : w.sb w') {env : Env} {σ : St} (r : ER T w env σ) : ER T w' env σ := ⟨r.1, fun i d e => by
  obtain ⟨v, h1, h2⟩ := r.2 i d e
  exact ⟨v, h1, h2.monoS h⟩⟩
theorem ER.mono {T : Tb} {w w' : Wd} (h : w.le w') {env : Env} {σ : St} (r : ER T w env σ) : ER T w' env σ := ⟨r.1, fun i d e => by
  obtain ⟨v, h1, h2⟩ := r.2 i d e
  exact ⟨v, h1, h2.mono h⟩⟩
theorem ER.set {T : Tb} {w : Wd} {env : Env} {σ : St} {d : D} {v : V} (r : ER T w env σ) (q : Rep T w d v) (i : Nat) : ER T w (env.set i (some d)) (σ.set i (some v)) := ⟨by rw [List.length_set, List.length_set, r.1], fun j e h => by
  by_cases hj : i = j
  · subst hj
    rw [List.getElem?_set] at h ⊢
    simp only [if_true] at h ⊢
    by_cases hl : i < env.length
    · rw [if_pos hl] at h
      have e' : d = e := by simpa using h
      subst e'
      rw [if_pos (by rw [← r.1]; exact hl)]
      exact ⟨v, rfl, q⟩
    · rw [if_neg hl] at h
      cases h
  · rw [List.getElem?_set_ne hj] at h ⊢
    exact r.2 j e h⟩
/-- an exception as it lies -/
def XRep (T : Tb) (w : Wd) (H : Hp) (c : String) (fs : List D) (cls : Value) (dx : Option Addr) : Prop :=
  cls = .ref (He.ga T.K (c : Str)) ∧ ((fs = [] ∧ dx = none) ∨ ∃ a gs, dx = some a ∧ H a = some (.xd gs) ∧ (∀ f ∈ T.cf c, ∃ v, gs.lookup (Str.ofString f) = some v) ∧ Reps T w fs ((T.cf c).map fun f : String => (gs.lookup (Str.ofString f)).getD .non))
/-- a result, as it must lie -/
def RP {α : Type} (r : R α) (Pk : α → Store → Prop) (Pe : String → List D → Store → Prop) : Prop := match r with
  | .ok a S => Pk a S
  | .err c fs S => Pe c fs S
  | .bad => False
theorem RP.mono {α : Type} {r : R α} {Pk Pk' : α → Store → Prop} {Pe Pe' : String → List D → Store → Prop} (h : RP r Pk Pe) (hk : ∀ a S, Pk a S → Pk' a S) (he : ∀ c fs S, Pe c fs S → Pe' c fs S) : RP r Pk' Pe' := by
  cases r with
  | ok a S => exact hk _ _ h
  | err c fs S => exact he _ _ _ h
  | bad => exact h
theorem RP.bnd {α β : Type} {r : R α} {f : α → Store → R β} {Pk : β → Store → Prop} {Pe : String → List D → Store → Prop} (h : RP (r.bnd f) Pk Pe) : RP r (fun a S => RP (f a S) Pk Pe) Pe := by
  cases r with
  | ok a S => exact h
  | err c fs S => exact h
  | bad => exact h
/-- the exception's wish -/
def XW (T : Tb) (w : Wd) (E : XK) : String → List D → Store → Prop := fun c fs S => ∀ w' H' cls dx, w.le w' → WR T w' S H' → XRep T w' H' c fs cls dx → E cls dx H'
theorem XW.le {T : Tb} {w w1 : Wd} {E : XK} (h : w.le w1) {c : String} {fs : List D} {S : Store} (x : XW T w E c fs S) : XW T w1 E c fs S := fun w' H' cls dx l r q => x w' H' cls dx (h.trans l) r q
/-- readings -/
def tI (T : Tb) (E : XK) (f : EX) : TE := fun σ H Q => ∃ w env S, WR T w S H ∧ ER T w env σ ∧ RP (f env S) (fun d S' => ∀ w' H' v, w.le w' → WR T w' S' H' → Rep T w' d v → Q v H') (XW T w E)
def tIb (T : Tb) (E : XK) (f : BX) : TT := fun σ H Q => ∃ w env S, WR T w S H ∧ ER T w env σ ∧ RP (f env S) (fun b S' => ∀ w' H', w.le w' → WR T w' S' H' → Q b H') (XW T w E)
def tIa (T : Tb) (E : XK) (f : AX) : TA := fun σ H Q => ∃ w env S, WR T w S H ∧ ER T w env σ ∧ RP (f env S) (fun ds S' => ∀ w' H' vs, w.le w' → WR T w' S' H' → Reps T w' ds vs → Q vs H') (XW T w E)
def CP (T : Tb) (w : Wd) (D : Ends) (c : Ctl) (S : Store) : Prop := match c with
  | .nx e => ∀ w' H' σ', w.le w' → WR T w' S H' → ER T w' e σ' → D.nx σ' H'
  | .bk e => ∀ w' H' σ', w.le w' → WR T w' S H' → ER T w' e σ' → D.bk σ' H'
  | .ct e => ∀ w' H' σ', w.le w' → WR T w' S H' → ER T w' e σ' → D.ct σ' H'
  | .rt d => ∀ w' H' v, w.le w' → WR T w' S H' → Rep T w' d v → D.rt v H'
def tIs (T : Tb) (E : XK) (f : ES) : TS := fun D σ H => ∃ w env S, WR T w S H ∧ ER T w env σ ∧ RP (f env S) (CP T w D) (XW T w E)
/-- judgements -/
def IE (T : Tb) (E : XK) (X : Cx) (e : Expr) (f : EX) : Prop := PE X e (tI T E f)
def IB (T : Tb) (E : XK) (X : Cx) (e : Expr) (f : BX) : Prop := PT X e (tIb T E f)
def IW (T : Tb) (E : XK) (X : Cx) (e : Expr) (f : BX) : Prop := PW X e (tIb T E f)
def IA (T : Tb) (E : XK) (X : Cx) (es : List Expr) (f : AX) : Prop := PA X es (tIa T E f)
def IS (T : Tb) (E : XK) (X : Cx) (st : Stmt) (f : ES) : Prop := PS X st (tIs T E f)
def ISs (T : Tb) (E : XK) (X : Cx) (sts : List Stmt) (f : ES) : Prop := PSs X sts (tIs T E f)
theorem PE.mono {X : Cx} {e : Expr} {t t' : TE} (h : PE X e t) (k : ∀ σ H Q, t' σ H Q → t σ H Q) : PE X e t' := ⟨fun pins s σ H Q I q => h.run pins s σ H Q I (k _ _ _ q)⟩
theorem PT.mono {X : Cx} {e : Expr} {t t' : TT} (h : PT X e t) (k : ∀ σ H Q, t' σ H Q → t σ H Q) : PT X e t' := ⟨fun pins s σ H Q I q => h.run pins s σ H Q I (k _ _ _ q)⟩
theorem PW.mono {X : Cx} {e : Expr} {t t' : TT} (h : PW X e t) (k : ∀ σ H Q, t' σ H Q → t σ H Q) : PW X e t' := ⟨fun wh pins s σ H Q I q => h.run wh pins s σ H Q I (k _ _ _ q)⟩
theorem PA.mono {X : Cx} {es : List Expr} {t t' : TA} (h : PA X es t) (k : ∀ σ H Q, t' σ H Q → t σ H Q) : PA X es t' := ⟨fun pos pins s σ H Q I q => h.run pos pins s σ H Q I (k _ _ _ q)⟩
theorem PS.mono {X : Cx} {st : Stmt} {t t' : TS} (h : PS X st t) (k : ∀ D σ H, t' D σ H → t D σ H) : PS X st t' := ⟨fun pins s σ H D I q => h.run pins s σ H D I (k _ _ _ q)⟩
theorem PSs.mono {X : Cx} {st : List Stmt} {t t' : TS} (h : PSs X st t) (k : ∀ D σ H, t' D σ H → t D σ H) : PSs X st t' := ⟨fun pins s σ H D I q => h.run pins s σ H D I (k _ _ _ q)⟩
theorem CellR.keep {T : Tb} {w w' : Wd} {H H' : Hp} {a : Addr} {c : Cell} (h : CellR T w H a c) (l : w.sb w') (k : ∀ o, H a = some o → H' a = some o) : CellR T w' H' a c := by
  cases c with
  | dead => trivial
  | lst l1 =>
    obtain ⟨vs, h1, h2⟩ := h
    exact ⟨vs, k _ h1, h2.monoS l⟩
  | dct l1 =>
    obtain ⟨vs, h1, h2⟩ := h
    exact ⟨vs, k _ h1, h2.monoS l⟩
  | ins c fs =>
    obtain ⟨dx, gs, h1, h2, h3⟩ := h
    exact ⟨dx, gs, k _ h1, h2, h3.monoS l⟩
  | dcT l1 =>
    obtain ⟨kvs, h1, h2, h3⟩ := h
    exact ⟨kvs, k _ h1, h2, h3.monoS l⟩
/-- neither a table nor a code object -/
def NoTab (o : HO) : Prop := (∀ ps, o ≠ .tbl ps) ∧ ∀ c q, o ≠ LamX.CodeO c q
theorem noTab_lst {xs : List V} : NoTab (.lst xs) := ⟨fun _ z => (by cases z), fun _ _ z => (by unfold LamX.CodeO at z; cases z)⟩
theorem noTab_dK {xs : List (Key × V)} : NoTab (.dK xs) := ⟨fun _ z => (by cases z), fun _ _ z => (by unfold LamX.CodeO at z; cases z)⟩
theorem noTab_dT {xs : List (List Key × V)} : NoTab (.dT xs) := ⟨fun _ z => (by cases z), fun _ _ z => (by unfold LamX.CodeO at z; cases z)⟩
theorem noTab_ins {C dx : Addr} {fs : List (Str × V)} : NoTab (.ins C dx fs) := ⟨fun _ z => (by cases z), fun _ _ z => (by unfold LamX.CodeO at z; cases z)⟩
theorem tabs_upd {ts : List (Addr × Str)} {H : Hp} {a : Addr} {o o' : HO} (t : LamX.Tabs ts H) (ha : H a = some o) (n : NoTab o) : LamX.Tabs ts (upd H a o') := fun p hp => by
  obtain ⟨ps, h1, h2, h3⟩ := t p hp
  refine ⟨ps, ?_, h2, fun pos cv hc => ?_⟩
  · rw [upd_ne (fun z => by rw [z, ha] at h1; exact n.1 _ (Option.some.inj h1))]
    exact h1
  · obtain ⟨c, e1, e2⟩ := h3 pos cv hc
    refine ⟨c, e1, ?_⟩
    rw [upd_ne (fun z => by rw [z, ha] at e2; exact n.2 _ _ (Option.some.inj e2))]
    exact e2
theorem tabs_new {ts : List (Addr × Str)} {H : Hp} {a : Addr} {o' : HO} (t : LamX.Tabs ts H) (ha : H a = none) : LamX.Tabs ts (upd H a o') := t.ext fun b o e => by
  rw [upd_ne (ne_of_none e ha)]
  exact e
theorem CellR.noTab {T : Tb} {w : Wd} {H : Hp} {a : Addr} {c : Cell} (h : CellR T w H a c) (hc : c ≠ .dead) : ∃ o, H a = some o ∧ NoTab o := by
  cases c with
  | dead => exact absurd rfl hc
  | lst l1 =>
    obtain ⟨vs, h1, h2⟩ := h
    exact ⟨_, h1, noTab_lst⟩
  | dct l1 =>
    obtain ⟨vs, h1, h2⟩ := h
    exact ⟨_, h1, noTab_dK⟩
  | dcT l1 =>
    obtain ⟨vs, h1, _⟩ := h
    exact ⟨_, h1, noTab_dT⟩
  | ins c fs =>
    obtain ⟨dx, gs, h1, h2, h3⟩ := h
    exact ⟨_, h1, noTab_ins⟩
section
variable {T : Tb} {w : Wd} {S : Store} {H : Hp} {p a : Addr} {o : HO}
theorem WR.free (r : WR T w S H) (hp : H p = none) : w.G p = none := by
  cases e : w.G p with
  | none => rfl
  | some o => rw [r.sub _ _ e] at hp; cases hp
/-- a new thing that stands still -/
theorem WR.new (r : WR T w S H) (hp : H p = none) (o : HO) (ho : ∀ ps, o ≠ .tbl ps := by intro _ z; cases z) : w.le ⟨upd w.G p o, w.am, w.hid⟩ ∧ WR T ⟨upd w.G p o, w.am, w.hid⟩ S (upd H p o) := by
  have hG := r.free hp
  have l : w.le ⟨upd w.G p o, w.am, w.hid⟩ := ⟨⟨fun a u e => by show upd w.G p o a = some u; rw [upd_ne (ne_of_none e hG)]; exact e, [], by simp⟩, rfl⟩
  have k : ∀ a u, H a = some u → upd H p o a = some u := fun a u e => by rw [upd_ne (ne_of_none e hp)]; exact e
  refine ⟨l, ?_, r.len, r.nd, fun a ha => ?_, fun n c a h1 h2 h3 => ?_, fun n c a h1 h2 => ?_, tabs_new r.tabs hp, r.hn, fun q hq => ?_, fun a ps e => ?_⟩
  · intro a u e
    have e : upd w.G p o a = some u := e
    by_cases h : a = p
    · subst h
      rw [upd_same] at e ⊢
      exact e
    · rw [upd_ne h] at e ⊢
      exact r.sub _ _ e
  · obtain ⟨u, e, nt⟩ := r.has a ha
    exact ⟨u, k _ _ e, nt⟩
  · show upd w.G p o a = none
    obtain ⟨u, e, _⟩ := (r.cell n c a h1 h2).noTab h3
    rw [upd_ne (ne_of_none e hp)]
    exact r.out n c a h1 h2 h3
  · exact (r.cell n c a h1 h2).keep l.tosb fun u e => k _ _ e
  · obtain ⟨z1, z2, vs, z3, z4⟩ := r.hd q hq
    refine ⟨?_, z2, vs, k _ _ z3, z4.mono l⟩
    show upd w.G p o q.1 = none
    rw [upd_ne (ne_of_none z3 hp)]
    exact z1
  · have e : upd w.G p o a = some (.tbl ps) := e
    by_cases h : a = p
    · rw [h, upd_same] at e
      exact ho ps (Option.some.inj e)
    · rw [upd_ne h] at e
      exact r.nt a ps e
/-- .. and its like, by the heap alone -/
theorem WR.grow {H' : Hp} (r : WR T w S H) (k : ∀ a u, H a = some u → H' a = some u) : WR T w S H' :=
  ⟨fun a u e => k _ _ (r.sub _ _ e), r.len, r.nd, fun a ha => (r.has a ha).elim fun u e => ⟨u, k _ _ e.1, e.2⟩, r.out, fun n c a h1 h2 => (r.cell n c a h1 h2).keep (Wd.le.refl _).tosb fun u e => k _ _ e, r.tabs.ext k, r.hn, fun q hq => (r.hd q hq).elim fun z1 z => ⟨z1, z.1, z.2.elim fun vs z => ⟨vs, k _ _ z.1, z.2⟩⟩, r.nt⟩
/-- a new thing that will change -/
theorem WR.alloc (r : WR T w S H) (hp : H p = none) {o : HO} {c : Cell} (hc : CellR T ⟨w.G, w.am ++ [p], w.hid⟩ (upd H p o) p c) (ho : ∀ ps, o ≠ .tbl ps := by intro _ z; cases z) :
    w.le ⟨w.G, w.am ++ [p], w.hid⟩ ∧ WR T ⟨w.G, w.am ++ [p], w.hid⟩ (S ++ [c]) (upd H p o) ∧ (w.am ++ [p])[S.length]? = some p := by
  have l : w.le ⟨w.G, w.am ++ [p], w.hid⟩ := Wd.le.app w p
  have k : ∀ a u, H a = some u → upd H p o a = some u := fun a u e => by rw [upd_ne (ne_of_none e hp)]; exact e
  have hn : p ∉ w.am := fun z => by
    obtain ⟨u, e, _⟩ := r.has p z
    rw [hp] at e
    cases e
  have at_ : (w.am ++ [p])[S.length]? = some p := by rw [← r.len]; simp
  refine ⟨l, ⟨fun a u e => k _ _ (r.sub _ _ e), by simp [r.len], ?_, fun a ha => ?_, fun n c1 a h1 h2 h3 => ?_, fun n c1 a h1 h2 => ?_, tabs_new r.tabs hp, r.hn, fun q hq => ?_, r.nt⟩, at_⟩
  · exact List.nodup_append.mpr ⟨r.nd, by simp, fun a ha b hb => by
      have e : b = p := by simpa using hb
      subst e
      exact fun z => hn (z ▸ ha)⟩
  · rcases List.mem_append.mp ha with ha | ha
    · obtain ⟨u, e, nt⟩ := r.has a ha
      exact ⟨u, k _ _ e, nt⟩
    · have e : a = p := by simpa using ha
      subst e
      exact ⟨o, upd_same, ho⟩
  · have h2 : (w.am ++ [p])[n]? = some a := h2
    by_cases hl : n < S.length
    · rw [List.getElem?_append_left hl] at h1
      rw [List.getElem?_append_left (by rw [r.len]; exact hl)] at h2
      exact r.out n c1 a h1 h2 h3
    · have hle := (List.getElem?_eq_some_iff.mp h1).1
      rw [List.length_append, List.length_singleton] at hle
      have e : n = S.length := by omega
      subst e
      rw [at_] at h2
      cases h2
      exact r.free hp
  · have h2 : (w.am ++ [p])[n]? = some a := h2
    by_cases hl : n < S.length
    · rw [List.getElem?_append_left hl] at h1
      rw [List.getElem?_append_left (by rw [r.len]; exact hl)] at h2
      exact (r.cell n c1 a h1 h2).keep l.tosb fun u e => k _ _ e
    · have hle := (List.getElem?_eq_some_iff.mp h1).1
      rw [List.length_append, List.length_singleton] at hle
      have e : n = S.length := by omega
      subst e
      rw [at_] at h2
      cases h2
      have e1 : c1 = c := by
        rw [List.getElem?_append_right (Nat.le_refl _)] at h1
        simpa using h1.symm
      subst e1
      exact hc
  · obtain ⟨z1, z2, vs, z3, z4⟩ := r.hd q hq
    refine ⟨z1, fun z => ?_, vs, k _ _ z3, z4.mono l⟩
    rcases List.mem_append.mp z with z | z
    · exact z2 z
    · have e : q.1 = p := by simpa using z
      rw [e, hp] at z3
      cases z3
theorem WR.at_ne (r : WR T w S H) {n m : Nat} {a b : Addr} (h1 : w.am[n]? = some a) (h2 : w.am[m]? = some b) (h : n ≠ m) : a ≠ b := fun z => by
  subst z
  obtain ⟨l1, e1⟩ := List.getElem?_eq_some_iff.mp h1
  obtain ⟨l2, e2⟩ := List.getElem?_eq_some_iff.mp h2
  exact h ((List.getElem_inj r.nd).mp (e1.trans e2.symm))
/-- a thing is changed -/
theorem WR.write (r : WR T w S H) {n : Nat} {c c' : Cell} (hS : S[n]? = some c) (ha : w.am[n]? = some a) (hd : c ≠ .dead) {o' : HO} (hc : CellR T w (upd H a o') a c') (ho' : ∀ ps, o' ≠ .tbl ps := by intro _ z; cases z) : WR T w (S.set n c') (upd H a o') := by
  obtain ⟨o, e, nt⟩ := (r.cell n c a hS ha).noTab hd
  have hG := r.out n c a hS ha hd
  have hl := (List.getElem?_eq_some_iff.mp hS).1
  refine ⟨fun b u q => ?_, by rw [List.length_set]; exact r.len, r.nd, fun b hb => ?_, fun m c1 b h1 h2 h3 => ?_, fun m c1 b h1 h2 => ?_, tabs_upd r.tabs e nt, r.hn, fun q hq => ?_, r.nt⟩
  · rw [upd_ne (ne_of_none q hG)]
    exact r.sub _ _ q
  · obtain ⟨u, q, nt⟩ := r.has b hb
    by_cases h : b = a
    · subst h
      exact ⟨o', upd_same, ho'⟩
    · exact ⟨u, by rw [upd_ne h]; exact q, nt⟩
  · by_cases h : m = n
    · subst h
      rw [ha] at h2
      cases h2
      exact hG
    · rw [List.getElem?_set_ne (Ne.symm h)] at h1
      exact r.out m c1 b h1 h2 h3
  · by_cases h : m = n
    · subst h
      rw [ha] at h2
      cases h2
      rw [List.getElem?_set_self hl] at h1
      cases h1
      exact hc
    · rw [List.getElem?_set_ne (Ne.symm h)] at h1
      have hne := r.at_ne h2 ha h
      exact (r.cell m c1 b h1 h2).keep (Wd.le.refl _).tosb fun u q => by rw [upd_ne hne]; exact q
  · obtain ⟨z1, z2, vs, z3, z4⟩ := r.hd q hq
    exact ⟨z1, z2, vs, by rw [upd_ne (fun z => z2 (by rw [z]; exact List.mem_of_getElem? ha))]; exact z3, z4⟩
/-- a thing stands still from now on -/
theorem WR.freeze (r : WR T w S H) {n : Nat} {c : Cell} (hS : S[n]? = some c) (ha : w.am[n]? = some a) (hd : c ≠ .dead) (ho : H a = some o) : w.le ⟨upd w.G a o, w.am, w.hid⟩ ∧ WR T ⟨upd w.G a o, w.am, w.hid⟩ (S.set n .dead) H := by
  have hG := r.out n c a hS ha hd
  have hl := (List.getElem?_eq_some_iff.mp hS).1
  have l : w.le ⟨upd w.G a o, w.am, w.hid⟩ := ⟨⟨fun b u e => by show upd w.G a o b = some u; rw [upd_ne (ne_of_none e hG)]; exact e, [], by simp⟩, rfl⟩
  refine ⟨l, fun b u e => ?_, by rw [List.length_set]; exact r.len, r.nd, r.has, fun m c1 b h1 h2 h3 => ?_, fun m c1 b h1 h2 => ?_, r.tabs, r.hn, fun q hq => ?_, fun b ps e => ?_⟩
  · have e : upd w.G a o b = some u := e
    by_cases h : b = a
    · subst h
      rw [upd_same] at e
      rw [← e]
      exact ho
    · rw [upd_ne h] at e
      exact r.sub _ _ e
  · have h2 : w.am[m]? = some b := h2
    by_cases h : m = n
    · subst h
      rw [List.getElem?_set_self hl] at h1
      cases h1
      exact absurd rfl h3
    · rw [List.getElem?_set_ne (Ne.symm h)] at h1
      show upd w.G a o b = none
      rw [upd_ne (r.at_ne h2 ha h)]
      exact r.out m c1 b h1 h2 h3
  · have h2 : w.am[m]? = some b := h2
    by_cases h : m = n
    · subst h
      rw [List.getElem?_set_self hl] at h1
      cases h1
      trivial
    · rw [List.getElem?_set_ne (Ne.symm h)] at h1
      exact (r.cell m c1 b h1 h2).keep l.tosb fun _ q => q
  · obtain ⟨z1, z2, vs, z3, z4⟩ := r.hd q hq
    refine ⟨?_, z2, vs, z3, z4.mono l⟩
    show upd w.G a o q.1 = none
    rw [upd_ne (fun z => z2 (by rw [z]; exact List.mem_of_getElem? ha))]
    exact z1
  · have e : upd w.G a o b = some (.tbl ps) := e
    by_cases h : b = a
    · rw [h, upd_same] at e
      cases e
      obtain ⟨u, q, nt⟩ := (r.cell n c a hS ha).noTab hd
      rw [ho] at q
      cases q
      exact nt.1 ps rfl
    · rw [upd_ne h] at e
      exact r.nt b ps e
end
theorem sqt_sub {T : Tb} {w : Wd} {S : Store} {H : Hp} (r : WR T w S H) {a : Addr} {xs : List V} (h : SqT T.K w.G a xs) : SqT T.K H a xs := h.elim (fun h => .inl (h.elim (fun h => .inl (r.sub _ _ h)) fun ⟨o, h⟩ => .inr ⟨o, r.sub _ _ h⟩)) .inr
theorem sql_sub {T : Tb} {w : Wd} {S : Store} {H : Hp} (r : WR T w S H) {a : Addr} {xs : List V} (h : SqL T.K w.G a xs) : SqL T.K H a xs := h.elim (fun h => .inl (h.elim (fun h => .inl (r.sub _ _ h)) fun ⟨o, h⟩ => .inr ⟨o, r.sub _ _ h⟩)) .inr
end Ro
end
section
set_option Elab.async false
set_option linter.all false
set_option maxRecDepth 100000
set_option maxHeartbeats 4000000
namespace Ro
open PySem PySem.Spec PyProof.Rows L2
variable {T : Tb} {E : XK} {X : Cx} {a b c : Expr} {es : List Expr} {f g h : EX} {fa : AX} {fb gb : BX} {pos : Pos}
/-- two expressions in a row -/
theorem tI_two {k : D → D → Store → R D} {σ : St} {H : Hp} {Q : VK} (q : tI T E (fun env S => (f env S).bnd fun x S1 => (g env S1).bnd fun y S2 => k x y S2) σ H Q) :
    tI T E f σ H fun x H1 => tI T E g σ H1 fun y H2 => ∃ w d e S, WR T w S H2 ∧ Rep T w d x ∧ Rep T w e y ∧ RP (k d e S) (fun d S' => ∀ w' H' v, w.le w' → WR T w' S' H' → Rep T w' d v → Q v H') (XW T w E) := by
  obtain ⟨w, env, S, r, e, h⟩ := q
  refine ⟨w, env, S, r, e, (RP.bnd h).mono (fun d S1 h1 w1 H1 x l1 r1 p1 => ⟨w1, env, S1, r1, e.mono l1, (RP.bnd h1).mono (fun d2 S2 h2 w2 H2 y l2 r2 p2 => ⟨w2, d, d2, S2, r2, p1.mono l2, p2, ?_⟩) (fun _ _ _ x => x.le l1)⟩) (fun _ _ _ x => x)⟩
  exact h2.mono (fun d S' q w' H' v l => q w' H' v ((l1.trans l2).trans l)) fun _ _ _ x => x.le (l1.trans l2)
theorem ie_var {i : Nat} {x : Str} (hN : X.N[i]? = some x) (hv : Vis X.env.scope x) (hd : (x == ("__debug__" : Str)) = false := by decide +kernel) (hcd : (x == ("__classdict__" : Str)) = false := by decide +kernel) : IE T E X (.Name x pos) (eVar i) :=
  PE.mono (pe_var hN hv hd hcd) fun σ H Q ⟨w, env, S, r, e, q⟩ => by
    unfold eVar at q
    cases z : env[i]? with
    | none => rw [z] at q; exact q.elim
    | some o =>
      rw [z] at q
      cases o with
      | none => exact q.elim
      | some d =>
        obtain ⟨v, h1, h2⟩ := e.2 i d z
        exact ⟨v, h1, q w H v (Wd.le.refl _) r h2⟩
theorem ie_c {e : Expr} {d : D} {v : V} (h : PE X e (tC v)) (k : ∀ w, Rep T w d v) : IE T E X e (eC d) :=
  PE.mono h fun σ H Q ⟨w, env, S, r, e, q⟩ => q w H v (Wd.le.refl _) r (k w)
theorem ie_int {i : Int} {j : Nat} : IE T E X (.Constant (.int i) j pos) (eC (.int i)) := ie_c pe_int fun _ => .int i
theorem ie_bl {i : Bool} {j : Nat} : IE T E X (.Constant (.bool i) j pos) (eC (.bl i)) := ie_c pe_bl fun _ => .bl i
theorem ie_non {j : Nat} : IE T E X (.Constant .none j pos) (eC .non) := ie_c pe_non fun _ => .non
theorem ie_str {i : Str} {j : Nat} : IE T E X (.Constant (.str i) j pos) (eC (.str i)) := ie_c pe_str fun _ => .str i
theorem ie_glob {x : Str} {d : D} {v : V} {u : Value} (hg : Gl X x) (hm : X.mg x = some u) (r : RelV v u) (k : ∀ w, Rep T w d v) (hd : (x == ("__debug__" : Str)) = false := by decide +kernel) : IE T E X (.Name x pos) (eC d) := ie_c (pe_glob hg hm r hd) k
def rOp (T : Tb) (op : D → D → Option D) : R2 := fun x y H Q => ∃ w d e r S, WR T w S H ∧ Rep T w d x ∧ Rep T w e y ∧ op d e = some r ∧ ∀ w' H' z, w.le w' → WR T w' S H' → Rep T w' r z → Q z H'
theorem rOp_of {op : D → D → Option D} {w : Wd} {d e : D} {S : Store} {x y : V} {H : Hp} {Q : VK} (r : WR T w S H) (p : Rep T w d x) (q : Rep T w e y) (h : RP (lift (op d e) S) (fun d S' => ∀ w' H' v, w.le w' → WR T w' S' H' → Rep T w' d v → Q v H') (XW T w E)) : rOp T op x y H Q := by
  cases z : op d e with
  | none => rw [z] at h; exact h.elim
  | some k => rw [z] at h; exact ⟨w, d, e, k, S, r, p, q, z, fun w' H' v l r' p' => h w' H' v l r' p'⟩
theorem ie_op {o : Operator} {op : D → D → Option D} (ho : OpR X (binaryOp o) (rOp T op)) (ha : IE T E X a f) (hb : IE T E X b g) : IE T E X (.BinOp a o b pos) (eOp op f g) :=
  PE.mono (pe_op ho ha hb) fun σ H Q q => by
    have q2 := tI_two (k := fun x y S => lift (op x y) S) q
    obtain ⟨w, env, S, r, e, h⟩ := q2
    refine ⟨w, env, S, r, e, h.mono (fun d S1 h1 w1 H1 x l1 r1 p1 => ?_) fun _ _ _ x => x⟩
    obtain ⟨w2, env2, S2, r2, e2, h2⟩ := h1 w1 H1 x l1 r1 p1
    refine ⟨w2, env2, S2, r2, e2, h2.mono (fun d S1 h1 w1 H1 x l1 r1 p1 => ?_) fun _ _ _ x => x⟩
    obtain ⟨w3, d3, e3, S3, r3, p3, q3, h3⟩ := h1 w1 H1 x l1 r1 p1
    exact rOp_of r3 p3 q3 h3
theorem ie_cmp {o : CmpOp} {op : D → D → Option D} (ho : OpR X (compareOp o) (rOp T op)) (ha : IE T E X a f) (hb : IE T E X b g) (hm : behindInMarks o b = false) : IE T E X (.Compare a [o] [b] pos) (eOp op f g) :=
  PE.mono (pe_cmpR ho ha hb hm) fun σ H Q q => by
    have q2 := tI_two (k := fun x y S => lift (op x y) S) q
    obtain ⟨w, env, S, r, e, h⟩ := q2
    refine ⟨w, env, S, r, e, h.mono (fun d S1 h1 w1 H1 x l1 r1 p1 => ?_) fun _ _ _ x => x⟩
    obtain ⟨w2, env2, S2, r2, e2, h2⟩ := h1 w1 H1 x l1 r1 p1
    refine ⟨w2, env2, S2, r2, e2, h2.mono (fun d S1 h1 w1 H1 x l1 r1 p1 => ?_) fun _ _ _ x => x⟩
    obtain ⟨w3, d3, e3, S3, r3, p3, q3, h3⟩ := h1 w1 H1 x l1 r1 p1
    exact rOp_of r3 p3 q3 h3
/-- a value of a test -/
theorem tI_bVal {σ : St} {H : Hp} {Q : Bool → Hp → Prop} (q : tIb T E (bVal f) σ H Q) : tI T E f σ H fun x H1 => ∃ k, x = .bl k ∧ Q k H1 := by
  obtain ⟨w, env, S, r, e, h⟩ := q
  refine ⟨w, env, S, r, e, (RP.bnd h).mono (fun d S1 h1 w1 H1 x l1 r1 p1 => ?_) (fun _ _ _ x => x)⟩
  cases p1 with
  | bl k => exact ⟨k, rfl, h1 w1 H1 l1 r1⟩
  | _ => exact h1.elim
theorem ib_cmp {o : CmpOp} {op : D → D → Option D} (ho : OpR X (compareOp o) (rOp T op)) (ha : IE T E X a f) (hb : IE T E X b g) (hm : behindInMarks o b = false) : IB T E X (.Compare a [o] [b] pos) (bVal (eOp op f g)) :=
  PT.mono (pt_cmpR ho ha hb hm) fun σ H Q q => by
    have q2 := tI_two (k := fun x y S => lift (op x y) S) (tI_bVal q)
    obtain ⟨w, env, S, r, e, h⟩ := q2
    refine ⟨w, env, S, r, e, h.mono (fun d S1 h1 w1 H1 x l1 r1 p1 => ?_) fun _ _ _ x => x⟩
    obtain ⟨w2, env2, S2, r2, e2, h2⟩ := h1 w1 H1 x l1 r1 p1
    refine ⟨w2, env2, S2, r2, e2, h2.mono (fun d S1 h1 w1 H1 x l1 r1 p1 => ?_) fun _ _ _ x => x⟩
    obtain ⟨w3, d3, e3, S3, r3, p3, q3, h3⟩ := h1 w1 H1 x l1 r1 p1
    exact rOp_of r3 p3 q3 h3
/-- an expression that is a bool, as a test -/
theorem ib_val (he : IE T E X a f) (hw : ∀ whole, isTrue a X.env whole = (do let v ← whole; standAt a.pos; holding [v] (truthy v)) := by intro _; rfl) : IB T E X a (bVal f) :=
  PT.mono (pt_val he hw) fun σ H Q q => tI_bVal q
theorem iw_pt (h : IW T E X a fb) : IB T E X a fb := PW.pt h
theorem ib_not (h : IB T E X a fb) : IB T E X (.UnaryOp .Not a pos) (bNot fb) :=
  PT.mono (pt_not h) fun σ H Q ⟨w, env, S, r, e, q⟩ => ⟨w, env, S, r, e, (RP.bnd q).mono (fun _ _ h1 => h1) fun _ _ _ x => x⟩
theorem iw_or1 (h : IB T E X a fb) : IW T E X (.BoolOp .Or [a] pos) fb := pw_or1 h
theorem iw_or (h : IB T E X a fb) (h2 : IW T E X (.BoolOp .Or (b :: es) pos) gb) : IW T E X (.BoolOp .Or (a :: b :: es) pos) (bOr fb gb) :=
  PW.mono (pw_or h h2) fun σ H Q ⟨w, env, S, r, e, q⟩ => ⟨w, env, S, r, e, (RP.bnd q).mono (fun k S1 h1 w1 H1 l1 r1 => by
    cases k with
    | false => exact ⟨w1, env, S1, r1, e.mono l1, RP.mono h1 (fun k2 S2 h2 w2 H2 l2 r2 => h2 w2 H2 (l1.trans l2) r2) fun _ _ _ x => x.le l1⟩
    | true => exact h1 w1 H1 l1 r1) fun _ _ _ x => x⟩
theorem ie_one {o : BoolOp} (h : IE T E X a f) : IE T E X (.BoolOp o [a] pos) f := pe_one h
theorem ie_and (h : IE T E X a f) (h2 : IE T E X (.BoolOp .And (b :: es) pos) g) : IE T E X (.BoolOp .And (a :: b :: es) pos) (eAnd f g) :=
  PE.mono (pe_and h h2) fun σ H Q ⟨w, env, S, r, e, q⟩ => ⟨w, env, S, r, e, (RP.bnd q).mono (fun d S1 h1 w1 H1 x l1 r1 p1 => by
    cases p1 with
    | bl k =>
      refine ⟨k, rfl, ?_⟩
      cases k with
      | true => exact ⟨w1, env, S1, r1, e.mono l1, RP.mono h1 (fun k2 S2 h2 w2 H2 v l2 r2 => h2 w2 H2 v (l1.trans l2) r2) fun _ _ _ x => x.le l1⟩
      | false => exact h1 w1 H1 _ l1 r1 (.bl false)
    | _ => exact (show False from h1).elim) fun _ _ _ x => x⟩
theorem ie_or (h : IE T E X a f) (h2 : IE T E X (.BoolOp .Or (b :: es) pos) g) : IE T E X (.BoolOp .Or (a :: b :: es) pos) (eOr f g) :=
  PE.mono (pe_or h h2) fun σ H Q ⟨w, env, S, r, e, q⟩ => ⟨w, env, S, r, e, (RP.bnd q).mono (fun d S1 h1 w1 H1 x l1 r1 p1 => by
    cases p1 with
    | bl k =>
      refine ⟨k, rfl, ?_⟩
      cases k with
      | false => exact ⟨w1, env, S1, r1, e.mono l1, RP.mono h1 (fun k2 S2 h2 w2 H2 v l2 r2 => h2 w2 H2 v (l1.trans l2) r2) fun _ _ _ x => x.le l1⟩
      | true => exact h1 w1 H1 _ l1 r1 (.bl true)
    | _ => exact (show False from h1).elim) fun _ _ _ x => x⟩
theorem ie_not (h : IE T E X a f) : IE T E X (.UnaryOp .Not a pos) (eNot f) :=
  PE.mono (pe_not h) fun σ H Q ⟨w, env, S, r, e, q⟩ => ⟨w, env, S, r, e, (RP.bnd q).mono (fun d S1 h1 w1 H1 x l1 r1 p1 => by
    cases p1 with
    | bl k => exact ⟨k, rfl, h1 w1 H1 _ l1 r1 (.bl (!k))⟩
    | _ => exact (show False from h1).elim) fun _ _ _ x => x⟩
theorem ie_if (hc : IB T E X c fb) (ha : IE T E X a f) (hb : IE T E X b g) : IE T E X (.IfExp c a b pos) (eIf fb f g) :=
  PE.mono (pe_ifExp hc ha hb) fun σ H Q ⟨w, env, S, r, e, q⟩ => ⟨w, env, S, r, e, (RP.bnd q).mono (fun k S1 h1 w1 H1 l1 r1 => by
    cases k with
    | true => exact ⟨w1, env, S1, r1, e.mono l1, RP.mono h1 (fun k2 S2 h2 w2 H2 v l2 r2 => h2 w2 H2 v (l1.trans l2) r2) fun _ _ _ x => x.le l1⟩
    | false => exact ⟨w1, env, S1, r1, e.mono l1, RP.mono h1 (fun k2 S2 h2 w2 H2 v l2 r2 => h2 w2 H2 v (l1.trans l2) r2) fun _ _ _ x => x.le l1⟩) fun _ _ _ x => x⟩
end Ro
end
section
set_option Elab.async false
set_option linter.all false
set_option maxRecDepth 100000
set_option maxHeartbeats 4000000
namespace Ro
open PySem PySem.Spec PyProof.Rows L2
variable {T : Tb} {E : XK} {X : Cx} {a b c : Expr} {es : List Expr} {f g h : EX} {fa ga : AX} {fb gb : BX} {pos : Pos}
theorem ia_nil : IA T E X [] aNil := PA.mono pa_nil fun σ H Q ⟨w, env, S, r, e, q⟩ => q w H [] (Wd.le.refl _) r .nil
theorem ia_cons (ha : IE T E X a f) (hr : IA T E X es fa) (hs : starEach (a :: es) X.env = (false, eval a X.env) :: starEach es X.env := by rfl) : IA T E X (a :: es) (aCons f fa) :=
  PA.mono (pa_cons ha hr hs) fun σ H Q ⟨w, env, S, r, e, q⟩ => ⟨w, env, S, r, e, (RP.bnd q).mono (fun d S1 h1 w1 H1 x l1 r1 p1 => ⟨w1, env, S1, r1, e.mono l1, (RP.bnd h1).mono (fun ds S2 h2 w2 H2 xs l2 r2 p2 => h2 w2 H2 _ (l1.trans l2) r2 (.cons (p1.mono l2) p2)) fun _ _ _ x => x.le l1⟩) fun _ _ _ x => x⟩
theorem ie_tup {k : Nat} (h : IA T E X es fa) : IE T E X (.Tuple es k pos) (eTup fa) :=
  PE.mono (pe_tup h) fun σ H Q ⟨w, env, S, r, e, q⟩ => ⟨w, env, S, r, e, (RP.bnd q).mono (fun ds S1 h1 w1 H1 xs l1 r1 p1 => by
    by_cases hl : ds.length ≤ LINE
    · rw [if_pos hl] at h1
      refine ⟨by rw [sizeLine_eq, ← p1.length]; exact hl, fun p hp => ?_⟩
      obtain ⟨l2, r2⟩ := r1.new hp (.tup xs)
      exact h1 _ _ _ (l1.trans l2) r2 (.tup (.inl (.inl upd_same)) (p1.mono l2))
    · rw [if_neg hl] at h1
      exact (show False from h1).elim) fun _ _ _ x => x⟩
theorem ie_lst (h : IA T E X es fa) : IE T E X (.List es pos) (eLst fa) :=
  PE.mono (pe_lst h) fun σ H Q ⟨w, env, S, r, e, q⟩ => ⟨w, env, S, r, e, (RP.bnd q).mono (fun ds S1 h1 w1 H1 xs l1 r1 p1 => by
    by_cases hl : ds.length ≤ LINE
    · rw [if_pos hl] at h1
      refine ⟨by rw [sizeLine_eq, ← p1.length]; exact hl, fun p hp => ?_⟩
      obtain ⟨l2, r2⟩ := r1.new hp (.lst xs)
      exact h1 _ _ _ (l1.trans l2) r2 (.lst upd_same (p1.mono l2))
    · rw [if_neg hl] at h1
      exact (show False from h1).elim) fun _ _ _ x => x⟩
theorem ie_lstM (h : IA T E X es fa) : IE T E X (.List es pos) (eLstM fa) :=
  PE.mono (pe_lst h) fun σ H Q ⟨w, env, S, r, e, q⟩ => ⟨w, env, S, r, e, (RP.bnd q).mono (fun ds S1 h1 w1 H1 xs l1 r1 p1 => by
    by_cases hl : ds.length ≤ LINE
    · rw [if_pos hl] at h1
      refine ⟨by rw [sizeLine_eq, ← p1.length]; exact hl, fun p hp => ?_⟩
      obtain ⟨l2, r2, at_⟩ := r1.alloc (o := .lst xs) (c := .lst ds) hp ⟨xs, upd_same, p1.mono (Wd.le.app _ _)⟩
      exact h1 _ _ _ (l1.trans l2) r2 (.ref at_)
    · rw [if_neg hl] at h1
      exact (show False from h1).elim) fun _ _ _ x => x⟩
theorem rd_chain {op op' : D → D → Option D} {σ : St} {H : Hp} {Q : VK} (q : tI T E (eChain op op' f g h) σ H Q) : tChain (rOp T op) (rOp T op') (tI T E f) (tI T E g) (tI T E h) σ H Q := by
  obtain ⟨w, env, S, r, e, q⟩ := q
  refine ⟨w, env, S, r, e, (RP.bnd q).mono (fun d S1 h1 w1 H1 x l1 r1 p1 => ⟨w1, env, S1, r1, e.mono l1, (RP.bnd h1).mono (fun d2 S2 h2 w2 H2 y l2 r2 p2 => ?_) (fun _ _ _ x => x.le l1)⟩) (fun _ _ _ x => x)⟩
  cases z : op d d2 with
  | none => rw [z] at h2; exact (show False from h2).elim
  | some k =>
    rw [z] at h2
    refine ⟨w2, d, d2, k, S2, r2, p1.mono l2, p2, z, fun w3 H3 v l3 r3 p3 => ?_⟩
    cases p3 with
    | bl kk =>
      refine ⟨kk, rfl, ?_⟩
      cases kk with
      | true =>
        rw [if_pos rfl]
        refine ⟨w3, env, S2, r3, e.mono ((l1.trans l2).trans l3), (RP.bnd h2).mono (fun d3 S3 h3 w4 H4 v4 l4 r4 p4 => ?_) fun _ _ _ x => x.le ((l1.trans l2).trans l3)⟩
        have := rOp_of (E := E) (Q := Q) r4 (p2.mono (l3.trans l4)) p4 (RP.mono h3 (fun d S' q w' H' v l => q w' H' v ((((l1.trans l2).trans l3).trans l4).trans l)) fun _ _ _ x => x.le (((l1.trans l2).trans l3).trans l4))
        exact this
      | false =>
        rw [if_neg Bool.false_ne_true]
        exact h2 w3 H3 _ ((l1.trans l2).trans l3) r3 (.bl false)
    | _ => exact (show False from h2).elim
theorem ie_chain {o o' : CmpOp} {op op' : D → D → Option D} (ho : OpR X (compareOp o) (rOp T op)) (ho' : OpR X (compareOp o') (rOp T op')) (ha : IE T E X a f) (hb : IE T E X b g) (hc : IE T E X c h) (hm : lastMarks [o, o'] [b, c] = false := by with_unfolding_all rfl) : IE T E X (.Compare a [o, o'] [b, c] pos) (eChain op op' f g h) :=
  PE.mono (pe_chain (pos := pos) ho ho' ha hb hc hm) fun σ H Q q => rd_chain q
theorem ib_chain {o o' : CmpOp} {op op' : D → D → Option D} (ho : OpR X (compareOp o) (rOp T op)) (ho' : OpR X (compareOp o') (rOp T op')) (ha : IE T E X a f) (hb : IE T E X b g) (hc : IE T E X c h) (hm : lastMarks [o, o'] [b, c] = false := by with_unfolding_all rfl) : IB T E X (.Compare a [o, o'] [b, c] pos) (bVal (eChain op op' f g h)) :=
  PT.mono (pt_chain (pos := pos) ho ho' ha hb hc hm) fun σ H Q q => rd_chain (tI_bVal q)
theorem ib_of (hK : X.K = T.K := by rfl) (he : IE T E X a f) (hw : ∀ whole, isTrue a X.env whole = (do let v ← whole; standAt a.pos; holding [v] (truthy v)) := by intro _; rfl) : IB T E X a (bOf f) :=
  PT.mono (pt_truth he hw) fun σ H Q ⟨w, env, S, r, e, q⟩ => ⟨w, env, S, r, e, (RP.bnd q).mono (fun d S1 h1 w1 H1 x l1 r1 p1 => by
    cases p1 with
    | non => exact ⟨_, rfl, h1 w1 H1 l1 r1⟩
    | bl b => exact ⟨_, rfl, h1 w1 H1 l1 r1⟩
    | int i =>
      refine ⟨_, rfl, ?_⟩
      have z := h1 w1 H1 l1 r1
      have e : (i != 0) = decide (i ≠ 0) := by by_cases h : i = 0 <;> simp [h]
      rw [e]
      exact z
    | str s =>
      by_cases hl : s.length ≤ LINE
      · have h1' : RP (lift (if s.length ≤ LINE then some (decide (s.length ≠ 0)) else none) S1) (fun b S' => ∀ (w' : Wd) (H' : Hp), w.le w' → WR T w' S' H' → Q b H') (XW T w E) := h1
        rw [if_pos hl] at h1'
        refine ⟨_, ⟨by rw [sizeLine_eq]; exact hl, rfl⟩, ?_⟩
        have z := h1' w1 H1 l1 r1
        have e : ((s.length : Int) != 0) = decide (s.length ≠ 0) := by by_cases h : s.length = 0 <;> simp [h]
        rw [e]
        exact z
      · have h1' : RP (lift (if s.length ≤ LINE then some (decide (s.length ≠ 0)) else none) S1) (fun b S' => ∀ (w' : Wd) (H' : Hp), w.le w' → WR T w' S' H' → Q b H') (XW T w E) := h1
        rw [if_neg hl] at h1'
        exact (show False from h1').elim
    | tup q2 r2 =>
      refine ⟨_, .inr (.inl ⟨_, by rw [hK]; exact sqt_sub r1 q2, rfl⟩), ?_⟩
      have z := h1 w1 H1 l1 r1
      cases r2 <;> exact z
    | lst q2 r2 =>
      refine ⟨_, .inl ⟨_, .inl (.inl (r1.sub _ _ q2)), rfl⟩, ?_⟩
      have z := h1 w1 H1 l1 r1
      cases r2 <;> exact z
    | dct q2 r2 =>
      refine ⟨_, .inr (.inr ⟨_, r1.sub _ _ q2, rfl⟩), ?_⟩
      have z := h1 w1 H1 l1 r1
      cases r2 <;> exact z
    | _ => exact (show False from h1).elim) fun _ _ _ x => x⟩
variable {st : Stmt} {sts rest : List Stmt} {s t : ES}
theorem CP.le {w w' : Wd} {D : Ends} {c : Ctl} {S : Store} (l : w.le w') (h : CP T w D c S) : CP T w' D c S := by
  cases c with
  | nx e => exact fun w2 H2 σ2 l2 => h w2 H2 σ2 (l.trans l2)
  | rt d => exact fun w2 H2 v l2 => h w2 H2 v (l.trans l2)
  | bk e => exact fun w2 H2 σ2 l2 => h w2 H2 σ2 (l.trans l2)
  | ct e => exact fun w2 H2 σ2 l2 => h w2 H2 σ2 (l.trans l2)
theorem is_one (h : IS T E X st s) : ISs T E X [st] s := pss_one h
theorem is_nil : ISs T E X [] sPass := PSs.mono pss_nil fun D σ H ⟨w, env, S, r, e, q⟩ => q w H σ (Wd.le.refl _) r e
theorem is_cons (h1 : IS T E X st s) (h2 : ISs T E X rest t) : ISs T E X (st :: rest) (sSeq s t) :=
  PSs.mono (pss_cons h1 h2) fun D σ H ⟨w, env, S, r, e, q⟩ => ⟨w, env, S, r, e, (RP.bnd q).mono (fun c S1 h1 => by
    cases c with
    | nx e1 => exact fun w1 H1 σ1 l1 r1 p1 => ⟨w1, e1, S1, r1, p1, RP.mono h1 (fun c S2 h2 => CP.le l1 h2) fun _ _ _ x => x.le l1⟩
    | rt d => exact h1
    | bk e => exact h1
    | ct e => exact h1) fun _ _ _ x => x⟩
theorem is_set {i : Nat} {x : Str} {p' : Pos} (hN : X.N.Nodup) (hi : X.N[i]? = some x) (hx : Loc X.env.scope x) (he : IE T E X a f) (hs : swapsWith a (some (.Name x p')) pos.line X.env = pure false := by rfl) (hf : X.fn x = true ∨ X.env.scope.names.lookup x = some .local := by first | exact .inl rfl | exact .inr rfl | assumption) :
    IS T E X (.Assign [.Name x p'] a pos) (sSet i f) :=
  PS.mono (ps_set hN hi hx he hs hf) fun D σ H ⟨w, env, S, r, e, q⟩ => ⟨w, env, S, r, e, (RP.bnd q).mono (fun d S1 h1 w1 H1 v l1 r1 p1 => h1 w1 H1 _ l1 r1 ((e.mono l1).set p1 i)) fun _ _ _ x => x⟩
theorem is_ret (he : IE T E X a f) : IS T E X (.Return (some a) pos) (sRet f) :=
  PS.mono (ps_ret he) fun D σ H ⟨w, env, S, r, e, q⟩ => ⟨w, env, S, r, e, (RP.bnd q).mono (fun d S1 h1 w1 H1 v l1 r1 p1 => h1 w1 H1 v l1 r1 p1) fun _ _ _ x => x⟩
theorem is_expr (he : IE T E X a f) (hs : swapsWith a none pos.line X.env = pure false := by rfl) : IS T E X (.Expr a pos) (sExpr f) :=
  PS.mono (ps_expr he hs) fun D σ H ⟨w, env, S, r, e, q⟩ => ⟨w, env, S, r, e, (RP.bnd q).mono (fun d S1 h1 w1 H1 v l1 r1 p1 => h1 w1 H1 _ l1 r1 (e.mono l1)) fun _ _ _ x => x⟩
theorem is_if {bs cs : List Stmt} (hc : IB T E X c fb) (ha : ISs T E X bs s) (hb : ISs T E X cs t) : IS T E X (.If c bs cs pos) (sIf fb s t) :=
  PS.mono (ps_if hc ha hb) fun D σ H ⟨w, env, S, r, e, q⟩ => ⟨w, env, S, r, e, (RP.bnd q).mono (fun k S1 h1 w1 H1 l1 r1 => by
    cases k with
    | true => exact ⟨w1, env, S1, r1, e.mono l1, RP.mono h1 (fun c S2 h2 => CP.le l1 h2) fun _ _ _ x => x.le l1⟩
    | false => exact ⟨w1, env, S1, r1, e.mono l1, RP.mono h1 (fun c S2 h2 => CP.le l1 h2) fun _ _ _ x => x.le l1⟩) fun _ _ _ x => x⟩
theorem wipe_len (σ : St) : ∀ vs : List Nat, (wipe σ vs).length = σ.length := wipe_length σ
theorem wipe_get (σ : St) (j : Nat) : ∀ vs : List Nat, (wipe σ vs)[j]? = if j ∈ vs then (if j < σ.length then some none else none) else σ[j]?
  | [] => by simp [wipe]
  | v :: vs => by
    show ((wipe σ vs).set v none)[j]? = _
    by_cases h : v = j
    · subst h
      rw [List.getElem?_set]
      simp [wipe_len]
    · rw [List.getElem?_set_ne h, wipe_get σ j vs]
      have e : (j ∈ v :: vs) ↔ j ∈ vs := by simp [Ne.symm h]
      simp only [e]
theorem wipe_set {σ : St} {i : Nat} {x : Option V} {vs : List Nat} (h : i ∈ vs) : wipe (σ.set i x) vs = wipe σ vs := by
  apply List.ext_getElem?
  intro j
  rw [wipe_get, wipe_get, List.length_set]
  by_cases hj : j ∈ vs
  · rw [if_pos hj, if_pos hj]
  · rw [if_neg hj, if_neg hj, List.getElem?_set_ne (fun z => hj (by rw [← z]; exact h))]
theorem wipe_wipe (σ : St) (vs : List Nat) : wipe (wipe σ vs) vs = wipe σ vs := by
  apply List.ext_getElem?
  intro j
  rw [wipe_get, wipe_get, wipe_len]
  by_cases hj : j ∈ vs
  · rw [if_pos hj, if_pos hj]
  · rw [if_neg hj, if_neg hj]
def gI (T : Tb) (vs : List Nat) (p : Pat) : TG := fun v σ H Q => ∃ w env S d e, WR T w S H ∧ ER T w env σ ∧ Rep T w d v ∧ p d env = some e ∧ ∀ σ', ER T w e σ' → wipe σ' vs = wipe σ vs → Q σ' H
def gIs (T : Tb) (vs : List Nat) (p : List D → Env → Option Env) : TGs := fun us σ H Q => ∃ w env S ds e, WR T w S H ∧ ER T w env σ ∧ Reps T w ds us ∧ p ds env = some e ∧ ∀ σ', ER T w e σ' → wipe σ' vs = wipe σ vs → Q σ' H
def IG (T : Tb) (X : Cx) (vs : List Nat) (tg : Expr) (p : Pat) : Prop := PG X tg (gI T vs p)
def IGs (T : Tb) (X : Cx) (vs : List Nat) (tg : List Expr) (p : List D → Env → Option Env) : Prop := PGs X tg (gIs T vs p)
theorem PG.mono {X : Cx} {e : Expr} {t t' : TG} (h : PG X e t) (k : ∀ v σ H Q, t' v σ H Q → t v σ H Q) : PG X e t' := ⟨fun pins s σ H v u Q I r q => h.run pins s σ H v u Q I r (k _ _ _ _ q)⟩
theorem PGs.mono {X : Cx} {e : List Expr} {t t' : TGs} (h : PGs X e t) (k : ∀ v σ H Q, t' v σ H Q → t v σ H Q) : PGs X e t' := ⟨fun pins s σ H v u Q I r q => h.run pins s σ H v u Q I r (k _ _ _ _ q)⟩
variable {vs : List Nat}
theorem ig_name {i : Nat} {x : Str} (hN : X.N.Nodup) (hi : X.N[i]? = some x) (hx : Loc X.env.scope x) (hv : i ∈ vs := by decide) (hf : X.fn x = true ∨ X.env.scope.names.lookup x = some .local := by first | exact .inl rfl | exact .inr rfl | assumption) : IG T X vs (.Name x pos) (pName i) :=
  PG.mono (pg_name hN hi hx hf) fun v σ H Q ⟨w, env, S, d, e, r, q, p, h, k⟩ => by
    cases h
    exact k _ (q.set p i) (wipe_set hv)
theorem igs_nil : IGs T X vs [] pNil := PGs.mono pgs_nil fun v σ H Q ⟨w, env, S, d, e, r, q, p, h, k⟩ => by
  cases p with
  | nil => cases h; exact ⟨rfl, k _ q rfl⟩
  | cons _ _ => cases h
theorem igs_cons {p : Pat} {ps : List D → Env → Option Env} (h1 : IG T X vs a p) (h2 : IGs T X vs es ps) (hs : (assignEach (a :: es) X.env).map (·.2) = assign a X.env :: (assignEach es X.env).map (·.2) := by rfl) : IGs T X vs (a :: es) (pCons p ps) :=
  PGs.mono (pgs_cons h1 h2 hs) fun v σ H Q ⟨w, env, S, d, e, r, q, p0, h, k⟩ => by
    cases p0 with
    | nil => cases h
    | @cons d1 v1 ds us p1 p2 =>
      have h : (p d1 env).bind (fun e => ps ds e) = some e := h
      cases z : p d1 env with
      | none => rw [z] at h; cases h
      | some e1 =>
        rw [z] at h
        exact ⟨_, _, rfl, w, env, S, d1, e1, r, q, p1, z, fun σ1 q1 z1 => ⟨w, e1, S, ds, e, r, q1, p2, h, fun σ2 q2 z2 => k σ2 q2 (z2.trans z1)⟩⟩
theorem ig_tup {ps : List D → Env → Option Env} {k n : Nat} (hc : X.calm = true) (h : IGs T X vs es ps) (hl : ∀ ds env e, ps ds env = some e → ds.length = n) (hK : X.K = T.K := by rfl)
    (hn : (assignEach es X.env).length = n := by rfl) (hst : (assignEach es X.env).findIdx? (·.1) = none := by rfl) : IG T X vs (.Tuple es k pos) (pTup ps) :=
  PG.mono (pg_tup hc h hn hst) fun v σ H Q ⟨w, env, S, d, e, r, q, p0, h, k⟩ => by
    cases p0 with
    | tup q2 r2 => exact ⟨_, _, rfl, by rw [hK]; exact sqt_sub r q2, by rw [← r2.length]; exact hl _ _ _ h, w, env, S, _, e, r, q, r2, h, k⟩
    | _ => cases h
theorem is_unp {p : Pat} (he : IE T E X a f) (hg : IG T X vs b p) (hs : swapsWithSole [b] a pos.line X.env = pure false := by rfl) (hw : swappedStores [b] a X.env = pure none := by rfl) (h1 : (assignEach [b] X.env).map (·.2) = [assign b X.env] := by rfl) : IS T E X (.Assign [b] a pos) (sUnp p f) :=
  PS.mono (ps_asg he hg hs hw h1) fun D σ H ⟨w, env, S, r, e, q⟩ => ⟨w, env, S, r, e, (RP.bnd q).mono (fun d S1 h1 w1 H1 v l1 r1 p1 => by
    cases z : p d env with
    | none => rw [z] at h1; exact (show False from h1).elim
    | some e1 =>
      rw [z] at h1
      exact ⟨w1, env, S1, d, e1, r1, e.mono l1, p1, z, fun σ' q' _ => h1 w1 H1 σ' l1 r1 q'⟩) fun _ _ _ x => x⟩
end Ro
end
section
set_option Elab.async false
set_option linter.all false
set_option maxRecDepth 100000
set_option maxHeartbeats 4000000
namespace Ro
open PySem PySem.Spec PyProof.Rows L2
variable {T : Tb} {E : XK} {X : Cx} {a b c : Expr} {es : List Expr} {f g h : EX} {fa ga : AX} {fb gb : BX} {pos : Pos} {st : Stmt} {sts rest : List Stmt} {s t : ES}
structure ItR (T : Tb) (w : Wd) (ds : List D) (J : It) : Prop where
  goS : ∀ (i : Nat) H w' S, w.sb w' → WR T w' S H → i < ds.length → J.go i H
  stopS : ∀ (i : Nat) H w' S, w.sb w' → WR T w' S H → ds.length ≤ i → J.stop i H
  yldS : ∀ (i : Nat) H x H' w' S d, w.sb w' → WR T w' S H → ds[i]? = some d → J.yld i H x H' → ∃ w2, w'.le w2 ∧ WR T w2 S H' ∧ Rep T w2 d x
theorem ItR.go {T : Tb} {w : Wd} {ds : List D} {J : It} (it : ItR T w ds J) (i : Nat) (H : Hp) (w' : Wd) (S : Store) (l : w.le w') (r : WR T w' S H) (h : i < ds.length) : J.go i H := it.goS i H w' S l.tosb r h
theorem ItR.stop {T : Tb} {w : Wd} {ds : List D} {J : It} (it : ItR T w ds J) (i : Nat) (H : Hp) (w' : Wd) (S : Store) (l : w.le w') (r : WR T w' S H) (h : ds.length ≤ i) : J.stop i H := it.stopS i H w' S l.tosb r h
theorem ItR.yld {T : Tb} {w : Wd} {ds : List D} {J : It} (it : ItR T w ds J) (i : Nat) (H : Hp) (x : V) (H' : Hp) (w' : Wd) (S : Store) (d : D) (l : w.le w') (r : WR T w' S H) (hd : ds[i]? = some d) (y : J.yld i H x H') : ∃ w2, w'.le w2 ∧ WR T w2 S H' ∧ Rep T w2 d x := it.yldS i H x H' w' S d l.tosb r hd y
def tII (T : Tb) (E : XK) (fa : AX) : TI := fun σ H R => ∃ w env S, WR T w S H ∧ ER T w env σ ∧ RP (fa env S) (fun ds S' => ∀ w' H' J, w.le w' → WR T w' S' H' → ItR T w' ds J → R J H') (XW T w E)
def II (T : Tb) (E : XK) (X : Cx) (tg iter : Expr) (fa : AX) : Prop := PI X tg iter (tII T E fa)
theorem PI.mono {X : Cx} {tg e : Expr} {t t' : TI} (h : PI X tg e t) (k : ∀ σ H R, t' σ H R → t σ H R) : PI X tg e t' := ⟨fun pins s σ H R I q => h.run pins s σ H R I (k _ _ _ q)⟩
theorem is_for {tg iter : Expr} {body : List Stmt} {p : Pat} (hp : PassesOwn (model X.prog X.w) X.A X.env X.xe) (hc : X.calm = true) (hi : II T E X tg iter fa) {vs : List Nat} (hg : IG T X vs tg p) (hb : ISs T E X body s) (hs : ∀ x, foldedSetIterable iter X.env x = pure x := by intro _; rfl) : IS T E X (.For tg iter body [] pos) (sFor fa p s) :=
  PS.mono (ps_for hp hc hi hg hb hs) fun D σ H ⟨w, env, S, r, e, q⟩ => ⟨w, env, S, r, e, (RP.bnd q).mono (fun ds S1 h1 w1 H1 J l1 r1 it => by
    refine ⟨fun i m σ H => m = ds.length - i ∧ i ≤ ds.length ∧ ∃ w env S, w1.le w ∧ WR T w S H ∧ ER T w env σ ∧ RP (loop p s (ds.drop i) env S) (CP T w D) (XW T w E),
      ⟨ds.length, by simp, Nat.zero_le _, w1, env, S1, Wd.le.refl _, r1, e.mono l1, RP.mono h1 (fun c S2 h2 => CP.le l1 h2) fun _ _ _ x => x.le l1⟩, ?_⟩
    rintro i m σ H ⟨rfl, hi, w, env, S, l, r, e, q⟩
    by_cases hlt : i < ds.length
    · refine .inr ⟨it.go i H w S l r hlt, fun σ H => i + 1 ≤ ds.length ∧ ∃ w env S, w1.le w ∧ WR T w S H ∧ ER T w env σ ∧ RP (loop p s (ds.drop (i + 1)) env S) (CP T w D) (XW T w E), fun σ' H' h => ⟨ds.length - (i + 1), by omega, rfl, h⟩, fun x H' y => ?_⟩
      obtain ⟨w2, l2, r2, p2⟩ := it.yld i H x H' w S ds[i] l r (List.getElem?_eq_getElem hlt) y
      rw [List.drop_eq_getElem_cons hlt] at q
      unfold loop at q
      cases z : p ds[i] env with
      | none => rw [z] at q; exact (show False from q).elim
      | some e1 =>
        rw [z] at q
        refine ⟨w2, env, S, ds[i], e1, r2, e.mono l2, p2, z, fun σ2 q2 _ => ⟨w2, e1, S, r2, q2, (RP.bnd q).mono (fun c S3 h3 => ?_) fun _ _ _ x => x.le l2⟩⟩
        cases c with
        | nx e3 => exact fun w4 H4 σ4 l4 r4 q4 => ⟨hlt, w4, e3, S3, (l.trans l2).trans l4, r4, q4, RP.mono h3 (fun c S5 h5 => CP.le (l2.trans l4) h5) fun _ _ _ x => x.le (l2.trans l4)⟩
        | ct e3 => exact fun w4 H4 σ4 l4 r4 q4 => ⟨hlt, w4, e3, S3, (l.trans l2).trans l4, r4, q4, RP.mono h3 (fun c S5 h5 => CP.le (l2.trans l4) h5) fun _ _ _ x => x.le (l2.trans l4)⟩
        | bk e3 => exact fun w4 H4 σ4 l4 => h3 w4 H4 σ4 (l2.trans l4)
        | rt d => exact fun w4 H4 v l4 => h3 w4 H4 v (l2.trans l4)
    · have e0 : ds.drop i = [] := List.drop_of_length_le (by omega)
      rw [e0] at q
      exact .inl ⟨it.stop i H w S l r (by omega), q w H σ (Wd.le.refl _) r e⟩) fun _ _ _ x => x⟩
/-- a list, a tuple that stands still -/
def itSeq (f : EX) : AX := fun env S => (f env S).bnd fun d S1 => match d with
  | .lst l => .ok l S1
  | _ => .bad
def itTup (f : EX) : AX := fun env S => (f env S).bnd fun d S1 => match d with
  | .tup l => .ok l S1
  | _ => .bad
theorem itR_lst {w : Wd} {l : List D} {p : Addr} {vs : List V} (q : SqL T.K w.G p vs) (r : Reps T w l vs) : ItR T w l (Itl T.K p) where
  goS := fun i H w' S l1 r1 hi => by
    obtain ⟨v, h1, _⟩ := r.get (List.getElem?_eq_getElem hi)
    exact ⟨vs, v, sql_sub r1 (sql_le l1 q), h1⟩
  stopS := fun i H w' S l1 r1 hi => ⟨vs, sql_sub r1 (sql_le l1 q), by rw [← r.length]; exact hi⟩
  yldS := fun i H x H' w' S d l1 r1 hd y => by
    obtain ⟨rfl, y⟩ := y
    obtain ⟨v, h1, h2⟩ := r.get hd
    have e := y vs (sql_sub r1 (sql_le l1 q))
    rw [h1] at e
    cases e
    exact ⟨w', Wd.le.refl _, r1, h2.monoS l1⟩
theorem itR_tup {w : Wd} {l : List D} {p : Addr} {vs : List V} (q : SqT T.K w.G p vs) (r : Reps T w l vs) : ItR T w l (Itt T.K p) where
  goS := fun i H w' S l1 r1 hi => by
    obtain ⟨v, h1, _⟩ := r.get (List.getElem?_eq_getElem hi)
    exact ⟨vs, v, sqt_sub r1 (sqt_le l1 q), h1⟩
  stopS := fun i H w' S l1 r1 hi => ⟨vs, sqt_sub r1 (sqt_le l1 q), by rw [← r.length]; exact hi⟩
  yldS := fun i H x H' w' S d l1 r1 hd y => by
    obtain ⟨rfl, y⟩ := y
    obtain ⟨v, h1, h2⟩ := r.get hd
    have e := y vs (sqt_sub r1 (sqt_le l1 q))
    rw [h1] at e
    cases e
    exact ⟨w', Wd.le.refl _, r1, h2.monoS l1⟩
theorem ii_lst {tg : Expr} (hK : X.K = T.K) (h : IE T E X a f) : II T E X tg a (itSeq f) :=
  PI.mono (pi_list h) fun σ H Rr ⟨w, env, S, r, e, q⟩ => ⟨w, env, S, r, e, (RP.bnd q).mono (fun d S1 h1 w1 H1 v l1 r1 p1 => by
    cases p1 with
    | lst q2 r2 =>
      refine ⟨_, rfl, ⟨_, .inl (.inl (r1.sub _ _ q2))⟩, ?_⟩
      rw [hK]
      exact h1 w1 H1 _ l1 r1 (itR_lst (.inl (.inl q2)) r2)
    | _ => exact (show False from h1).elim) fun _ _ _ x => x⟩
theorem ii_tup {tg : Expr} (hK : X.K = T.K) (h : IE T E X a f) : II T E X tg a (itTup f) :=
  PI.mono (pi_tup h) fun σ H Rr ⟨w, env, S, r, e, q⟩ => ⟨w, env, S, r, e, (RP.bnd q).mono (fun d S1 h1 w1 H1 v l1 r1 p1 => by
    cases p1 with
    | tup q2 r2 =>
      refine ⟨_, rfl, ⟨_, by rw [hK]; exact sqt_sub r1 q2⟩, ?_⟩
      rw [hK]
      exact h1 w1 H1 _ l1 r1 (itR_tup q2 r2)
    | _ => exact (show False from h1).elim) fun _ _ _ x => x⟩
/-- lo, lo + 1, .. -/
def rngL (lo : Int) (n : Nat) : List D := (List.range n).map fun i : Nat => D.int (lo + (i : Int))
def small62 (i : Int) : Bool := decide (-(2 ^ 62) ≤ i ∧ i < 2 ^ 62)
def itR1 (fa : AX) : AX := fun env S => (fa env S).bnd fun ds S1 => match ds with
  | [.int j] => if small62 j then .ok (rngL 0 j.toNat) S1 else .bad
  | _ => .bad
def itR2 (fa : AX) : AX := fun env S => (fa env S).bnd fun ds S1 => match ds with
  | [.int i, .int j] => if small62 i && small62 j then .ok (rngL i (j - i).toNat) S1 else .bad
  | _ => .bad
theorem itR_rng {w : Wd} {lo : Int} {n : Nat} : ItR T w (rngL lo n) (Itr lo n) where
  goS := fun i H w' S l1 r1 hi => by
    have e : (rngL lo n).length = n := by unfold rngL; simp
    rw [e] at hi
    exact hi
  stopS := fun i H w' S l1 r1 hi => by
    have e : (rngL lo n).length = n := by unfold rngL; simp
    rw [e] at hi
    exact hi
  yldS := fun i H x H' w' S d l1 r1 hd y => by
    obtain ⟨rfl, rfl⟩ := y
    unfold rngL at hd
    rw [List.getElem?_map] at hd
    cases z : (List.range n)[i]? with
    | none => rw [z] at hd; cases hd
    | some k =>
      rw [z] at hd
      obtain ⟨hl, e⟩ := List.getElem?_eq_some_iff.mp z
      rw [List.getElem_range] at e
      subst e
      cases hd
      exact ⟨w', Wd.le.refl _, r1, .int _⟩
theorem ii_r1 {tg : Expr} {p : Pos} (hg : Gl X "range") (hm : X.mg "range" = none) (ha : IA T E X [a] fa) (hs : starEach [a] X.env = [(false, eval a X.env)] := by rfl) : II T E X tg (.Call (.Name "range" p) [a] [] pos) (itR1 fa) :=
  PI.mono (pi_range1 hg hm ha hs) fun σ H Rr ⟨w, env, S, r, e, q⟩ => ⟨w, env, S, r, e, (RP.bnd q).mono (fun ds S1 h1 w1 H1 v l1 r1 p1 => by
    split at h1
    · rename_i j
      cases p1 with
      | cons p2 p3 =>
        cases p2; cases p3
        by_cases hj : small62 j
        · rw [if_pos hj] at h1
          have hj' := of_decide_eq_true hj
          exact ⟨j, rfl, hj'.1, hj'.2, h1 w1 H1 _ l1 r1 itR_rng⟩
        · rw [if_neg hj] at h1
          exact (show False from h1).elim
    · exact (show False from h1).elim) fun _ _ _ x => x⟩
def spI (T : Tb) (n : Nat) (m : Fn) : Sp := fun vs H Q E => vs.length = n ∧ ∃ w ds S, WR T w S H ∧ Reps T w ds vs ∧ RP (m ds S) (fun d S' => ∀ w' H' v, w.le w' → WR T w' S' H' → Rep T w' d v → Q v H') (XW T w E)
theorem er_start {w : Wd} {N : List Str} {ds : List D} {vs : List V} (r : Reps T w ds vs) : ER T w (ds.map some ++ List.replicate (N.length - ds.length) none) (L2.start N vs) := by
  refine ⟨by simp [L2.start, r.length], fun i d h => ?_⟩
  by_cases hi : i < ds.length
  · rw [List.getElem?_append_left (by simpa using hi), List.getElem?_map] at h
    cases z : ds[i]? with
    | none => rw [z] at h; cases h
    | some d2 =>
      rw [z] at h
      have e : d2 = d := by simpa using h
      subst e
      obtain ⟨v, h1, h2⟩ := r.get z
      refine ⟨v, ?_, h2⟩
      unfold L2.start
      rw [List.getElem?_append_left (by rw [List.length_map, ← r.length]; exact hi), List.getElem?_map, h1]
      rfl
  · rw [List.getElem?_append_right (by simpa using hi)] at h
    rw [List.getElem?_replicate] at h
    split at h <;> cases h
/-- room, and no repr under way -/
structure RG (k : Nat) (A : Around) : Prop where
  rm : Room k A
  gd : A.guards = some []
theorem RG.mono {j k : Nat} {A : Around} (r : RG k A) (h : j ≤ k) : RG j A := ⟨r.rm.mono h, r.gd⟩
theorem RG.deeper {k : Nat} {A : Around} (r : RG (k + 1) A) (env : PySem.Env) : RG k (A.deeper env) := ⟨r.rm.deeper env, r.gd⟩
theorem RG.in1 {k : Nat} {A : Around} (r : RG (k + 1) A) : RG k A.in1 := ⟨r.rm.in1, r.gd⟩
theorem RG.make {k : Nat} {A : Around} (r : RG (k + 1) A) (c : Addr) (us : List Value) (kw : List (Str × Value)) : RG k (A.under (.builtin "type.__call__" ⟨.ref c :: us, kw⟩)) :=
  ⟨r.rm.make c us kw, by
    have e := r.gd
    have g : Code.guards (.builtin "type.__call__" ⟨.ref c :: us, kw⟩) = [] := by
      unfold Code.guards
      rw [if_neg (by show ¬ (guardIds.contains "type.__call__" = true); decide)]
    show pushGuards (Code.guards (.builtin "type.__call__" ⟨.ref c :: us, kw⟩)) A.guards = some []
    rw [g]
    exact e⟩
/-- .. a def that runs wherever there is room and no repr is under way -/
structure FnG (P : Program) (w : World) (K : PySem.W.Frag) (mg : Str → Option Value) (base : Heap) (k : Nat) (fp : Addr) (fd : FuncData) (ps : List Str) (sp : Sp) : Prop where
  run : ∀ (A : Around) (below : List PySem.Env) (s : Shared) (H : Hp) (ar : Args) (us : List Value) (vs : List V) (Q : VK) (E : XK), RG k A → Env0 P w K mg base A below s H → BindsTo s fd ar (ps.zip us) → Vals vs us → sp vs H Q E →
    codeAny (model P w) A (.call (.ref fp) ar) (CR (L2.CX P w) below P w H s Q E) s
theorem FnG.mono {P : Program} {w : World} {K : PySem.W.Frag} {mg : Str → Option Value} {base : Heap} {j k : Nat} {fp : Addr} {fd : FuncData} {ps : List Str} {sp : Sp} (F : FnG P w K mg base j fp fd ps sp) (h : j ≤ k) : FnG P w K mg base k fp fd ps sp :=
  ⟨fun A below s H ar us vs Q E hr => F.run A below s H ar us vs Q E (hr.mono h)⟩
theorem fnG_of {P : Program} {w : World} {K : PySem.W.Frag} {mg : Str → Option Value} {base : Heap} {k : Nat} {fp : Addr} {nm ql : Str} {prm : Arguments} {bd : List Stmt} {scp : Scope} {dV kV doc pm cdv ct oc : Value} {an od : Option Addr}
    {osl : Array (Option Value)} {N ps : List Str} {sp : Sp} (look : K.lookup fp = some ⟨oc, od, .func (PySem.W.fnOf nm ql prm bd scp dV kV doc pm an cdv ct), osl⟩) (code : PySem.W.codeIn K cdv ql = true) (Sc : FnScope N ps scp)
    (len : ∀ vs H Q E, sp vs H Q E → vs.length = ps.length)
    (h : ∀ (A : Around) (below : List PySem.Env) (s : Shared) (H : Hp) (vs : List V) (Q : VK) (E : XK), RG k (A.deeper (envOfC ql scp s.heap.objs.size fp cdv)) → sp vs H Q E →
      ∃ t, PSs (cxOf (L2.CX P w) P w K mg base N ql scp fp cdv A below s H E) bd t ∧ t { nx := fun _ H' => Q .non H', rt := Q } (L2.start N vs) H) :
    FnG P w K mg base (k + 1) fp (PySem.W.fnOf nm ql prm bd scp dV kV doc pm an cdv ct) ps sp := by
  constructor
  intro A below s H ar us vs Q E hr env0 hbd rv hsp
  have hlen := len _ _ _ _ hsp
  have inK : K.In s.heap := env0.mod.kin.keeps fun b o q => (env0.bs b o q).1
  have noLim : s.heap.NoLimit := env0.mod.nolimit.keeps fun b o q => (env0.bs b o q).1
  have kinds : ∀ z ∈ ps.zip us, scp.names.lookup z.1 = some .local ∨ (scp.names.lookup z.1 = some .cell ∧ ((cellsFrom (s.heap.objs.size + 1) scp.names []).lookup z.1).isSome = true) := by
    rintro ⟨n, v⟩ hz
    rcases Sc.par n (List.of_mem_zip hz).1 with k1 | k1
    · exact Or.inl k1
    · exact Or.inr ⟨k1, PySem.W.cellsFrom_some _ _ _ (Or.inl k1)⟩
  refine codeAny_call_function hr.rm.depth (inK _ _ look) rfl Sc.co Sc.gen rfl (PySem.W.codeRec_of inK code) (hbd _ _ _ _ ?_)
  refine wpAny_newFunctionEnv_cells Sc.kind kinds fun en hen st hx => ?_
  subst hen
  obtain ⟨t, runs, ends⟩ := h A below s H vs Q E (hr.deeper _) hsp
  have J0 : Inv (cxOf (L2.CX P w) P w K mg base N ql scp fp cdv A below s H E) [] (L2.start N vs) H st := inv_start Sc hr.rm.hd env0 hlen rv hx
  refine ⟨noLim.keeps hx.toInCall.keep, codeAny_func (wpAny_mono (runs.run [] st (L2.start N vs) H _ J0 ends) (fun fl st' hs => ?_) fun e st' hs => hs)⟩
  cases fl with
  | ret u =>
    obtain ⟨v, _, H', J, r1, q⟩ := hs
    exact ⟨v, H', J.os, J.bare, J.base, J.hok, r1, q⟩
  | next =>
    obtain ⟨_, H', J, q⟩ := hs
    exact ⟨V.non, H', J.os, J.bare, J.base, J.hok, rfl, q⟩
  | brk => exact hs.elim fun _ z => z.elim fun _ z => z.2.elim
  | cont => exact hs.elim fun _ z => z.elim fun _ z => z.2.elim
/-- a call by it -/
theorem FnG.callBy {X : Cx} {n k : Nat} {fp : Addr} {fd : FuncData} {ps ks : List Str} {sp : Sp} {gg : List Value → List Value → List Value} {gV : List V → List V → List V} {E : XK} {pins : List (Addr × Obj)} {σ : St} {H : Hp} {s : Shared} {Q : VK} {us ws : List Value} {vs zs : List V}
    (F : FnG X.prog X.w X.K X.mg X.base k fp fd ps sp) (hr : RG k X.A) (hb : KBn X.K fd ps n ks gg gV) (hx : Passes (L2.CX X.prog X.w) X E) (I : Inv X pins σ H s) (rv : Vals vs us) (rz : Vals zs ws) (l1 : vs.length = n) (l2 : zs.length = ks.length) (h : sp (gV vs zs) H Q E) :
    wpAny (model X.prog X.w) X.A (call (.ref fp) us (ks.zip ws)) (EP X pins σ Q) X.xe s := by
  have all := hb.rel rv rz
  have run := F.run X.A X.stack s H ⟨us, ks.zip ws⟩ (gg us ws) (gV vs zs) Q E hr I.env0 (hb.to s us ws I.kIn (rv.length.symm.trans l1) (rz.length.symm.trans l2)) all h
  refine wpAny_call (codeAny_mono run fun r st hq => ?_)
  match r, hq with
  | .error e, hq => exact hx pins σ H s e st I hq
  | .ok (.ret u), hq => exact I.after hq
/-- a new thing by its __init__ -/
theorem FnG.makes {X : Cx} {n k : Nat} {C fp : Addr} {fd : FuncData} {ps ks : List Str} {sp : Sp} {gg : List Value → List Value → List Value} {gV : List V → List V → List V} {E : XK} {pins : List (Addr × Obj)} {σ : St} {H : Hp} {s : Shared} {Q : VK} {us ws : List Value} {vs zs : List V}
    (M : Mk X.K C fp) (F : FnG X.prog X.w X.K X.mg X.base k fp fd ps sp) (hr : RG (k + 1) X.A) (hb : KBn X.K fd ps (n + 1) ks gg gV) (hx : Passes (L2.CX X.prog X.w) X E) (I : Inv X pins σ H s) (rv : Vals vs us) (rz : Vals zs ws) (l1 : vs.length = n) (l2 : zs.length = ks.length)
    (h : ∀ x dx, H x = none → H dx = none → dx ≠ x → sp (gV (.ref x :: vs) zs) (upd (upd H dx (.own x)) x (.ins C dx [])) (fun v H2 => v = .non ∧ Q (.ref x) H2) E) :
    wpAny (model X.prog X.w) X.A (call (.ref C) us (ks.zip ws)) (EP X pins σ Q) X.xe s := by
  have start := h (s.heap.objs.size + 1) s.heap.objs.size (I.hok.fresh (by omega)) (I.hok.fresh (by omega)) (by intro z; exact absurd z (Nat.ne_of_lt (Nat.lt_succ_self _)))
  have J := Inv.made (C := C) I
  have rv1 : Vals (V.ref (s.heap.objs.size + 1) :: vs) (Value.ref (s.heap.objs.size + 1) :: us) := .cons rfl rv
  have n1 : (Value.ref (s.heap.objs.size + 1) :: us).length = n + 1 := by rw [← rv1.length, List.length_cons, l1]
  have run := F.run _ X.stack _ _ ⟨Value.ref (s.heap.objs.size + 1) :: us, ks.zip ws⟩ _ _ _ E (hr.make C us (ks.zip ws)) (J.env0.make C us (ks.zip ws)) (hb.to _ _ ws J.kIn n1 (rz.length.symm.trans l2)) (hb.rel rv1 rz) start
  refine wpAny_call (make_map (f := fp) I.kIn M.makes M.init (beq_iff_eq.mp M.fn) (codeAny_mono run fun r st hq => ?_))
  match r, hq with
  | .error e, hq => exact hx pins σ _ _ e st J hq
  | .ok (.ret u), hq =>
    obtain ⟨v, H', J3, r3, e3, q3⟩ := J.after hq
    subst e3
    exact ⟨r3, V.ref (s.heap.objs.size + 1), H', J3, rfl, q3⟩
/-- a def of the text keeps what its mirror says -/
structure OkF (T : Tb) (P : Program) (w : World) (mg : Str → Option Value) (base : Heap) (k : Nat) (d : He.DefD) (ps : List Str) (m : Fn) : Prop where
  ex : ∃ fd, FunD T.K d.name d.qual d.params d.body d.scope (d.dvs T.K) [] (He.fAd T.K d.at_) fd ∧ FnG P w T.K mg base k (He.fAd T.K d.at_) fd ps (spI T ps.length m)
theorem OkF.mono {T : Tb} {P : Program} {w : World} {mg : Str → Option Value} {base : Heap} {j k : Nat} {d : He.DefD} {ps : List Str} {m : Fn} (F : OkF T P w mg base j d ps m) (h : j ≤ k) : OkF T P w mg base k d ps m := by
  obtain ⟨fd, F1, F2⟩ := F.ex
  exact ⟨fd, F1, F2.mono h⟩
theorem OkF.mk' {P : Program} {w : World} {mg : Str → Option Value} {base : Heap} {k : Nat} {d : He.DefD} {ps N : List Str} {body : ES} {fd : FuncData}
    (F : FunD T.K d.name d.qual d.params d.body d.scope (d.dvs T.K) [] (He.fAd T.K d.at_) fd) (Sc : FnScope N ps d.scope)
    (h : ∀ (cdv : Value) (A : Around) (outer : List PySem.Env) (s : Shared) (H : Hp) (E : XK), RG k (A.deeper (envOfC d.qual d.scope s.heap.objs.size (He.fAd T.K d.at_) cdv)) →
      ISs T E (cxOf (L2.CX P w) P w T.K mg base N d.qual d.scope (He.fAd T.K d.at_) cdv A outer s H E) d.body body) : OkF T P w mg base (k + 1) d ps (fnM N.length body) := by
  refine ⟨fd, F, ?_⟩
  obtain ⟨oc, od, dV, kV, doc, pm, an, cdv, ct, osl, rfl, lk, hcd, _, _⟩ := F.ex
  refine fnG_of lk hcd Sc (fun vs H Q E h => h.1) fun A outer s H vs Q E hr hsp => ⟨_, h cdv A outer s H E hr, ?_⟩
  obtain ⟨hl, w0, ds, S, r, q, hm⟩ := hsp
  refine ⟨w0, _, S, r, er_start q, (RP.bnd hm).mono (fun c S1 h1 => ?_) fun _ _ _ x => x⟩
  cases c with
  | rt d => exact h1
  | nx e => exact fun w' H' σ' l r' q' => h1 w' H' .non l r' .non
  | bk e => exact (show False from h1).elim
  | ct e => exact (show False from h1).elim
end Ro
end
section
set_option Elab.async false
set_option linter.all false
set_option maxRecDepth 100000
set_option maxHeartbeats 4000000
namespace Ro
open PySem PySem.Spec PyProof.Rows L2
variable {T : Tb} {E : XK} {X : Cx} {a b c : Expr} {es : List Expr} {f g h : EX} {fa ga fk : AX} {fb gb : BX} {pos : Pos} {st : Stmt} {sts rest : List Stmt} {s t : ES}
theorem reps_get_none {w : Wd} {xs : List D} {us : List V} (r : Reps T w xs us) {i : Nat} (h : xs[i]? = none) : us[i]? = none := by
  have e := List.getElem?_eq_none_iff.mp h
  exact List.getElem?_eq_none_iff.mpr (by rw [← r.length]; exact e)
theorem vals_pick : ∀ (pk : List (Nat × Nat)) {vs ds zs : List V} {us its ws : List Value}, Vals vs us → Vals ds its → Vals zs ws → Vals (pick pk vs ds zs) (pick pk us its ws)
  | [], _, _, _, _, _, _, _, _, _ => .nil
  | q :: pk, vs, ds, zs, us, its, ws, h1, h2, h3 => by
    have ih := vals_pick pk h1 h2 h3
    have key : ∀ {xs : List V} {ys : List Value}, Vals xs ys → Vals (xs[q.2]?).toList (ys[q.2]?).toList := fun {xs ys} r => by
      cases e : xs[q.2]? with
      | none => rw [r.none_of e]; exact .nil
      | some x =>
        obtain ⟨y, e1, e2⟩ := r.get e
        rw [e1]
        exact .cons e2 .nil
    show Vals (((if q.1 = 0 then vs else if q.1 = 1 then ds else zs)[q.2]?).toList ++ pick pk vs ds zs) (((if q.1 = 0 then us else if q.1 = 1 then its else ws)[q.2]?).toList ++ pick pk us its ws)
    refine Vals.append ?_ ih
    by_cases c1 : q.1 = 0
    · rw [if_pos c1, if_pos c1]; exact key h1
    · rw [if_neg c1, if_neg c1]
      by_cases c2 : q.1 = 1
      · rw [if_pos c2, if_pos c2]; exact key h2
      · rw [if_neg c2, if_neg c2]; exact key h3
theorem reps_pick {w : Wd} : ∀ (pk : List (Nat × Nat)) {vs ds zs : List D} {us its ws : List V}, Reps T w vs us → Reps T w ds its → Reps T w zs ws → Reps T w (pick pk vs ds zs) (pick pk us its ws)
  | [], _, _, _, _, _, _, _, _, _ => .nil
  | q :: pk, vs, ds, zs, us, its, ws, h1, h2, h3 => by
    have ih := reps_pick pk h1 h2 h3
    have key : ∀ {xs : List D} {ys : List V}, Reps T w xs ys → Reps T w (xs[q.2]?).toList (ys[q.2]?).toList := fun {xs ys} r => by
      cases e : xs[q.2]? with
      | none => rw [reps_get_none r e]; exact .nil
      | some x =>
        obtain ⟨y, e1, e2⟩ := r.get e
        rw [e1]
        exact .cons e2 .nil
    show Reps T w (((if q.1 = 0 then vs else if q.1 = 1 then ds else zs)[q.2]?).toList ++ pick pk vs ds zs) (((if q.1 = 0 then us else if q.1 = 1 then its else ws)[q.2]?).toList ++ pick pk us its ws)
    refine Reps.append ?_ ih
    by_cases c1 : q.1 = 0
    · rw [if_pos c1, if_pos c1]; exact key h1
    · rw [if_neg c1, if_neg c1]
      by_cases c2 : q.1 = 1
      · rw [if_pos c2, if_pos c2]; exact key h2
      · rw [if_neg c2, if_neg c2]; exact key h3
/-- a call's binding -/
structure KBD (T : Tb) (fd : FuncData) (ps : List Str) (n : Nat) (ks : List Str) (pk : List (Nat × Nat)) (dfs : List D) : Prop where
  ex : ∃ its dvs, KBn T.K fd ps n ks (fun us ws => pick pk us its ws) (fun vs zs => pick pk vs dvs zs) ∧ ∀ w, Reps T w dfs dvs
def dvD : He.Dv → D
  | .bl b => .bl b
  | .int i => .int i
  | .str s => .str s
  | _ => .non
def dvOk : He.Dv → Bool
  | .non => true
  | .bl _ => true
  | .int _ => true
  | .str _ => true
  | _ => false
theorem reps_dfl {K : PySem.W.Frag} {w : Wd} : ∀ {l : List He.Dv}, l.all dvOk = true → Reps T w (l.map dvD) (l.map (He.Dv.v K))
  | [], _ => .nil
  | d :: l, h => by
    obtain ⟨h1, h2⟩ := Bool.and_eq_true_iff.mp (show (dvOk d && l.all dvOk) = true from h)
    refine .cons ?_ (reps_dfl h2)
    cases d <;> first | exact .non | exact .bl _ | exact .int _ | exact .str _ | cases h1
/-- no default is asked -/
theorem kbd_n {x qual : Str} {params : Arguments} {body : List Stmt} {scope : Scope} {f : Addr} {fd : FuncData} {ps ks : List Str} {n : Nat} {pk : List (Nat × Nat)} (F : FunD T.K x qual params body scope [] [] f fd)
    (h : ∀ (kV doc pm : Value) (an : Option Addr) (cdv ct : Value) (us ws : List Value), us.length = n → ws.length = ks.length → bindArgs (PySem.W.fnOf x qual params body scope .none kV doc pm an cdv ct) ⟨us, ks.zip ws⟩ = pure (ps.zip (pick pk us [] ws))) : KBD T fd ps n ks pk [] := by
  obtain ⟨oc, od, dV, kV, doc, pm, an, cdv, ct, osl, rfl, lk, hcd, hD, hK⟩ := F.ex
  rcases hD with ⟨_, rfl⟩ | ⟨e, _⟩
  · exact ⟨[], [], ⟨fun s us ws X l1 l2 => .of_eq (h kV doc pm an cdv ct us ws l1 l2), fun r1 r2 => vals_pick pk r1 .nil r2⟩, fun _ => .nil⟩
  · exact absurd rfl e
theorem kbd_d {x qual : Str} {params : Arguments} {body : List Stmt} {scope : Scope} {f : Addr} {fd : FuncData} {ps ks : List Str} {n : Nat} {pk : List (Nat × Nat)} {l : List He.Dv} (F : FunD T.K x qual params body scope (l.map (He.Dv.v T.K)) [] f fd) (hl : l.all dvOk = true) (hd : l ≠ [])
    (h : ∀ (T : Addr) (kV doc pm : Value) (an : Option Addr) (cdv ct : Value) (us its ws : List Value), us.length = n → its.length = l.length → ws.length = ks.length →
      ∃ k, bindArgs (PySem.W.fnOf x qual params body scope (.ref T) kV doc pm an cdv ct) ⟨us, ks.zip ws⟩ = seqItems? (.ref T) >>= k ∧ k (some its.toArray) = pure (ps.zip (pick pk us its ws))) : KBD T fd ps n ks pk (l.map dvD) := by
  obtain ⟨its, hb⟩ := F.kbindsD (ps := ps) n ks (fun us its ws => pick pk us its ws) (by simpa using hd) (fun r1 r2 r3 => vals_pick pk r1 r2 r3) (fun T kV doc pm an cdv ct us its ws h1 h2 h3 => h T kV doc pm an cdv ct us its ws h1 (by simpa using h2) h3)
  exact ⟨its, _, hb, fun w => reps_dfl hl⟩
def IK (T : Tb) (E : XK) (X : Cx) (kws : List Keyword) (fa : AX) : Prop := PK X kws (tIa T E fa)
theorem PK.mono {X : Cx} {es : List Keyword} {t t' : TA} (h : PK X es t) (k : ∀ σ H Q, t' σ H Q → t σ H Q) : PK X es t' := ⟨fun pos pins s σ H Q I q => h.run pos pins s σ H Q I (k _ _ _ q)⟩
theorem ik_nil : IK T E X [] aNil := PK.mono pk_nil fun σ H Q ⟨w, env, S, r, e, q⟩ => q w H [] (Wd.le.refl _) r .nil
theorem ik_cons {kws : List Keyword} {nm : Option Str} {kpos : Pos} (ha : IE T E X a f) (hr : IK T E X kws fa) : IK T E X (⟨nm, a, kpos⟩ :: kws) (aCons f fa) :=
  PK.mono (pk_cons ha hr) fun σ H Q ⟨w, env, S, r, e, q⟩ => ⟨w, env, S, r, e, (RP.bnd q).mono (fun d S1 h1 w1 H1 x l1 r1 p1 => ⟨w1, env, S1, r1, e.mono l1, (RP.bnd h1).mono (fun ds S2 h2 w2 H2 xs l2 r2 p2 => h2 w2 H2 _ (l1.trans l2) r2 (.cons (p1.mono l2) p2)) fun _ _ _ x => x.le l1⟩) fun _ _ _ x => x⟩
abbrev Pk (T : Tb) (w : Wd) (Q : VK) : D → Store → Prop := fun d S' => ∀ w' H' v, w.le w' → WR T w' S' H' → Rep T w' d v → Q v H'
def AK (T : Tb) (E : XK) (X : Cx) (es : List Expr) (kws : List Keyword) (pos : Pos) (ks : List Str) (fa fk : AX) : Prop :=
  ∀ (pins : List (Addr × Obj)) (s : Shared) (σ : St) (H : Hp) (w : Wd) (env : Env) (S : Store) (m : List D → List D → Store → R D) (Q : VK) (fv : Value) (first : List Value) (Qf : Value → Shared → Prop),
    Inv X pins σ H s → WR T w S H → ER T w env σ → PySem.W.keepIn X.K fv = true → RP ((fa env S).bnd fun xs S1 => (fk env S1).bnd fun zs S2 => m xs zs S2) (Pk T w Q) (XW T w E) →
    (∀ s2 H2 us ws vs zs w2 xs ys S2, Inv X pins σ H2 s2 → w.le w2 → WR T w2 S2 H2 → Vals vs us → Vals zs ws → Reps T w2 xs vs → Reps T w2 ys zs → RP (m xs ys S2) (Pk T w2 Q) (XW T w2 E) → wpAny (model X.prog X.w) X.A (call fv (first ++ us) (ks.zip ws)) Qf X.xe s2) →
    wpAny (model X.prog X.w) X.A (callWith pos fv first (backTo pos (starEach es X.env)) (backToKw pos (keywordEach kws X.env))) Qf X.xe s
theorem ak_cons {kws : List Keyword} {ks : List Str} (ha : IA T E X (a :: es) fa) (hkw : IK T E X kws fk) (hall : (backToKw pos (keywordEach kws X.env)).all (·.1.isSome) = true := by rfl) (hks : (backToKw pos (keywordEach kws X.env)).filterMap (·.1) = ks := by rfl)
    (he : starEach (a :: es) X.env = (false, eval a X.env) :: starEach es X.env := by rfl) (hpl : ((backTo pos (starEach (a :: es) X.env)).any (·.1) || (backToKw pos (keywordEach kws X.env)).any (·.1.isNone)) = false := by rfl) : AK T E X (a :: es) kws pos ks fa fk := by
  intro pins s σ H w env S m Q fv first Qf I r e hk q k
  refine PySem.W.callWith_KW (h₀ := X.base) I.ok.mod.kin hk hall (thn (ha.run pos pins s σ H (fun vs2 H2 => ∃ w1 xs S1, w.le w1 ∧ WR T w1 S1 H2 ∧ Reps T w1 xs vs2 ∧ RP ((fk env S1).bnd fun zs S2 => m xs zs S2) (Pk T w Q) (XW T w E)) I ⟨w, env, S, r, e, (RP.bnd q).mono (fun xs S1 h1 w1 H1 vs l1 r1 p1 => ⟨w1, xs, S1, l1, r1, p1, h1⟩) fun _ _ _ x => x⟩) fun us s1 ⟨vs, H1, I1, rv, q1⟩ => ?_) hpl he
  · obtain ⟨w1, xs, S1, l1, r1, p1, h1⟩ := q1
    refine thn (hkw.run pos pins s1 σ H1 (fun zs H2 => ∃ w2 ys S2, w1.le w2 ∧ WR T w2 S2 H2 ∧ Reps T w2 ys zs ∧ RP (m xs ys S2) (Pk T w Q) (XW T w E)) I1 ⟨w1, env, S1, r1, e.mono l1, (RP.bnd h1).mono (fun ys S2 h2 w2 H2 zs l2 r2 p2 => ⟨w2, ys, S2, l2, r2, p2, h2⟩) fun _ _ _ x => x.le l1⟩) fun ws s2 ⟨zs, H2, I2, rz, w2, ys, S2, l2, r2, p2, h2⟩ => ⟨I2.kIn, ?_⟩
    rw [hks]
    exact k s2 H2 us ws vs zs w2 xs ys S2 I2 (l1.trans l2) r2 rv rz (p1.mono l2) p2 (RP.mono h2 (fun d S' q w' H' v l => q w' H' v ((l1.trans l2).trans l)) fun _ _ _ x => x.le (l1.trans l2))
theorem ak_nil {kws : List Keyword} {ks : List Str} (hkw : IK T E X kws fk) (hall : (backToKw pos (keywordEach kws X.env)).all (·.1.isSome) = true := by rfl) (hks : (backToKw pos (keywordEach kws X.env)).filterMap (·.1) = ks := by rfl)
    (hpl : ((backTo pos (starEach [] X.env)).any (·.1) || (backToKw pos (keywordEach kws X.env)).any (·.1.isNone)) = false := by rfl) : AK T E X [] kws pos ks aNil fk := by
  intro pins s σ H w env S m Q fv first Qf I r e hk q k
  refine PySem.W.callWith_KW0 (h₀ := X.base) I.ok.mod.kin hk hall (thn (hkw.run pos pins s σ H (fun zs H2 => ∃ w2 ys S2, w.le w2 ∧ WR T w2 S2 H2 ∧ Reps T w2 ys zs ∧ RP (m [] ys S2) (Pk T w Q) (XW T w E)) I ⟨w, env, S, r, e, (RP.bnd (show RP ((fk env S).bnd fun ys S2 => m [] ys S2) (Pk T w Q) (XW T w E) from q)).mono (fun ys S2 h2 w2 H2 zs l2 r2 p2 => ⟨w2, ys, S2, l2, r2, p2, h2⟩) fun _ _ _ x => x⟩) fun ws s2 ⟨zs, H2, I2, rz, w2, ys, S2, l2, r2, p2, h2⟩ => ⟨I2.kIn, ?_⟩) hpl
  rw [hks]
  exact k s2 H2 [] ws [] zs w2 [] ys S2 I2 l2 r2 .nil rz .nil p2 (RP.mono h2 (fun d S' q w' H' v l => q w' H' v (l2.trans l)) fun _ _ _ x => x.le l2)
theorem fn_core {k n : Nat} {fd : FuncData} {fp : Addr} {ps ks : List Str} {m : Fn} {pk : List (Nat × Nat)} {dfs : List D} (F : FnG X.prog X.w T.K X.mg X.base k fp fd ps (spI T ps.length m)) (hK : X.K = T.K) (hr : RG k X.A) (hb : KBD T fd ps n ks pk dfs) (tk : Takes X fun c d _ H => E c d H)
    {pins : List (Addr × Obj)} {s : Shared} {σ : St} {H : Hp} {w : Wd} {S : Store} {us ws : List Value} {vs zs : List V} {xs ys : List D} {Q : VK} (I : Inv X pins σ H s) (r : WR T w S H) (rv : Vals vs us) (rz : Vals zs ws) (px : Reps T w xs vs) (py : Reps T w ys zs)
    (l1 : xs.length = n) (l2 : ys.length = ks.length) (l3 : (pick pk xs dfs ys).length = ps.length) (q : RP (m (pick pk xs dfs ys) S) (Pk T w Q) (XW T w E)) : wpAny (model X.prog X.w) X.A (call (.ref fp) us (ks.zip ws)) (EP X pins σ Q) X.xe s := by
  obtain ⟨its, dvs, kb, rd⟩ := hb.ex
  have F' : FnG X.prog X.w X.K X.mg X.base k fp fd ps (spI T ps.length m) := by rw [hK]; exact F
  have kb' : KBn X.K fd ps n ks (fun us ws => pick pk us its ws) (fun vs zs => pick pk vs dvs zs) := by rw [hK]; exact kb
  have pp := reps_pick pk px (rd w) py
  exact FnG.callBy F' hr kb' (passes_call tk fun _ _ _ _ h => h) I rv rz (by rw [← px.length]; exact l1) (by rw [← py.length]; exact l2) ⟨by rw [← pp.length]; exact l3, w, _, S, r, pp, q⟩
/-- how many, and put -/
def callM (m : Fn) (n kn pn : Nat) (pk : List (Nat × Nat)) (dfs : List D) : List D → List D → Store → R D := fun xs ys S => if xs.length = n ∧ ys.length = kn ∧ (pick pk xs dfs ys).length = pn then m (pick pk xs dfs ys) S else .bad
def eFn (m : List D → List D → Store → R D) (fa fk : AX) : EX := fun env S => (fa env S).bnd fun xs S1 => (fk env S1).bnd fun zs S2 => m xs zs S2
theorem callM_ok {m : Fn} {n kn pn : Nat} {pk : List (Nat × Nat)} {dfs xs ys : List D} {S : Store} {Pk : D → Store → Prop} {Pe : String → List D → Store → Prop} (h : RP (callM m n kn pn pk dfs xs ys S) Pk Pe) :
    xs.length = n ∧ ys.length = kn ∧ (pick pk xs dfs ys).length = pn ∧ RP (m (pick pk xs dfs ys) S) Pk Pe := by
  unfold callM at h
  by_cases c : xs.length = n ∧ ys.length = kn ∧ (pick pk xs dfs ys).length = pn
  · rw [if_pos c] at h
    exact ⟨c.1, c.2.1, c.2.2, h⟩
  · rw [if_neg c] at h
    exact (show False from h).elim
/-- f(.., k = ..) -/
theorem ie_fn {k n : Nat} {d : He.DefD} {x : Str} {p : Pos} {kws : List Keyword} {ps ks : List Str} {m : Fn} {pk : List (Nat × Nat)} {dfs : List D} (F : OkF T X.prog X.w X.mg X.base k d ps m) (hK : X.K = T.K) (hr : RG k X.A) (hg : Gl X x) (hm : X.mg x = some (.ref (He.fAd T.K d.at_)))
    (hb : ∀ fd, FunD T.K d.name d.qual d.params d.body d.scope (d.dvs T.K) [] (He.fAd T.K d.at_) fd → KBD T fd ps n ks pk dfs) (tk : Takes X fun c d _ H => E c d H) (ha : AK T E X es kws pos ks fa fk) (hdb : (x == ("__debug__" : Str)) = false := by decide +kernel) :
    IE T E X (.Call (.Name x p) es kws pos) (eFn (callM m n ks.length ps.length pk dfs) fa fk) := by
  obtain ⟨fd, FD, FO⟩ := F.ex
  refine ⟨fun pins s σ H Q I h => ?_⟩
  obtain ⟨w, env, S, r, e, q⟩ := h
  refine wpAny_Call_Name_kw (ld_glob I hg hm ?_ hdb)
  refine ha pins s σ H w env S _ Q _ [] _ I r e (by rw [hK]; exact FD.kp) q fun s2 H2 us ws vs zs w2 xs ys S2 I2 l2 r2 rv rz px py q2 => ?_
  obtain ⟨c1, c2, c3, q3⟩ := callM_ok q2
  exact fn_core FO hK hr (hb fd FD) tk I2 r2 rv rz px py c1 c2 c3 q3
end Ro
end
section
set_option Elab.async false
set_option linter.all false
set_option maxRecDepth 100000
set_option maxHeartbeats 4000000
namespace Ro
open PySem PySem.Spec PyProof.Rows L2
variable {T : Tb} {E : XK} {X : Cx} {a b c : Expr} {es : List Expr} {f g h : EX} {fa ga fk : AX} {fb gb : BX} {pos : Pos} {st : Stmt} {sts rest : List Stmt} {s t : ES}
theorem lookup_rep {w : Wd} {f : String} {d : D} : ∀ {fs : List (String × D)} {gs : List (Str × V)}, gs.map (·.1) = fs.map (fun p => Str.ofString p.1) → Reps T w (fs.map (·.2)) (gs.map (·.2)) → fs.lookup f = some d → ∃ v, gs.lookup (Str.ofString f) = some v ∧ Rep T w d v
  | [], _, _, _, h => by cases h
  | (k, e) :: fs, [], h1, _, _ => by cases h1
  | (k, e) :: fs, (k2, v) :: gs, h1, h2, h3 => by
    have h1' : k2 :: gs.map (·.1) = Str.ofString k :: fs.map (fun p => Str.ofString p.1) := h1
    injection h1' with e1 e2
    have h2' : Reps T w (e :: fs.map (·.2)) (v :: gs.map (·.2)) := h2
    cases h2' with
    | cons r1 r2 =>
      rw [List.lookup_cons] at h3 ⊢
      by_cases hk : f = k
      · subst hk
        rw [beq_self_eq_true] at h3
        have e3 : e = d := Option.some.inj h3
        subst e3
        rw [e1, beq_self_eq_true]
        exact ⟨v, rfl, r1⟩
      · rw [beq_eq_false_iff_ne.mpr hk] at h3
        have hk2 : Str.ofString f ≠ k2 := fun z => hk (ofString_inj.mp (z.trans e1))
        rw [beq_eq_false_iff_ne.mpr hk2]
        exact lookup_rep e2 r2 h3
theorem lookup_none {f : String} : ∀ {fs : List (String × D)} {gs : List (Str × V)}, gs.map (·.1) = fs.map (fun p => Str.ofString p.1) → fs.lookup f = none → gs.lookup (Str.ofString f) = none
  | [], [], _, _ => rfl
  | [], _ :: _, h, _ => by cases h
  | (k, e) :: fs, [], h1, _ => by cases h1
  | (k, e) :: fs, (k2, v) :: gs, h1, h3 => by
    have h1' : k2 :: gs.map (·.1) = Str.ofString k :: fs.map (fun p => Str.ofString p.1) := h1
    injection h1' with e1 e2
    rw [List.lookup_cons] at h3 ⊢
    by_cases hk : f = k
    · subst hk
      rw [beq_self_eq_true] at h3
      cases h3
    · rw [beq_eq_false_iff_ne.mpr hk] at h3
      have hk2 : Str.ofString f ≠ k2 := fun z => hk (ofString_inj.mp (z.trans e1))
      rw [beq_eq_false_iff_ne.mpr hk2]
      exact lookup_none e2 h3
theorem put_rep {w : Wd} {f : String} {d : D} {v : V} (q : Rep T w d v) : ∀ {fs : List (String × D)} {gs : List (Str × V)}, gs.map (·.1) = fs.map (fun p => Str.ofString p.1) → Reps T w (fs.map (·.2)) (gs.map (·.2)) →
    (putF (Str.ofString f) v gs).map (·.1) = (setF f d fs).map (fun p => Str.ofString p.1) ∧ Reps T w ((setF f d fs).map (·.2)) ((putF (Str.ofString f) v gs).map (·.2))
  | [], [], _, _ => ⟨rfl, .cons q .nil⟩
  | [], _ :: _, h, _ => by cases h
  | (k, e) :: fs, [], h1, _ => by cases h1
  | (k, e) :: fs, (k2, u) :: gs, h1, h2 => by
    have h1' : k2 :: gs.map (·.1) = Str.ofString k :: fs.map (fun p => Str.ofString p.1) := h1
    injection h1' with e1 e2
    have h2' : Reps T w (e :: fs.map (·.2)) (u :: gs.map (·.2)) := h2
    cases h2' with
    | cons r1 r2 =>
      show (if k2 = Str.ofString f then (k2, v) :: gs else (k2, u) :: putF (Str.ofString f) v gs).map (·.1) = (if k = f then (f, d) :: fs else (k, e) :: setF f d fs).map (fun p => Str.ofString p.1) ∧ Reps T w ((if k = f then (f, d) :: fs else (k, e) :: setF f d fs).map (·.2)) ((if k2 = Str.ofString f then (k2, v) :: gs else (k2, u) :: putF (Str.ofString f) v gs).map (·.2))
      by_cases hk : k = f
      · subst hk
        rw [if_pos e1, if_pos rfl]
        exact ⟨by rw [List.map_cons, List.map_cons, e2, e1], .cons q r2⟩
      · rw [if_neg hk, if_neg (fun z => hk (ofString_inj.mp (e1.symm.trans z)))]
        obtain ⟨h3, h4⟩ := put_rep q e2 r2
        exact ⟨by rw [List.map_cons, List.map_cons, e1, h3], .cons r1 h4⟩
theorem zip_fst : ∀ {ns : List String} {ds : List D}, ns.length = ds.length → (ns.zip ds).map (fun p => Str.ofString p.1) = ns.map Str.ofString ∧ (ns.zip ds).map (·.2) = ds
  | [], [], _ => ⟨rfl, rfl⟩
  | [], _ :: _, h => by cases h
  | _ :: _, [], h => by cases h
  | n :: ns, d :: ds, h => by
    obtain ⟨h1, h2⟩ := zip_fst (ns := ns) (ds := ds) (Nat.succ.inj h)
    exact ⟨by rw [List.zip_cons_cons, List.map_cons, List.map_cons, h1], by rw [List.zip_cons_cons, List.map_cons, h2]⟩
/-- a thing with fields, as it lies -/
theorem inst_of {w : Wd} {S : Store} {H : Hp} {x : V} {cf : String → List String} (hcf : T.cf = cf) (r : WR T w S H) {d : D} (p : Rep T w d x) :
    (∀ c ds, d = .obj c ds → ∃ a dx gs, x = .ref a ∧ H a = some (.ins (He.ga T.K (c : Str)) dx gs) ∧ gs.map (·.1) = ((cf c).zip ds).map (fun p => Str.ofString p.1) ∧ Reps T w (((cf c).zip ds).map (·.2)) (gs.map (·.2))) ∧
    (∀ n c fs, d = .ref n → S[n]? = some (.ins c fs) → ∃ a dx gs, x = .ref a ∧ w.am[n]? = some a ∧ H a = some (.ins (He.ga T.K (c : Str)) dx gs) ∧ gs.map (·.1) = fs.map (fun p => Str.ofString p.1) ∧ Reps T w (fs.map (·.2)) (gs.map (·.2))) := by
  constructor
  · rintro c ds rfl
    cases p with
    | obj h n q =>
      rename_i a dx fs
      have hl : (cf c).length = ds.length := by
        rw [hcf] at n
        have e := congrArg List.length n
        rw [List.length_map, List.length_map] at e
        rw [q.length, List.length_map]
        exact e.symm
      obtain ⟨z1, z2⟩ := zip_fst hl
      exact ⟨a, dx, fs, rfl, r.sub _ _ h, by rw [z1, n, hcf], by rw [z2]; exact q⟩
  · rintro n c fs rfl hS
    cases p with
    | ref h =>
      obtain ⟨dx, gs, h1, h2, h3⟩ := r.cell n _ _ hS h
      exact ⟨_, dx, gs, rfl, h, h1, h2, h3⟩
theorem ie_attr {cf : String → List String} {cs : List String} {fn : String} (hcf : T.cf = cf) (hK : X.K = T.K) (hc : ∀ c ∈ cs, Cls T.K (He.ga T.K (c : Str)) ∧ NoAttr T.K (He.ga T.K (c : Str)) (fn : Str)) (ha : IE T E X a f) (hb : attributeBase a (fn : Str) X.env (eval a X.env) = eval a X.env := by rfl) :
    IE T E X (.Attribute a (fn : Str) pos) (eAttr cf cs fn f) :=
  PE.mono (pe_fld ha hb) fun σ H Q ⟨w, env, S, r, e, q⟩ => ⟨w, env, S, r, e, (RP.bnd q).mono (fun d S1 h1 w1 H1 x l1 r1 p1 => by
    cases z : attrD cf cs fn d S1 with
    | none => rw [z] at h1; exact (show False from h1).elim
    | some y =>
      rw [z] at h1
      obtain ⟨i1, i2⟩ := inst_of hcf r1 p1
      unfold attrD at z
      split at z
      · rename_i c ds
        by_cases hcs : cs.contains c = true
        · rw [if_pos hcs] at z
          obtain ⟨p, dx, gs, rfl, h3, h4, h5⟩ := i1 c ds rfl
          obtain ⟨v, h6, h7⟩ := lookup_rep h4 h5 z
          obtain ⟨c1, c2⟩ := hc c (by simpa using hcs)
          rw [hK]
          exact ⟨p, _, dx, gs, v, rfl, h3, c1, c2, h6, h1 w1 H1 v l1 r1 h7⟩
        · rw [if_neg hcs] at z; cases z
      · rename_i n
        split at z
        · rename_i c fs hS
          by_cases hcs : cs.contains c = true
          · rw [if_pos hcs] at z
            obtain ⟨p, dx, gs, rfl, _, h3, h4, h5⟩ := i2 n c fs rfl hS
            obtain ⟨v, h6, h7⟩ := lookup_rep h4 h5 z
            obtain ⟨c1, c2⟩ := hc c (by simpa using hcs)
            rw [hK]
            exact ⟨p, _, dx, gs, v, rfl, h3, c1, c2, h6, h1 w1 H1 v l1 r1 h7⟩
          · rw [if_neg hcs] at z; cases z
        · cases z
      · cases z) fun _ _ _ x => x⟩
theorem is_setattr {cs : List String} {fn : String} {pos' : Pos} (hK : X.K = T.K) (hc : ∀ c ∈ cs, Cls T.K (He.ga T.K (c : Str)) ∧ NoAttr T.K (He.ga T.K (c : Str)) (fn : Str)) (ho : IE T E X a f) (hv : IE T E X b g) (hs : swapsWith b (some (.Attribute a (fn : Str) pos')) pos.line X.env = pure false := by rfl) :
    IS T E X (.Assign [.Attribute a (fn : Str) pos'] b pos) (sSetAttr cs fn f g) :=
  PS.mono (ps_fld ho hv hs) fun D σ H ⟨w, env, S, r, e, q⟩ => ⟨w, env, S, r, e, (RP.bnd q).mono (fun y S1 h1 w1 H1 yv l1 r1 p1 => ⟨w1, env, S1, r1, e.mono l1, (RP.bnd h1).mono (fun x S2 h2 w2 H2 xv l2 r2 p2 => by
    split at h2
    · rename_i n
      split at h2
      · rename_i c fs hS
        by_cases hcs : (cs.contains c && decide (fs.length < 1000)) = true
        · rw [if_pos hcs] at h2
          obtain ⟨k1, k2⟩ := Bool.and_eq_true_iff.mp hcs
          obtain ⟨p, dx, gs, rfl, hn, h3, h4, h5⟩ := (inst_of rfl r2 p2).2 n c fs rfl hS
          obtain ⟨c1, c2⟩ := hc c (by simpa using k1)
          have hlen : gs.length < 1000 := by
            have e1 := congrArg List.length h4
            rw [List.length_map, List.length_map] at e1
            rw [e1]
            exact of_decide_eq_true k2
          obtain ⟨h6, h7⟩ := put_rep (T := T) (w := w2) (f := fn) (p1.mono l2) h4 h5
          have r3 := r2.write hS hn (by intro z; cases z) (o' := .ins (He.ga T.K (c : Str)) dx (putF (Str.ofString fn) yv gs)) (c' := .ins c (setF fn y fs)) ⟨dx, _, upd_same, h6, h7⟩
          rw [hK]
          exact ⟨p, _, dx, gs, rfl, h3, c1, c2, hlen, h2 w2 _ σ (l1.trans l2) r3 (e.mono (l1.trans l2))⟩
        · rw [if_neg hcs] at h2; exact (show False from h2).elim
      · exact (show False from h2).elim
    · exact (show False from h2).elim) fun _ _ _ x => x.le l1⟩) fun _ _ _ x => x⟩
theorem inst_at {w : Wd} {S : Store} {H : Hp} {x : V} {cf : String → List String} {c m : String} {d : D} (hcf : T.cf = cf) (r : WR T w S H) (p : Rep T w d x) (h : isInst cf c m d S = true) : ∃ a dx gs, x = .ref a ∧ H a = some (.ins (He.ga T.K (c : Str)) dx gs) ∧ gs.lookup (Str.ofString m) = none := by
  obtain ⟨i1, i2⟩ := inst_of hcf r p
  unfold isInst at h
  split at h
  · rename_i c' ds
    obtain ⟨h1, h2⟩ := Bool.and_eq_true_iff.mp h
    have e : c' = c := by simpa using h1
    subst e
    obtain ⟨a, dx, gs, e1, e2, e3, e4⟩ := i1 c' ds rfl
    refine ⟨a, dx, gs, e1, e2, lookup_none e3 ?_⟩
    have hn : m ∉ cf c' := by simpa using h2
    rw [List.lookup_eq_none_iff]
    rintro ⟨k, v⟩ hp
    have hk : k ∈ cf c' := (List.of_mem_zip hp).1
    simp only [bne_iff_ne, ne_eq, beq_eq_false_iff_ne]
    intro z
    subst z
    exact hn hk
  · rename_i n
    split at h
    · rename_i c' fs hS
      obtain ⟨h1, h2⟩ := Bool.and_eq_true_iff.mp h
      have e : c' = c := by simpa using h1
      subst e
      obtain ⟨a, dx, gs, e1, _, e2, e3, e4⟩ := i2 n c' fs rfl hS
      exact ⟨a, dx, gs, e1, e2, lookup_none e3 (by simpa using h2)⟩
    · cases h
  · cases h
theorem ie_meth {cf : String → List String} {cn mn : String} {k n : Nat} {d : He.DefD} {apos : Pos} {pl : Sem Bool} {kws : List Keyword} {ps ks : List Str} {m : Fn} {pk : List (Nat × Nat)} {dfs : List D} (hcf : T.cf = cf) (F : OkF T X.prog X.w X.mg X.base k d ps m) (hK : X.K = T.K) (hr : RG k X.A)
    (hc : Cls T.K (He.ga T.K (cn : Str))) (hm : Meth T.K (He.ga T.K (cn : Str)) (mn : Str) (He.fAd T.K d.at_))
    (hb : ∀ fd, FunD T.K d.name d.qual d.params d.body d.scope (d.dvs T.K) [] (He.fAd T.K d.at_) fd → KBD T fd ps (n + 1) ks pk dfs) (tk : Takes X fun c d _ H => E c d H) (ho : IE T E X a f) (ha : AK T E X es kws pos ks fa fk)
    (ht : eval (.Call (.Attribute a (mn : Str) apos) es kws pos) X.env = (do
      let ov ← eval a X.env
      standAt apos.atName
      let (f, first) ← holding [ov] (getMethod ov (mn : Str) pl)
      callWith pos f first (backTo pos (starEach es X.env)) (backToKw pos (keywordEach kws X.env))) := by rfl) :
    IE T E X (.Call (.Attribute a (mn : Str) apos) es kws pos) (eMeth cf cn mn (callM m (n + 1) ks.length ps.length pk dfs) f fa fk) := by
  obtain ⟨fd, FD, FO⟩ := F.ex
  refine ⟨fun pins s σ H Q I h => ?_⟩
  obtain ⟨w, env, S, r, e, q⟩ := h
  refine PySem.W.methodCall_KW (pl := pl) (thn (ho.run pins s σ H (fun x H1 => ∃ w1 d1 S1, w.le w1 ∧ WR T w1 S1 H1 ∧ Rep T w1 d1 x ∧ isInst cf cn mn d1 S1 = true ∧ RP ((fa env S1).bnd fun xs S2 => (fk env S2).bnd fun zs S3 => callM m (n + 1) ks.length ps.length pk dfs (d1 :: xs) zs S3) (Pk T w Q) (XW T w E)) I ⟨w, env, S, r, e, (RP.bnd q).mono (fun d1 S1 h1 w1 H1 x l1 r1 p1 => by
    by_cases hi : isInst cf cn mn d1 S1 = true
    · rw [if_pos hi] at h1
      exact ⟨w1, d1, S1, l1, r1, p1, hi, h1⟩
    · rw [if_neg hi] at h1
      exact (show False from h1).elim) fun _ _ _ x => x⟩) fun u s1 ⟨x, H1, I1, rx, w1, d1, S1, l1, r1, p1, hi, h1⟩ => ?_) ht
  obtain ⟨p, dx, gs, rfl, h3, h4⟩ := inst_at hcf r1 p1 hi
  obtain rfl : u = Value.ref p := rx
  refine getmeth_ok I1 h3 (by rw [hK]; exact hc) (by rw [hK]; exact hm) h4 ?_
  refine ha pins s1 σ H1 w1 env S1 _ Q _ [.ref p] _ I1 r1 (e.mono l1) (by rw [hK]; exact hm.kp) (RP.mono h1 (fun d S' q w' H' v l => q w' H' v (l1.trans l)) fun _ _ _ x => x.le l1) fun s2 H2 us ws vs zs w2 xs ys S2 I2 l2 r2 rv rz px py q2 => ?_
  obtain ⟨c1, c2, c3, q3⟩ := callM_ok q2
  exact fn_core FO hK hr (hb fd FD) tk I2 r2 (.cons (show RelV (V.ref p) (Value.ref p) from rfl) rv) rz (.cons (p1.mono l2) px) py c1 c2 c3 q3
end Ro
end
section
set_option Elab.async false
set_option linter.all false
set_option maxRecDepth 100000
set_option maxHeartbeats 4000000
namespace Ro
open PySem PySem.Spec PyProof.Rows L2
variable {T : Tb} {E : XK} {X : Cx} {a b c : Expr} {es : List Expr} {f g h : EX} {fa ga fk : AX} {fb gb : BX} {pos : Pos} {st : Stmt} {sts rest : List Stmt} {s t : ES}
theorem orOp2 {fn : Value → Value → Sem Value} {op : D → D → Option D} (h : ∀ w d e r S x y H Q, WR T w S H → Rep T w d x → Rep T w e y → op d e = some r → (∀ w' H' z, w.le w' → WR T w' S H' → Rep T w' r z → Q z H') → ∃ r, OpR X fn r ∧ r x y H Q) : OpR X fn (rOp T op) := fun pins s σ H x y v u Q I rx ry q => by
  obtain ⟨w, d, e, r, S, h1, h2, h3, h4, h5⟩ := q
  obtain ⟨r', ho, q'⟩ := h w d e r S x y H Q h1 h2 h3 h4 h5
  exact ho pins s σ H x y v u Q I rx ry q'
theorem oi_add (hK : X.K = T.K) : OpR X (binaryOp .Add) (rOp T addD) := orOp2 fun w d e r S x y H Q h1 h2 h3 h4 h5 => by
  unfold addD at h4
  split at h4
  · cases h2; cases h3; cases h4
    exact ⟨_, op_add, _, _, rfl, rfl, h5 w H _ (Wd.le.refl _) h1 (.int _)⟩
  · cases h2; cases h3
    split at h4
    · rename_i hl
      cases h4
      exact ⟨_, op_add_str, _, _, rfl, rfl, by rw [sizeLine_eq]; exact hl, h5 w H _ (Wd.le.refl _) h1 (.str _)⟩
    · cases h4
  · rename_i l m
    cases h2 with
    | tup q2 r2 =>
    cases h3 with
    | tup q3 r3 =>
    split at h4
    · rename_i hl
      cases h4
      refine ⟨_, op_catA, _, _, _, _, rfl, rfl, by rw [hK]; exact sqt_sub h1 q2, by rw [hK]; exact sqt_sub h1 q3, by rw [sizeLine_eq, ← r2.length, ← r3.length]; exact hl, fun e => ?_, fun e1 e2 => ?_, fun e1 e2 p hp => ?_⟩
      · subst e
        cases r2
        exact h5 w H _ (Wd.le.refl _) h1 (.tup q3 r3)
      · subst e2
        cases r3
        rw [List.append_nil] at h5
        exact h5 w H _ (Wd.le.refl _) h1 (.tup q2 r2)
      · obtain ⟨l1, r1⟩ := h1.new hp (.tup _)
        exact h5 _ _ _ l1 r1 (.tup (.inl (.inl upd_same)) ((r2.append r3).mono l1))
    · cases h4
  · rename_i l m
    cases h2 with
    | lst q2 r2 =>
    cases h3 with
    | lst q3 r3 =>
    split at h4
    · rename_i hl
      cases h4
      refine ⟨_, op_cat, _, _, _, _, rfl, rfl, h1.sub _ _ q2, h1.sub _ _ q3, by rw [sizeLine_eq, ← r2.length, ← r3.length]; exact hl, fun p hp => ?_⟩
      obtain ⟨l1, r1⟩ := h1.new hp (.lst _)
      exact h5 _ _ _ l1 r1 (.lst upd_same ((r2.append r3).mono l1))
    · cases h4
  · cases h4
theorem oi_sub : OpR X (binaryOp .Sub) (rOp T subD) := orOp2 fun w d e r S x y H Q h1 h2 h3 h4 h5 => by
  unfold subD at h4
  split at h4
  · cases h2; cases h3; cases h4
    exact ⟨_, op_sub, _, _, rfl, rfl, h5 w H _ (Wd.le.refl _) h1 (.int _)⟩
  · cases h4
theorem oi_mul : OpR X (binaryOp .Mult) (rOp T mulD) := orOp2 fun w d e r S x y H Q h1 h2 h3 h4 h5 => by
  unfold mulD at h4
  split at h4
  · cases h2; cases h3
    split at h4
    · rename_i hl
      cases h4
      exact ⟨_, op_mulW, _, _, rfl, rfl, (by unfold CMulW; simpa [mulOk] using hl), h5 w H _ (Wd.le.refl _) h1 (.int _)⟩
    · cases h4
  · cases h4
theorem oi_fdiv : OpR X (binaryOp .FloorDiv) (rOp T fdivD) := orOp2 fun w d e r S x y H Q h1 h2 h3 h4 h5 => by
  unfold fdivD at h4
  split at h4
  · cases h2; cases h3
    split at h4
    · rename_i hl
      cases h4
      exact ⟨_, op_fdivW, _, _, rfl, rfl, hl, h5 w H _ (Wd.le.refl _) h1 (.int _)⟩
    · cases h4
  · cases h4
theorem oi_mod : OpR X (binaryOp .Mod) (rOp T modD) := orOp2 fun w d e r S x y H Q h1 h2 h3 h4 h5 => by
  unfold modD at h4
  split at h4
  · cases h2; cases h3
    split at h4
    · rename_i hl
      cases h4
      exact ⟨_, op_mod, _, _, rfl, rfl, hl, h5 w H _ (Wd.le.refl _) h1 (.int _)⟩
    · cases h4
  · cases h4
theorem oi_pow : OpR X (binaryOp .Pow) (rOp T powD) := orOp2 fun w d e r S x y H Q h1 h2 h3 h4 h5 => by
  unfold powD at h4
  split at h4
  · cases h2; cases h3
    split at h4
    · rename_i hl
      cases h4
      exact ⟨_, op_pow, _, _, rfl, rfl, hl, h5 w H _ (Wd.le.refl _) h1 (.int _)⟩
    · cases h4
  · cases h4
theorem oi_le : OpR X (compareOp .LtE) (rOp T leD) := orOp2 fun w d e r S x y H Q h1 h2 h3 h4 h5 => by
  unfold leD at h4
  split at h4
  · cases h2; cases h3; cases h4
    exact ⟨_, op_le, _, _, rfl, rfl, h5 w H _ (Wd.le.refl _) h1 (.bl _)⟩
  · cases h4
theorem oi_gt : OpR X (compareOp .Gt) (rOp T gtD) := orOp2 fun w d e r S x y H Q h1 h2 h3 h4 h5 => by
  unfold gtD at h4
  split at h4
  · cases h2; cases h3; cases h4
    exact ⟨_, op_gt, _, _, rfl, rfl, h5 w H _ (Wd.le.refl _) h1 (.bl _)⟩
  · cases h4
theorem rep_non {w : Wd} {d : D} {x : V} (p : Rep T w d x) : decide (x = .non) = isNonD d := by
  cases p <;> first | rfl | exact decide_eq_false (fun z => by cases z)
theorem oi_is : OpR X (compareOp .Is) (rOp T isND) := orOp2 fun w d e r S x y H Q h1 h2 h3 h4 h5 => by
  unfold isND at h4
  split at h4
  · rename_i hn
    cases h4
    have he : y = .non := of_decide_eq_true ((rep_non h3).trans hn)
    refine ⟨_, op_isN, he, ?_⟩
    rw [rep_non h2]
    exact h5 w H _ (Wd.le.refl _) h1 (.bl _)
  · cases h4
theorem oi_isnot : OpR X (compareOp .IsNot) (rOp T notND) := orOp2 fun w d e r S x y H Q h1 h2 h3 h4 h5 => by
  unfold notND at h4
  split at h4
  · rename_i hn
    cases h4
    have he : y = .non := of_decide_eq_true ((rep_non h3).trans hn)
    refine ⟨_, op_notN, he, ?_⟩
    rw [rep_non h2]
    exact h5 w H _ (Wd.le.refl _) h1 (.bl _)
  · cases h4
theorem ie_neg (h : IE T E X a f) : IE T E X (.UnaryOp .USub a pos) (eUn negD f) :=
  PE.mono (pe_un un_neg h) fun σ H Q ⟨w, env, S, r, e, q⟩ => ⟨w, env, S, r, e, (RP.bnd q).mono (fun d S1 h1 w1 H1 x l1 r1 p1 => by
    cases p1 with
    | int i => exact ⟨i, rfl, h1 w1 H1 _ l1 r1 (.int _)⟩
    | _ => exact (show False from h1).elim) fun _ _ _ x => x⟩
theorem reps_atP {w : Wd} {l : List D} {vs : List V} {i : Int} {d : D} (r : Reps T w l vs) (h : atP l i = some d) : ∃ v, atI vs i = some v ∧ Rep T w d v := by
  unfold atP at h
  cases z : pyIx l.length i with
  | none => rw [z] at h; cases h
  | some j =>
    rw [z] at h
    obtain ⟨v, h1, h2⟩ := r.get (show l[j]? = some d from h)
    refine ⟨v, ?_, h2⟩
    unfold atI
    rw [show ixN vs.length i = some j from by rw [← r.length]; exact z]
    exact h1
theorem ie_idx (hK : X.K = T.K) (ha : IE T E X a f) (hb : IE T E X b g) (hs : PlainIx b := by exact fun _ _ => rfl) : IE T E X (.Subscript a b pos) (eIdx f g) :=
  PE.mono (pe_ix ix_seq ha hb hs) fun σ H Q q => by
    have q2 := tI_two (k := fun x y S => lift (idxD x y) S) q
    obtain ⟨w, env, S, r, e, h⟩ := q2
    refine ⟨w, env, S, r, e, h.mono (fun d S1 h1 w1 H1 x l1 r1 p1 => ?_) fun _ _ _ x => x⟩
    obtain ⟨w2, env2, S2, r2, e2, h2⟩ := h1 w1 H1 x l1 r1 p1
    refine ⟨w2, env2, S2, r2, e2, h2.mono (fun d S1 h1 w1 H1 x l1 r1 p1 => ?_) fun _ _ _ x => x⟩
    obtain ⟨w3, d3, e3, S3, r3, p3, q3, h3⟩ := h1 w1 H1 x l1 r1 p1
    obtain ⟨w3, d3, e3, rr, S3, r3, p3, q3, hh, h3⟩ := rOp_of r3 p3 q3 h3
    unfold idxD at hh
    rw [hK]
    split at hh
    · cases q3
      cases p3 with
      | tup qq rq =>
        obtain ⟨v, a1, a2⟩ := reps_atP rq hh
        exact .inr (.inl ⟨_, _, _, v, rfl, rfl, sqt_sub r3 qq, a1, h3 w3 _ _ (Wd.le.refl _) r3 a2⟩)
    · cases q3
      cases p3 with
      | lst qq rq =>
        obtain ⟨v, a1, a2⟩ := reps_atP rq hh
        exact .inl ⟨_, _, _, v, rfl, rfl, .inl (.inl (r3.sub _ _ qq)), a1, h3 w3 _ _ (Wd.le.refl _) r3 a2⟩
    · rename_i l i
      cases q3
      cases p3 with
      | scr qq =>
        cases z : atP l i with
        | none => rw [z] at hh; cases hh
        | some k =>
          rw [z] at hh
          cases hh
          refine .inl ⟨_, _, _, .int k, rfl, rfl, sql_sub r3 qq, ?_, h3 w3 _ _ (Wd.le.refl _) r3 (.int _)⟩
          unfold atP at z
          unfold atI
          rw [List.length_map]
          cases z2 : pyIx l.length i with
          | none => rw [z2] at z; cases z
          | some j =>
            rw [z2] at z
            rw [show ixN l.length i = some j from z2]
            show (l.map V.int)[j]? = _
            rw [List.getElem?_map, show l[j]? = some k from z]
            rfl
    · rename_i s i
      cases q3
      cases p3
      split at hh
      · rename_i hl
        cases z : atP s.cps.toList i with
        | none => rw [z] at hh; cases hh
        | some c =>
          rw [z] at hh
          cases hh
          exact .inr (.inr ⟨s, i, c, rfl, rfl, by rw [sizeLine_eq]; exact hl, z, h3 w3 _ _ (Wd.le.refl _) r3 (.str _)⟩)
      · cases hh
    · cases hh
theorem ie_idxM (hK : X.K = T.K) (ha : IE T E X a f) (hb : IE T E X b g) (hs : PlainIx b := by exact fun _ _ => rfl) : IE T E X (.Subscript a b pos) (eIdxM f g) :=
  PE.mono (pe_ix ix_list ha hb hs) fun σ H Q q => by
    have q2 := tI_two (k := fun x y S => lift (idxM x y S) S) q
    obtain ⟨w, env, S, r, e, h⟩ := q2
    refine ⟨w, env, S, r, e, h.mono (fun d S1 h1 w1 H1 x l1 r1 p1 => ?_) fun _ _ _ x => x⟩
    obtain ⟨w2, env2, S2, r2, e2, h2⟩ := h1 w1 H1 x l1 r1 p1
    refine ⟨w2, env2, S2, r2, e2, h2.mono (fun d S1 h1 w1 H1 x l1 r1 p1 => ?_) fun _ _ _ x => x⟩
    obtain ⟨w3, d3, e3, S3, r3, p3, q3, h3⟩ := h1 w1 H1 x l1 r1 p1
    cases z : idxM d3 e3 S3 with
    | none => rw [z] at h3; exact (show False from h3).elim
    | some y =>
      rw [z] at h3
      unfold idxM at z
      split at z
      · rename_i n i
        split at z
        · rename_i l hS
          cases q3
          cases p3 with
          | ref hn =>
            obtain ⟨vs, c1, c2⟩ := r3.cell n _ _ hS hn
            obtain ⟨v, a1, a2⟩ := reps_atP c2 z
            exact ⟨_, _, _, v, rfl, rfl, .inl (.inl c1), a1, h3 w3 _ _ (Wd.le.refl _) r3 a2⟩
        · cases z
      · cases z
theorem is_setit {pos' : Pos} (hv : IE T E X c h) (ho : IE T E X a f) (hi : IE T E X b g) (hs : swapsWithSole [.Subscript a b pos'] c pos.line X.env = pure false := by rfl) (hw : swappedStores [.Subscript a b pos'] c X.env = pure none := by rfl)
    (h1 : (assignEach [.Subscript a b pos'] X.env).map (·.2) = [assign (.Subscript a b pos') X.env] := by rfl)
    (hasg : ∀ v, assign (.Subscript a b pos') X.env v = (do
      let ov ← holding [v] (eval a X.env)
      let iv ← holding [v, ov] (eval b X.env)
      standAt pos'
      holding [v, ov, iv] (setItem ov iv v)
      release [v, ov, iv] []) := by intro _; rfl) : IS T E X (.Assign [.Subscript a b pos'] c pos) (sSetIt f g h) :=
  PS.mono (ps_asg hv (pg_sub ho hi set_list hasg) hs hw h1) fun D σ H ⟨w, env, S, r, e, q⟩ => ⟨w, env, S, r, e, (RP.bnd q).mono (fun z S1 h1 w1 H1 zv l1 r1 p1 => ⟨w1, env, S1, r1, e.mono l1, (RP.bnd h1).mono (fun x S2 h2 w2 H2 xv l2 r2 p2 => ⟨w2, env, S2, r2, (e.mono l1).mono l2, (RP.bnd h2).mono (fun y S3 h3 w3 H3 yv l3 r3 p3 => by
    cases z2 : setM x y z S3 with
    | none => rw [z2] at h3; exact (show False from h3).elim
    | some S4 =>
      rw [z2] at h3
      unfold setM at z2
      split at z2
      · rename_i n i
        split at z2
        · rename_i l hS
          cases zj : pyIx l.length i with
          | none => rw [zj] at z2; cases z2
          | some j =>
            rw [zj] at z2
            cases z2
            cases p3
            cases (p2.mono l3) with
            | ref hn =>
              obtain ⟨vs, c1, c2⟩ := r3.cell n _ _ hS hn
              have lt := (l1.trans l2).trans l3
              refine ⟨_, vs, i, j, rfl, rfl, c1, by rw [← c2.length]; exact zj, ?_⟩
              exact h3 w3 _ σ lt (r3.write hS hn (by intro z; cases z) ⟨_, upd_same, c2.set ((p1.mono l2).mono l3) j⟩) (e.mono lt)
        · cases z2
      · cases z2) fun _ _ _ x => x.le (l1.trans l2)⟩) fun _ _ _ x => x.le l1⟩) fun _ _ _ x => x⟩
end Ro
end
section
set_option Elab.async false
set_option linter.all false
set_option maxRecDepth 100000
set_option maxHeartbeats 4000000
namespace Ro
open PySem PySem.Spec PyProof.Rows L2
variable {T : Tb} {E : XK} {X : Cx} {a b c : Expr} {es : List Expr} {f g h : EX} {fa ga fk : AX} {fb gb : BX} {pos : Pos} {st : Stmt} {sts rest : List Stmt} {s t : ES}
theorem frzM_ok {cf : String → List String} (hcf : T.cf = cf) {w : Wd} {S : Store} {H : Hp} {x : V} {d : D} {Pk : D → Store → Prop} {Pe : String → List D → Store → Prop} (r : WR T w S H) (p : Rep T w d x) (h : RP (frzM cf (.ok d S)) Pk Pe) :
    ∃ w' d' S', w.le w' ∧ WR T w' S' H ∧ Rep T w' d' x ∧ Pk d' S' := by
  unfold frzM at h
  rw [bnd_ok] at h
  split at h
  · rename_i n
    cases p with
    | ref hn =>
    split at h
    · rename_i c fs hS
      split at h
      · rename_i he
        obtain ⟨dx, gs, h1, h2, h3⟩ := r.cell n _ _ hS hn
        obtain ⟨l, r'⟩ := r.freeze hS hn (by intro z; cases z) h1
        refine ⟨_, _, _, l, r', .obj (dx := dx) (fs := gs) upd_same ?_ (h3.mono l), h⟩
        rw [h2, hcf, ← he, List.map_map]
        rfl
      · exact (show False from h).elim
    · rename_i l0 hS
      obtain ⟨vs, h1, h2⟩ := r.cell n _ _ hS hn
      obtain ⟨l, r'⟩ := r.freeze hS hn (by intro z; cases z) h1
      exact ⟨_, _, _, l, r', .lst upd_same (h2.mono l), h⟩
    · rename_i l0 hS
      obtain ⟨vs, h1, h2⟩ := r.cell n _ _ hS hn
      obtain ⟨l, r'⟩ := r.freeze hS hn (by intro z; cases z) h1
      exact ⟨_, _, _, l, r', .dct upd_same (h2.mono l), h⟩
    · exact (show False from h).elim
  · exact (show False from h).elim
theorem frzM_bnd {cf : String → List String} {r : R D} {Pk : D → Store → Prop} {Pe : String → List D → Store → Prop} (h : RP (frzM cf r) Pk Pe) : RP r (fun d S => RP (frzM cf (.ok d S)) Pk Pe) Pe := by
  cases r with
  | ok d S => exact h
  | err c fs S => exact h
  | bad => exact h
theorem ie_frz {cf : String → List String} (hcf : T.cf = cf) (ha : IE T E X a f) : IE T E X a (eFrz cf f) :=
  PE.mono ha fun σ H Q ⟨w, env, S, r, e, q⟩ => ⟨w, env, S, r, e, (frzM_bnd q).mono (fun d S1 h1 w1 H1 x l1 r1 p1 => by
    obtain ⟨w2, d2, S2, l2, r2, p2, h2⟩ := frzM_ok hcf r1 p1 h1
    exact h2 w2 H1 x (l1.trans l2) r2 p2) fun _ _ _ x => x⟩
theorem make_core {k n : Nat} {cn : String} {fd : FuncData} {fp : Addr} {ps ks : List Str} {m : Fn} {pk : List (Nat × Nat)} {dfs : List D} (F : FnG X.prog X.w T.K X.mg X.base k fp fd ps (spI T ps.length m)) (M : Mk T.K (He.ga T.K (cn : Str)) fp) (hK : X.K = T.K) (hr : RG (k + 1) X.A) (hb : KBD T fd ps (n + 1) ks pk dfs) (tk : Takes X fun c d _ H => E c d H)
    {pins : List (Addr × Obj)} {s : Shared} {σ : St} {H : Hp} {w : Wd} {S : Store} {us ws : List Value} {vs zs : List V} {xs ys : List D} {Q : VK} (I : Inv X pins σ H s) (r : WR T w S H) (rv : Vals vs us) (rz : Vals zs ws) (px : Reps T w xs vs) (py : Reps T w ys zs)
    (q : RP (newM cn (callM m (n + 1) ks.length ps.length pk dfs) xs ys S) (Pk T w Q) (XW T w E)) : wpAny (model X.prog X.w) X.A (call (.ref (He.ga T.K (cn : Str))) us (ks.zip ws)) (EP X pins σ Q) X.xe s := by
  obtain ⟨its, dvs, kb, rd⟩ := hb.ex
  have F' : FnG X.prog X.w X.K X.mg X.base k fp fd ps (spI T ps.length m) := by rw [hK]; exact F
  have M' : Mk X.K (He.ga T.K (cn : Str)) fp := by rw [hK]; exact M
  have kb' : KBn X.K fd ps (n + 1) ks (fun us ws => pick pk us its ws) (fun vs zs => pick pk vs dvs zs) := by rw [hK]; exact kb
  have q1 := RP.bnd (show RP (newM cn (callM m (n + 1) ks.length ps.length pk dfs) xs ys S) _ _ from q)
  obtain ⟨c1, c2, c3, q2⟩ := callM_ok q1
  have l1 : xs.length = n := by simpa using c1
  refine FnG.makes M' F' hr kb' (passes_call tk fun _ _ _ _ h => h) I rv rz (by rw [← px.length]; exact l1) (by rw [← py.length]; exact c2) fun x dx hx hdx hne => ?_
  have hx2 : upd H dx (.own x) x = none := by rw [upd_ne hne.symm]; exact hx
  have r0 : WR T w S (upd H dx (.own x)) := r.grow fun a u e => by rw [upd_ne (ne_of_none e hdx)]; exact e
  obtain ⟨l2, r2, at_⟩ := r0.alloc (o := .ins (He.ga T.K (cn : Str)) dx []) (c := .ins cn []) hx2 ⟨dx, [], upd_same, rfl, .nil⟩
  have pp := reps_pick pk (T := T) (w := ⟨w.G, w.am ++ [x], w.hid⟩) (.cons (.ref at_) (px.mono l2)) (rd _) (py.mono l2)
  refine ⟨by rw [← pp.length]; exact c3, _, _, _, r2, pp, q2.mono (fun d S1 h1 w1 H1 v l3 r3 p3 => ?_) fun _ _ _ x => x.le l2⟩
  cases p3 with
  | non => exact ⟨rfl, h1 w1 H1 _ (l2.trans l3) r3 (.ref (l3.tosb.at at_))⟩
  | _ => exact (show False from h1).elim
/-- C(.., k = ..) -/
theorem ie_new {k n : Nat} {cn : String} {d : He.DefD} {p : Pos} {kws : List Keyword} {ps ks : List Str} {m : Fn} {pk : List (Nat × Nat)} {dfs : List D} (F : OkF T X.prog X.w X.mg X.base k d ps m) (M : Mk T.K (He.ga T.K (cn : Str)) (He.fAd T.K d.at_)) (hK : X.K = T.K) (hr : RG (k + 1) X.A) (hg : Gl X (cn : Str)) (hm : X.mg (cn : Str) = some (.ref (He.ga T.K (cn : Str))))
    (hb : ∀ fd, FunD T.K d.name d.qual d.params d.body d.scope (d.dvs T.K) [] (He.fAd T.K d.at_) fd → KBD T fd ps (n + 1) ks pk dfs) (tk : Takes X fun c d _ H => E c d H) (ha : AK T E X es kws pos ks fa fk) (hdb : ((cn : Str) == ("__debug__" : Str)) = false := by decide +kernel) :
    IE T E X (.Call (.Name (cn : Str) p) es kws pos) (eFn (newM cn (callM m (n + 1) ks.length ps.length pk dfs)) fa fk) := by
  obtain ⟨fd, FD, FO⟩ := F.ex
  refine ⟨fun pins s σ H Q I h => ?_⟩
  obtain ⟨w, env, S, r, e, q⟩ := h
  refine wpAny_Call_Name_kw (ld_glob I hg hm ?_ hdb)
  refine ha pins s σ H w env S _ Q _ [] _ I r e (by rw [hK]; exact M.kp) q fun s2 H2 us ws vs zs w2 xs ys S2 I2 l2 r2 rv rz px py q2 => ?_
  exact make_core FO M hK hr (hb fd FD) tk I2 r2 rv rz px py q2
theorem er_wipe {w : Wd} {env : Env} {σ : St} (r : ER T w env σ) : ∀ vs : List Nat, ER T w (wipeE env vs) (wipe σ vs)
  | [] => r
  | v :: vs => by
    have ih := er_wipe r vs
    refine ⟨by show ((wipeE env vs).set v none).length = ((wipe σ vs).set v none).length; rw [List.length_set, List.length_set, ih.1], fun i d h => ?_⟩
    have h : ((wipeE env vs).set v none)[i]? = some (some d) := h
    show ∃ x, ((wipe σ vs).set v none)[i]? = some (some x) ∧ _
    by_cases hv : v = i
    · subst hv
      rw [List.getElem?_set] at h
      simp only [if_true] at h
      split at h <;> cases h
    · rw [List.getElem?_set_ne hv] at h ⊢
      exact ih.2 i d h
theorem RP.nox {α : Type} {r : R α} {Pk : α → Store → Prop} {Pe : String → List D → Store → Prop} (h : RP r.nox Pk Pe) (Pe' : String → List D → Store → Prop) : RP r Pk Pe' := by
  cases r with
  | ok a S => exact h
  | err c fs S => exact (show False from h).elim
  | bad => exact h
def ITs (T : Tb) (E : XK) (X : Cx) (ifs : List Expr) (fb : BX) : Prop := PTs X ifs (tIb T E fb)
theorem PTs.mono {X : Cx} {e : List Expr} {t t' : TT} (h : PTs X e t) (k : ∀ σ H Q, t' σ H Q → t σ H Q) : PTs X e t' := ⟨fun pins s σ H Q I q => h.run pins s σ H Q I (k _ _ _ q)⟩
theorem its_nil : ITs T E X [] bYes := PTs.mono pts_nil fun σ H Q ⟨w, env, S, r, e, q⟩ => q w H (Wd.le.refl _) r
theorem its_one (h : IB T E X c fb) : ITs T E X [c] fb := pts_one h
abbrev E00 : XK := fun _ _ _ => False
/-- a list that is being made -/
theorem WR.hide {w : Wd} {S : Store} {H : Hp} {p : Addr} (r : WR T w S H) (hp : H p = none) : WR T ⟨w.G, w.am, (p, []) :: w.hid⟩ S (upd H p (.lst [])) := by
  have k : ∀ a u, H a = some u → upd H p (.lst []) a = some u := fun a u e => by rw [upd_ne (ne_of_none e hp)]; exact e
  have sb : Wd.sb w ⟨w.G, w.am, (p, []) :: w.hid⟩ := ⟨fun _ _ h => h, [], by simp⟩
  refine ⟨fun a u e => k _ _ (r.sub _ _ e), r.len, r.nd, fun a ha => (r.has a ha).elim fun u e => ⟨u, k _ _ e.1, e.2⟩, r.out, fun n c a h1 h2 => (r.cell n c a h1 h2).keep sb fun u e => k _ _ e, tabs_new r.tabs hp, ?_, fun q hq => ?_, r.nt⟩
  · show (p :: w.hid.map (·.1)).Nodup
    refine List.nodup_cons.mpr ⟨fun z => ?_, r.hn⟩
    obtain ⟨q, hq, e⟩ := List.mem_map.mp z
    obtain ⟨_, _, vs, z3, _⟩ := r.hd q hq
    rw [e, hp] at z3
    cases z3
  · rcases List.mem_cons.mp hq with e | hq
    · subst e
      refine ⟨r.free hp, fun z => ?_, [], upd_same, .nil⟩
      obtain ⟨u, e, _⟩ := r.has p z
      rw [hp] at e
      cases e
    · obtain ⟨z1, z2, vs, z3, z4⟩ := r.hd q hq
      exact ⟨z1, z2, vs, k _ _ z3, z4.monoS sb⟩
theorem WR.hidPut {w : Wd} {S : Store} {H : Hp} {p : Addr} {l : List D} {hs : List (Addr × List D)} {d : D} {v : V} (r : WR T w S H) (hh : w.hid = (p, l) :: hs) (q : Rep T w d v) : ∃ vs, H p = some (.lst vs) ∧ vs.length = l.length ∧ WR T ⟨w.G, w.am, (p, l ++ [d]) :: hs⟩ S (upd H p (.lst (vs ++ [v]))) := by
  obtain ⟨z1, z2, vs, z3, z4⟩ := r.hd (p, l) (by rw [hh]; exact List.mem_cons_self ..)
  have hn := r.hn
  rw [hh] at hn
  have hn' : p ∉ hs.map (·.1) := (List.nodup_cons.mp (show (p :: hs.map (·.1)).Nodup from hn)).1
  have sb : Wd.sb w ⟨w.G, w.am, (p, l ++ [d]) :: hs⟩ := ⟨fun _ _ h => h, [], by simp⟩
  have k : ∀ a u, a ≠ p → H a = some u → upd H p (.lst (vs ++ [v])) a = some u := fun a u hne e => by rw [upd_ne hne]; exact e
  refine ⟨vs, z3, z4.length.symm, fun a u e => k _ _ (fun z => by rw [z] at e; rw [show w.G p = none from z1] at e; cases e) (r.sub _ _ e), r.len, r.nd, fun a ha => ?_, r.out, fun n c a h1 h2 => (r.cell n c a h1 h2).keep sb fun u e => k _ _ (fun z => z2 (by show p ∈ w.am; rw [← z]; exact List.mem_of_getElem? h2)) e, tabs_upd r.tabs z3 noTab_lst, hn, fun q2 hq => ?_, r.nt⟩
  · obtain ⟨u, e, nt⟩ := r.has a ha
    exact ⟨u, k _ _ (fun z => z2 (by show p ∈ w.am; rw [← z]; exact ha)) e, nt⟩
  · rcases List.mem_cons.mp hq with e | hq
    · subst e
      exact ⟨z1, z2, _, upd_same, (z4.append (.cons q .nil)).monoS sb⟩
    · obtain ⟨y1, y2, us, y3, y4⟩ := r.hd q2 (by rw [hh]; exact List.mem_cons_of_mem _ hq)
      exact ⟨y1, y2, us, k _ _ (fun z => hn' (by rw [← z]; exact List.mem_map_of_mem hq)) y3, y4.monoS sb⟩
theorem WR.shown {w : Wd} {S : Store} {H : Hp} {p : Addr} {l : List D} {hs : List (Addr × List D)} (r : WR T w S H) (hh : w.hid = (p, l) :: hs) : ∃ vs, Wd.sb w ⟨upd w.G p (.lst vs), w.am, hs⟩ ∧ WR T ⟨upd w.G p (.lst vs), w.am, hs⟩ S H ∧ Rep T ⟨upd w.G p (.lst vs), w.am, hs⟩ (.lst l) (.ref p) := by
  obtain ⟨z1, z2, vs, z3, z4⟩ := r.hd (p, l) (by rw [hh]; exact List.mem_cons_self ..)
  have z1 : w.G p = none := z1
  have hn := r.hn
  rw [hh] at hn
  have hn2 := List.nodup_cons.mp (show (p :: hs.map (·.1)).Nodup from hn)
  have sb : Wd.sb w ⟨upd w.G p (.lst vs), w.am, hs⟩ := ⟨fun a u e => by show upd w.G p (.lst vs) a = some u; rw [upd_ne (ne_of_none e z1)]; exact e, [], by simp⟩
  refine ⟨vs, sb, ⟨fun a u e => ?_, r.len, r.nd, r.has, fun n c a h1 h2 h3 => ?_, fun n c a h1 h2 => (r.cell n c a h1 h2).keep sb fun _ e => e, r.tabs, hn2.2, fun q hq => ?_, fun a ps e => ?_⟩, .lst upd_same (z4.monoS sb)⟩
  · have e : upd w.G p (.lst vs) a = some u := e
    by_cases h : a = p
    · subst h
      rw [upd_same] at e
      rw [← e]
      exact z3
    · rw [upd_ne h] at e
      exact r.sub _ _ e
  · show upd w.G p (.lst vs) a = none
    rw [upd_ne (fun z => z2 (by show p ∈ w.am; rw [← z]; exact List.mem_of_getElem? h2))]
    exact r.out n c a h1 h2 h3
  · obtain ⟨y1, y2, us, y3, y4⟩ := r.hd q (by rw [hh]; exact List.mem_cons_of_mem _ hq)
    refine ⟨?_, y2, us, y3, y4.monoS sb⟩
    show upd w.G p (.lst vs) q.1 = none
    rw [upd_ne (fun z => hn2.1 (by rw [← z]; exact List.mem_map_of_mem hq))]
    exact y1
  · have e : upd w.G p (.lst vs) a = some (.tbl ps) := e
    by_cases h : a = p
    · rw [h, upd_same] at e
      cases e
    · rw [upd_ne h] at e
      exact r.nt a ps e
theorem lc_noerr {p : Pat} {fb : BX} {el : EX} {env : Env} : ∀ {ds acc : List D} {S : Store} {c : String} {fs : List D} {S' : Store}, lcLoop p fb el env ds acc S = .err c fs S' → False
  | [], _, _, _, _, _, h => by cases h
  | d :: ds, acc, S, c, fs, S', h => by
    unfold lcLoop at h
    cases z : p d env with
    | none => rw [z] at h; cases h
    | some e1 =>
      rw [z] at h
      have h : ((fb e1 S).nox.bnd fun k S1 => if k then (el e1 S1).nox.bnd fun y S2 => if acc.length < LINE then lcLoop p fb el env ds (acc ++ [y]) S2 else .bad else lcLoop p fb el env ds acc S1) = .err c fs S' := h
      cases z1 : fb e1 S with
      | ok k S1 =>
        rw [z1, nox_ok, bnd_ok] at h
        cases k with
        | true =>
          rw [if_pos rfl] at h
          cases z2 : el e1 S1 with
          | ok y S2 =>
            rw [z2, nox_ok, bnd_ok] at h
            split at h
            · exact lc_noerr h
            · cases h
          | err _ _ _ => rw [z2] at h; cases h
          | bad => rw [z2] at h; cases h
        | false =>
          rw [if_neg Bool.false_ne_true] at h
          exact lc_noerr h
      | err _ _ _ => rw [z1] at h; cases h
      | bad => rw [z1] at h; cases h
theorem lc_read {p : Pat} {vs : List Nat} {fb : BX} {el : EX} {it : AX} {σ : St} {H : Hp} {Q : VK} (q : tI T E (eLC vs it p fb el) σ H Q) : tLc (tII T E it) (gI T vs p) (tIb T E00 fb) (tI T E00 el) vs σ H Q := by
  obtain ⟨w, env, S, r, e, q⟩ := q
  refine ⟨w, env, S, r, e, (RP.bnd q).mono (fun ds S1 h1 w1 H1 J l1 r1 it => ?_) fun _ _ _ x => x⟩
  intro Dp hD
  have h1 := RP.bnd h1
  have r0 := r1.hide hD
  have e1 := er_wipe (e.mono l1) vs
  refine ⟨fun i m H => m = ds.length - i ∧ i ≤ ds.length ∧ ∃ w2 acc S2, w1.sb w2 ∧ w2.hid = (Dp, acc) :: w1.hid ∧ WR T w2 S2 H ∧ RP (lcLoop p fb el (wipeE env vs) (ds.drop i) acc S2) (fun ys S' => ∀ w' H' v, w1.le w' → WR T w' S' H' → Rep T w' (.lst ys) v → Q v H') (fun _ _ _ => False), ⟨ds.length, by simp, Nat.zero_le _, ⟨w1.G, w1.am, (Dp, []) :: w1.hid⟩, [], S1, ⟨fun _ _ h => h, [], by simp⟩, rfl, r0, ?_⟩, ?_⟩
  · have h2 : RP (lcLoop p fb el (wipeE env vs) ds [] S1) (fun ys S' => ∀ w' H' v, w.le w' → WR T w' S' H' → Rep T w' (.lst ys) v → Q v H') (XW T w E) := h1
    cases z : lcLoop p fb el (wipeE env vs) ds [] S1 with
    | ok ys S2 =>
      rw [z] at h2
      show RP (lcLoop p fb el (wipeE env vs) (ds.drop 0) [] S1) _ _
      rw [List.drop_zero, z]
      exact fun w' H' v l => h2 w' H' v (l1.trans l)
    | err c fs S2 => exact (lc_noerr z).elim
    | bad => rw [z] at h2; exact h2.elim
  · rintro i m H ⟨rfl, hi, w2, acc, S2, sb, hh, r2, h2⟩
    by_cases hlt : i < ds.length
    · rw [List.drop_eq_getElem_cons hlt] at h2
      have it' : ∀ (i : Nat), True := fun _ => trivial
      refine .inr ⟨it.goS i H w2 S2 sb r2 hlt, fun H' => i + 1 ≤ ds.length ∧ ∃ w2 acc S2, w1.sb w2 ∧ w2.hid = (Dp, acc) :: w1.hid ∧ WR T w2 S2 H' ∧ RP (lcLoop p fb el (wipeE env vs) (ds.drop (i + 1)) acc S2) (fun ys S' => ∀ w' H' v, w1.le w' → WR T w' S' H' → Rep T w' (.lst ys) v → Q v H') (fun _ _ _ => False), fun H' h => ⟨ds.length - (i + 1), by omega, rfl, h⟩, fun x H' y => ?_⟩
      obtain ⟨w3, l3, r3, p3⟩ := it.yldS i H x H' w2 S2 ds[i] sb r2 (List.getElem?_eq_getElem hlt) y
      unfold lcLoop at h2
      cases z : p ds[i] (wipeE env vs) with
      | none => rw [z] at h2; exact (show False from h2).elim
      | some env1 =>
        rw [z] at h2
        have h2 := RP.nox (RP.bnd h2) (XW T w3 E00)
        refine ⟨w3, wipeE env vs, S2, ds[i], env1, r3, e1.monoS (sb.trans l3.tosb), p3, z, fun σ2 q2 z2 => ⟨z2.trans (wipe_wipe σ vs), w3, env1, S2, r3, q2, h2.mono (fun k S3 h3 w4 H4 l4 r4 => ?_) fun _ _ _ x => x⟩⟩
        have hh4 : w4.hid = (Dp, acc) :: w1.hid := by rw [l4.hid, l3.hid, hh]
        cases k with
        | false =>
          rw [if_neg Bool.false_ne_true] at h3
          dsimp only
          rw [if_neg Bool.false_ne_true]
          exact ⟨hlt, w4, acc, S3, (sb.trans l3.tosb).trans l4.tosb, hh4, r4, h3⟩
        | true =>
          rw [if_pos rfl] at h3
          dsimp only
          rw [if_pos rfl]
          have h3 := RP.nox (RP.bnd h3) (XW T w4 E00)
          refine ⟨w4, env1, S3, r4, q2.mono l4, h3.mono (fun y S5 h5 w5 H5 v l5 r5 p5 => ?_) fun _ _ _ x => x⟩
          by_cases hl : acc.length < LINE
          · rw [if_pos hl] at h5
            have hh5 : w5.hid = (Dp, acc) :: w1.hid := by rw [l5.hid, hh4]
            obtain ⟨us, k1, k2, k3⟩ := r5.hidPut hh5 p5
            have sb5 : w1.sb w5 := ((sb.trans l3.tosb).trans l4.tosb).trans l5.tosb
            exact ⟨us, k1, by rw [k2, sizeLine_eq]; exact hl, hlt, ⟨w5.G, w5.am, (Dp, acc ++ [y]) :: w1.hid⟩, acc ++ [y], S5, ⟨sb5.G, sb5.am⟩, rfl, k3, h5⟩
          · rw [if_neg hl] at h5
            exact (show False from h5).elim
    · have e0 : ds.drop i = [] := List.drop_of_length_le (by omega)
      rw [e0] at h2
      obtain ⟨us, k1, k2, k3⟩ := r2.shown hh
      exact .inl ⟨it.stopS i H w2 S2 sb r2 (by omega), h2 _ H _ ⟨sb.trans k1, rfl⟩ k2 k3⟩
theorem ie_lc {tg iter elt : Expr} {ifs : List Expr} {scope : Scope} {own : List (Str × Nat)} {p : Pat} {el : EX} {it : AX} (hc : X.calm = true) (hN : X.N.Nodup) (hi : II T E X tg iter it) (ok : BlkOk X.N X.env.scope scope own)
    (hg : ∀ (s : Shared) (H : Hp) (C : Addr) (cl : List (Str × Addr)) (fp : List Addr), IG T (X.blk s H scope (compEnvC scope cl C X.env) fp) (own.map (·.2)) tg p) (ht : ∀ (s : Shared) (H : Hp) (C : Addr) (cl : List (Str × Addr)) (fp : List Addr), ITs T E00 (X.blk s H scope (compEnvC scope cl C X.env) fp) ifs fb)
    (he : ∀ (s : Shared) (H : Hp) (C : Addr) (cl : List (Str × Addr)) (fp : List Addr), IE T E00 (X.blk s H scope (compEnvC scope cl C X.env) fp) elt el) (hs : ∀ x, foldedSetIterable iter X.env x = pure x := by intro _; rfl) :
    IE T E X (.ListComp elt [⟨tg, iter, ifs, 0⟩] scope pos) (eLC (own.map (·.2)) it p fb el) :=
  PE.mono (pe_lc hc hN hi ok hg ht he hs) fun σ H Q q => lc_read q
theorem is_setLc {i : Nat} {y : Str} {py spos : Pos} {tg iter elt : Expr} {ifs : List Expr} {scope : Scope} {own : List (Str × Nat)} {p : Pat} {el : EX} {it : AX} (hc : X.calm = true) (hN : X.N.Nodup) (hy : X.N[i]? = some y) (hyl : X.env.scope.names.lookup y = some .local)
    (hsw : swapsWith (.ListComp elt [⟨tg, iter, ifs, 0⟩] scope pos) (some (.Name y py)) spos.line X.env = pure true) (hi : II T E X tg iter it) (ok : BlkOk X.N X.env.scope scope own)
    (hg : ∀ (s : Shared) (H : Hp) (C : Addr) (cl : List (Str × Addr)) (fp : List Addr), IG T (X.blk s H scope (compEnvC scope cl C X.env) fp) (own.map (·.2)) tg p) (ht : ∀ (s : Shared) (H : Hp) (C : Addr) (cl : List (Str × Addr)) (fp : List Addr), ITs T E00 (X.blk s H scope (compEnvC scope cl C X.env) fp) ifs fb)
    (he : ∀ (s : Shared) (H : Hp) (C : Addr) (cl : List (Str × Addr)) (fp : List Addr), IE T E00 (X.blk s H scope (compEnvC scope cl C X.env) fp) elt el) (hs : ∀ x, foldedSetIterable iter X.env x = pure x := by intro _; rfl) :
    IS T E X (.Assign [.Name y py] (.ListComp elt [⟨tg, iter, ifs, 0⟩] scope pos) spos) (sSet i (eLC (own.map (·.2)) it p fb el)) :=
  PS.mono (ps_setLc hc hN hy hyl hsw hi ok hg ht he hs) fun D σ H ⟨w, env, S, r, e, q⟩ => lc_read (Q := fun v H' => D.nx (σ.set i (some v)) H') ⟨w, env, S, r, e, (RP.bnd q).mono (fun d S1 h1 w1 H1 v l1 r1 p1 => h1 w1 H1 _ l1 r1 ((e.mono l1).set p1 i)) fun _ _ _ x => x⟩
end Ro
end
section
set_option Elab.async false
set_option linter.all false
set_option maxRecDepth 100000
set_option maxHeartbeats 4000000
namespace Ro
open PySem PySem.Spec PyProof.Rows L2
variable {T : Tb} {E : XK} {X : Cx} {a b c e : Expr} {es : List Expr} {f g h : EX} {fa ga fk : AX} {fb gb : BX} {pos : Pos} {st : Stmt} {sts rest : List Stmt} {s t : ES}
/-- a built-in by values: what HandS tells (r) follows from the mirror (m) -/
def BOk (T : Tb) (r : List V → Hp → VK → Prop) (m : List D → Option D) : Prop :=
  ∀ w S xs vs H d Q, WR T w S H → Reps T w xs vs → m xs = some d → (∀ w' H' v, w.le w' → WR T w' S H' → Rep T w' d v → Q v H') → r vs H Q
theorem tI_b {r : List V → Hp → VK → Prop} {m : List D → Option D} (h : BOk T r m) {σ : St} {H : Hp} {Q : VK} (q : tI T E (eB m fa) σ H Q) : tCB r (tIa T E fa) σ H Q := by
  obtain ⟨w, env, S, r0, e, q⟩ := q
  refine ⟨w, env, S, r0, e, (RP.bnd q).mono (fun xs S1 h1 w1 H1 vs l1 r1 p1 => ?_) fun _ _ _ x => x⟩
  cases z : m xs with
  | none => rw [z] at h1; exact (show False from h1).elim
  | some d =>
    rw [z] at h1
    exact h w1 S1 xs vs H1 d Q r1 p1 z fun w' H' v l => h1 w' H' v (l1.trans l)
theorem ie_b {x : Str} {p : Pos} {id : String} {r : List V → Hp → VK → Prop} {m : List D → Option D} (hc : CallR X (.builtin id) r) (hm : BOk T r m) (hg : Gl X x) (hn : X.mg x = none) (hv : bootBuiltins x = some (.builtin id)) (ha : IA T E X (a :: es) fa) (hx : x ≠ "__name__" := by decide +kernel) (hdb : (x == ("__debug__" : Str)) = false := by decide +kernel)
    (he : starEach (a :: es) X.env = (false, eval a X.env) :: starEach es X.env := by rfl) (hpl : (backTo pos (starEach es X.env)).any (·.1) = false := by rfl) : IE T E X (.Call (.Name x p) (a :: es) [] pos) (eB m fa) :=
  PE.mono (pe_callB hc hg hn hv ha hx hdb he hpl) fun σ H Q q => tI_b hm q
theorem ie_bt {x : Str} {p : Pos} {id : String} {r : List V → Hp → VK → Prop} {m : List D → Option D} (hc : CallR X (.type id) r) (hm : BOk T r m) (hg : Gl X x) (hn : X.mg x = none) (hv : bootBuiltins x = some (.type id)) (ha : IA T E X (a :: es) fa) (hx : x ≠ "__name__" := by decide +kernel) (hdb : (x == ("__debug__" : Str)) = false := by decide +kernel)
    (he : starEach (a :: es) X.env = (false, eval a X.env) :: starEach es X.env := by rfl) (hpl : (backTo pos (starEach es X.env)).any (·.1) = false := by rfl) : IE T E X (.Call (.Name x p) (a :: es) [] pos) (eB m fa) :=
  PE.mono (pe_callTy hc hg hn hv ha hx hdb he hpl) fun σ H Q q => tI_b hm q
theorem reps_one {w : Wd} {x : D} {vs : List V} (r : Reps T w [x] vs) : ∃ v, vs = [v] ∧ Rep T w x v := by
  cases r with
  | cons r1 r2 => cases r2; exact ⟨_, rfl, r1⟩
theorem reps_two {w : Wd} {x y : D} {vs : List V} (r : Reps T w [x, y] vs) : ∃ v u, vs = [v, u] ∧ Rep T w x v ∧ Rep T w y u := by
  cases r with
  | cons r1 r2 => cases r2 with
    | cons r3 r4 => cases r4; exact ⟨_, _, rfl, r1, r3⟩
theorem bo_abs : BOk T (fun xs H Q => ∃ i, xs = [.int i] ∧ Q (.int (if i < 0 then -i else i)) H) bAbs := fun w S xs vs H d Q r p h k => by
  unfold bAbs at h
  split at h
  · cases h
    obtain ⟨v, rfl, p2⟩ := reps_one p
    cases p2
    exact ⟨_, rfl, k w H _ (Wd.le.refl _) r (.int _)⟩
  · cases h
theorem bo_max2 : BOk T (fun xs H Q => ∃ i j, xs = [.int i, .int j] ∧ Q (.int (if j > i then j else i)) H) bMax2 := fun w S xs vs H d Q r p h k => by
  unfold bMax2 at h
  split at h
  · cases h
    obtain ⟨v, u, rfl, p2, q2⟩ := reps_two p
    cases p2; cases q2
    exact ⟨_, _, rfl, k w H _ (Wd.le.refl _) r (.int _)⟩
  · cases h
theorem bo_min2 : BOk T (fun xs H Q => ∃ i j, xs = [.int i, .int j] ∧ Q (.int (if j < i then j else i)) H) bMin2 := fun w S xs vs H d Q r p h k => by
  unfold bMin2 at h
  split at h
  · cases h
    obtain ⟨v, u, rfl, p2, q2⟩ := reps_two p
    cases p2; cases q2
    exact ⟨_, _, rfl, k w H _ (Wd.le.refl _) r (.int _)⟩
  · cases h
theorem bo_divmod : BOk T (fun xs H Q => ∃ i j, xs = [.int i, .int j] ∧ CDivP i j ∧ ∀ p, H p = none → Q (.ref p) (upd H p (.tup [.int (i / j), .int (i % j)]))) bDivmod := fun w S xs vs H d Q r p h k => by
  unfold bDivmod at h
  split at h
  · split at h
    · rename_i hj
      cases h
      obtain ⟨v, u, rfl, p2, q2⟩ := reps_two p
      cases p2; cases q2
      refine ⟨_, _, rfl, (by
        unfold divOk at hj
        have hj := of_decide_eq_true hj
        refine ⟨hj.1, PyProof.noPylong_of_log2 ?_⟩
        rename_i jj _
        have h2 : jj.natAbs < 2 ^ 60 := by omega
        have := (Nat.log2_lt (n := jj.natAbs) (k := 60) (by omega)).mpr h2
        omega), fun p hp => ?_⟩
      obtain ⟨l1, r1⟩ := r.new hp (.tup _)
      exact k _ _ _ l1 r1 (.tup (.inl (.inl upd_same)) (.cons (.int _) (.cons (.int _) .nil)))
    · cases h
  · cases h
def rLenH (K : PySem.W.Frag) : List V → Hp → VK → Prop := fun xs H Q => ∃ x n, xs = [x] ∧ LenV K x H n ∧ Q (.int n) H
theorem reps_len_eq {w : Wd} {l : List D} {vs : List V} (r : Reps T w l vs) : (vs.length : Int) = l.length := by rw [r.length]
theorem bo_len : BOk T (rLenH T.K) (fun xs => match xs with | [.dct _] => none | _ => bLen xs) := fun w S xs vs H d Q r p h k => by
  dsimp only at h
  split at h
  · cases h
  rename_i hnd
  unfold bLen at h
  split at h
  · obtain ⟨v, rfl, p2⟩ := reps_one p
    unfold lenD at h
    split at h
    · cases h
      cases p2 with
      | tup q1 q2 => exact ⟨_, _, rfl, .inr ⟨_, sqt_sub r q1, rfl⟩, by rw [reps_len_eq q2]; exact k w H _ (Wd.le.refl _) r (.int _)⟩
    · cases h
      cases p2 with
      | lst q1 q2 => exact ⟨_, _, rfl, .inl ⟨_, .inl (.inl (r.sub _ _ q1)), rfl⟩, by rw [reps_len_eq q2]; exact k w H _ (Wd.le.refl _) r (.int _)⟩
    · cases h
      cases p2 with
      | scr q1 => exact ⟨_, _, rfl, .inl ⟨_, sql_sub r q1, rfl⟩, by rw [List.length_map]; exact k w H _ (Wd.le.refl _) r (.int _)⟩
    · split at h
      · rename_i hl
        cases h
        cases p2
        exact ⟨_, _, rfl, ⟨by rw [sizeLine_eq]; exact hl, rfl⟩, k w H _ (Wd.le.refl _) r (.int _)⟩
      · cases h
    · exact (hnd _ rfl).elim
    · cases h
  · cases h
def tyV' (K : PySem.W.Frag) : Ty → Value
  | .b n => .type n
  | .o c => .ref (He.ga K (c : Str))
def tyVV (K : PySem.W.Frag) : Ty → V
  | .b n => .ty n
  | .o c => .ref (He.ga K (c : Str))
/-- what is told of a class for isinstance -/
structure IsiC (K : PySem.W.Frag) (C : Addr) : Prop where
  cl : Cls K C
  ha : PySem.W.findIn K (.ref C) "__class__" = some (some (.builtin "object.__class__"))
  hn : PySem.W.specialIn K (.builtin "object.__class__") "__get__" = some (some (.builtin "getset_descriptor.__get__"))
  htk : PySem.W.takesIn K (.builtin "object.__class__") = some true
  hm : PySem.W.mroIn K C (.type "object") = some true
theorem tyX_of {w : Wd} {S : Store} {H : Hp} {d : D} {x : V} {t : Ty} (r : WR T w S H) (p : Rep T w d x) (h : tyD d S = some t) (hc : ∀ c, t = .o c → IsiC T.K (He.ga T.K (c : Str))) : TyX T.K H x (tyV' T.K t) := by
  cases p with
  | non => cases h; exact .base .non
  | bl b => cases h; exact .base (.bl b)
  | int i => cases h; exact .base (.int i)
  | str s => cases h; exact .base (.str s)
  | tup q1 q2 =>
    cases h
    rcases sqt_sub r q1 with (q | ⟨o, q⟩) | ⟨o, its, n, q, hcl, _⟩
    · exact .base (.tup q)
    · exact .fTuple q
    · exact .kTuple q hcl
  | scr q1 =>
    cases h
    rcases sql_sub r q1 with (q | ⟨o, q⟩) | ⟨o, its, n, q, hcl, _⟩
    · exact .base (.lst q)
    · exact .base (.frz q)
    · exact .kList q hcl
  | lst q1 q2 => cases h; exact .base (.lst (r.sub _ _ q1))
  | dct q1 q2 => cases h; exact .base (.dK (r.sub _ _ q1))
  | obj q1 q2 q3 =>
    cases h
    have z := hc _ rfl
    exact .base (.ins (r.sub _ _ q1) z.cl z.ha z.hn z.htk z.hm)
  | ref hn =>
    unfold tyD at h
    dsimp only at h
    split at h
    · rename_i l hS
      cases h
      obtain ⟨us, c1, c2⟩ := r.cell _ _ _ hS hn
      exact .base (.lst c1)
    · rename_i l hS
      cases h
      obtain ⟨us, c1, c2⟩ := r.cell _ _ _ hS hn
      exact .base (.dK c1)
    · rename_i c fs hS
      cases h
      obtain ⟨dx, gs, c1, c2, c3⟩ := r.cell _ _ _ hS hn
      have z := hc _ rfl
      exact .base (.ins c1 z.cl z.ha z.hn z.htk z.hm)
    · cases h
  | fn x => cases h
  | xc0 q1 q2 => cases h
  | xc1 q1 q2 q3 q4 q5 => cases h
/-- the class, as written -/
def IsTyE (T : Tb) (X : Cx) (e : Expr) (t : Ty) : Prop := PE X e (tC (tyVV T.K t))
theorem isTy_b {n : String} {x : Str} (hg : Gl X x) (hm : X.mg x = none) (hv : bootBuiltins x = some (.type n)) (hn : x ≠ "__name__" := by decide +kernel) (hd : (x == ("__debug__" : Str)) = false := by decide +kernel) : IsTyE T X (.Name x pos) (.b n) := pe_bltn (v := .ty n) hg hm hv rfl hn hd
theorem isTy_o {c : String} (hg : Gl X (c : Str)) (hm : X.mg (c : Str) = some (.ref (He.ga T.K (c : Str)))) (hd : ((c : Str) == ("__debug__" : Str)) = false := by decide +kernel) : IsTyE T X (.Name (c : Str) pos) (.o c) := pe_glob (v := .ref _) hg hm rfl hd
theorem ie_isi {p : Pos} {tys : List Ty} {Tt : Ty} (hK : X.K = T.K) (hg : Gl X "isinstance") (hn : X.mg "isinstance" = none) (ha : IE T E X a f) (hb : IsTyE T X b Tt) (hc : ∀ t ∈ tys, ∀ c, t = .o c → IsiC T.K (He.ga T.K (c : Str))) (hk : ∀ t ∈ tys, PySem.W.kitOne T.K (tyV' T.K t) (tyV' T.K Tt) = some (subTy t Tt))
    (he : starEach (a :: [b]) X.env = (false, eval a X.env) :: starEach [b] X.env := by rfl) (hpl : (backTo pos (starEach [b] X.env)).any (·.1) = false := by rfl) (he2 : starEach [b] X.env = (false, eval b X.env) :: starEach [] X.env := by rfl) : IE T E X (.Call (.Name "isinstance" p) [a, b] [] pos) (eIsI tys Tt f) :=
  PE.mono (pe_callB call_isi hg hn (by decide +kernel) (pa_cons ha (pa_cons hb pa_nil he2) he) (by decide +kernel) (by decide +kernel) he hpl) fun σ H Q ⟨w, env, S, r, e, q⟩ => ⟨w, env, S, r, e, (RP.bnd q).mono (fun d S1 h1 w1 H1 x l1 r1 p1 => by
    split at h1
    · rename_i t ht
      split at h1
      · rename_i hmem
        have hm : t ∈ tys := by simpa using hmem
        refine ⟨x, _, tyV' T.K t, tyV' T.K Tt, subTy t Tt, rfl, ?_, ?_, ?_, h1 w1 H1 _ l1 r1 (.bl _)⟩
        · cases Tt with
          | b n => exact .ty n
          | o c => exact .own _
        · rw [hK]; exact tyX_of r1 p1 ht (hc t hm)
        · rw [hK]; exact hk t hm
      · exact (show False from h1).elim
    · exact (show False from h1).elim) fun _ _ _ x => x⟩
end Ro
end
section
set_option Elab.async false
set_option linter.all false
set_option maxRecDepth 100000
set_option maxHeartbeats 4000000
namespace Ro
open PySem PySem.Spec PyProof.Rows L2
variable {T : Tb} {E : XK} {X : Cx} {a b c e : Expr} {es : List Expr} {f g h : EX} {fa ga fk : AX} {fb gb : BX} {pos : Pos} {st : Stmt} {sts rest : List Stmt} {s t : ES}
def tIo (T : Tb) (E : XK) (f : OX) : L2.TO := fun σ H Q => ∃ w env S, WR T w S H ∧ ER T w env σ ∧ RP (f env S) (fun o S' => ∀ w' H', w.le w' → WR T w' S' H' → Q o H') (XW T w E)
def IO' (T : Tb) (E : XK) (X : Cx) (e : Option Expr) (f : OX) : Prop := PO X e (tIo T E f)
theorem PO.mono {X : Cx} {e : Option Expr} {t t' : L2.TO} (h : PO X e t) (k : ∀ σ H Q, t' σ H Q → t σ H Q) : PO X e t' := ⟨fun pins s σ H Q I q => h.run pins s σ H Q I (k _ _ _ q)⟩
theorem io_none : IO' T E X none oNone := PO.mono po_none fun σ H Q ⟨w, env, S, r, e, q⟩ => q w H (Wd.le.refl _) r
theorem io_some (h : IE T E X a f) : IO' T E X (some a) (oSome f) := PO.mono (po_some h) fun σ H Q ⟨w, env, S, r, e, q⟩ => ⟨w, env, S, r, e, (RP.bnd q).mono (fun d S1 h1 w1 H1 x l1 r1 p1 => by
  cases p1 with
  | int i => exact ⟨i, rfl, h1 w1 H1 l1 r1⟩
  | _ => exact (show False from h1).elim) fun _ _ _ x => x⟩
theorem cutI_sIx (n d : Nat) (o : Option Int) : HT.sIx n d o = cutI n d o := by
  cases o <;> rfl
theorem reps_cut {w : Wd} {l : List D} {vs : List V} (lo hi : Option Int) (r : Reps T w l vs) : Reps T w (cutL l lo hi) (cutV vs lo hi) := by
  unfold cutL cutV
  rw [cutI_sIx, cutI_sIx, r.length]
  exact (r.drop _).take _
theorem ie_cut {lo hi : Option Expr} {ol oh : OX} {p2 : Pos} (hK : X.K = T.K) (ha : IE T E X a f) (hl : IO' T E X lo ol) (hh : IO' T E X hi oh) : IE T E X (.Subscript a (.Slice lo hi none p2) pos) (eCut f ol oh) :=
  PE.mono (pe_slice (sl_tupA.or (sl_list.or sl_str)) ha hl hh) fun σ H Q ⟨w, env, S, r, e, q⟩ => ⟨w, env, S, r, e, (RP.bnd q).mono (fun d S1 h1 w1 H1 x l1 r1 p1 => ⟨w1, env, S1, r1, e.mono l1, (RP.bnd h1).mono (fun o1 S2 h2 w2 H2 l2 r2 => ⟨w2, env, S2, r2, (e.mono l1).mono l2, (RP.bnd h2).mono (fun o2 S3 h3 w3 H3 l3 r3 => by
    have lt := (l1.trans l2).trans l3
    have p3 := p1.mono (l2.trans l3)
    cases z : cutD d o1 o2 with
    | none => rw [z] at h3; exact (show False from h3).elim
    | some y =>
      rw [z] at h3
      unfold cutD at z
      rw [hK]
      split at z
      · cases z
        cases p3 with
        | tup q1 q2 =>
          rename_i aa vs
          refine .inl ⟨aa, vs, rfl, sqt_sub r3 q1, fun hw => ?_, fun hw p hp => ?_⟩
          · refine h3 w3 H3 _ lt r3 (.tup q1 ?_)
            have e2 : cutV vs o1 o2 = vs := by
              unfold cutV
              rw [hw.1, hw.2, List.drop_zero, Nat.sub_zero, List.take_length]
            have z2 := reps_cut o1 o2 q2
            rw [e2] at z2
            exact z2
          · obtain ⟨l4, r4⟩ := r3.new hp (.tup _)
            exact h3 _ _ _ (lt.trans l4) r4 (.tup (.inl (.inl upd_same)) ((reps_cut o1 o2 q2).mono l4))
      · cases z
        cases p3 with
        | lst q1 q2 =>
          refine .inr (.inl ⟨_, _, rfl, .inl (.inl (r3.sub _ _ q1)), fun p hp => ?_⟩)
          obtain ⟨l4, r4⟩ := r3.new hp (.lst _)
          exact h3 _ _ _ (lt.trans l4) r4 (.lst upd_same ((reps_cut o1 o2 q2).mono l4))
      · split at z
        · rename_i hl
          cases z
          cases p3
          refine .inr (.inr ⟨_, rfl, by rw [sizeLine_eq]; exact hl, ?_⟩)
          have z2 := h3 w3 H3 _ lt r3 (.str _)
          unfold cutS
          unfold cutL at z2
          rw [cutI_sIx, cutI_sIx]
          rw [Array.length_toList] at z2
          exact z2
        · cases z
      · cases z) fun _ _ _ x => x.le (l1.trans l2)⟩) fun _ _ _ x => x.le l1⟩) fun _ _ _ x => x⟩
theorem tyV_list {w : Wd} {S : Store} {H : Hp} {d : D} {x : V} (r : WR T w S H) (p : Rep T w d x) (h : tyD d S = some (.b "list")) : tyV T.K "list" x H := by
  cases p with
  | ref hn =>
    unfold tyD at h
    dsimp only at h
    split at h
    · rename_i l hS
      obtain ⟨us, c1, c2⟩ := r.cell _ _ _ hS hn
      exact .inl ⟨rfl, us, .inl (.inl c1)⟩
    all_goals exact absurd h (by simp)
  | lst q1 q2 => exact .inl ⟨rfl, _, .inl (.inl (r.sub _ _ q1))⟩
  | scr q1 => exact .inl ⟨rfl, _, sql_sub r q1⟩
  | _ => exact absurd h (by unfold tyD; simp)
theorem mt_R {id : String} {r : V → List V → Hp → VK → Prop} (h : MtM X id r) : MtR X id r := fun pins s σ H x xs v us Q I rx rv q => h pins s σ H x xs v us Q I rx rv q
theorem ie_app {apos : Pos} (hK : X.K = T.K) (ho : IE T E X a f) (hb : IE T E X b g) (hbase : attributeBase a "append" X.env (eval a X.env) = eval a X.env := by rfl)
    (hfew : ((backTo pos (starEach [b] X.env)).all (fun x => !x.1) && (backToKw pos (keywordEach [] X.env)).all (fun x => x.1.isSome)
      && decide (([b]).length + ([] : List Keyword).length + (if ([] : List Keyword).isEmpty then 0 else 1) < 30)) = true := by rfl)
    (hline : (apos.endLine == pos.line) = true := by rfl) (hs : starEach [b] X.env = (false, eval b X.env) :: starEach [] X.env := by rfl) (hpl : (backTo pos (starEach [] X.env)).any (·.1) = false := by rfl) :
    IE T E X (.Call (.Attribute a "append" apos) [b] [] pos) (eApp f g) :=
  PE.mono (pe_bm PySem.F.plainAttrs_list PySem.F.slot_list_append PySem.F.type_list_append (mt_R mt_append) ho (pa_cons hb pa_nil hs) hbase hfew hline hs hpl) fun σ H Q ⟨w, env, S, r, e, q⟩ => ⟨w, env, S, r, e, (RP.bnd q).mono (fun d S1 h1 w1 H1 x l1 r1 p1 => by
    by_cases ht : tyD d S1 = some (.b "list")
    · rw [if_pos ht] at h1
      refine ⟨by rw [hK]; exact tyV_list r1 p1 ht, w1, env, S1, r1, e.mono l1, (RP.bnd h1).mono (fun y S2 h2 w2 H2 yv l2 r2 p2 => ?_) fun _ _ _ x => x.le l1⟩
      cases z : appM d y S2 with
      | none => rw [z] at h2; exact (show False from h2).elim
      | some S3 =>
        rw [z] at h2
        unfold appM at z
        split at z
        · split at z
          · rename_i n _ xs hS
            split at z
            · rename_i hl
              cases z
              cases p1.mono l2 with
              | ref hn =>
                obtain ⟨us, c1, c2⟩ := r2.cell _ _ _ hS hn
                refine ⟨_, us, yv, rfl, rfl, c1, by rw [sizeLine_eq, ← c2.length]; exact hl, ?_⟩
                exact h2 w2 _ _ (l1.trans l2) (r2.write hS hn (by intro z; cases z) ⟨_, upd_same, c2.append (.cons p2 .nil)⟩) .non
            · cases z
          · cases z
        · cases z
    · rw [if_neg ht] at h1
      exact (show False from h1).elim) fun _ _ _ x => x⟩
end Ro
end
section
set_option Elab.async false
set_option linter.all false
set_option maxRecDepth 100000
set_option maxHeartbeats 4000000
namespace Ro
open PySem PySem.Spec PyProof.Rows L2
variable {T : Tb} {E : XK} {X : Cx} {a b c e : Expr} {es : List Expr} {f g h : EX} {fa ga fk : AX} {fb gb : BX} {pos : Pos} {st : Stmt} {sts rest : List Stmt} {s t : ES}
mutual
def toPy : D → PyData
  | .bl b => .bool b
  | .int i => .int i
  | .str s => .str s
  | .tup l => .tuple (toPys l)
  | .lst l => .list (toPys l)
  | _ => .none
def toPys : List D → List PyData
  | [] => []
  | x :: l => toPy x :: toPys l
end
/-- plain, at most n deep -/
def plN : Nat → D → Bool
  | _, .non => true
  | _, .bl _ => true
  | _, .int _ => true
  | _, .str _ => true
  | n + 1, .tup l => l.all (plN n)
  | n + 1, .lst l => l.all (plN n)
  | _, _ => false
def plD : D → Bool := plN 8
theorem toPy_ok : ∀ (n : Nat) (d : D), plN n d = true → (toPy d).plain = true ∧ (toPy d).depth ≤ n
  | _, .non, _ => ⟨rfl, Nat.zero_le _⟩
  | _, .bl _, _ => ⟨rfl, Nat.zero_le _⟩
  | _, .int _, _ => ⟨rfl, Nat.zero_le _⟩
  | _, .str _, _ => ⟨rfl, Nat.zero_le _⟩
  | 0, .tup l, h => by simp [plN] at h
  | 0, .lst l, h => by simp [plN] at h
  | n + 1, .tup l, h => by
    have h' : ∀ x ∈ l, plN n x = true := by simpa [plN] using h
    have key : ∀ m : List D, (∀ x ∈ m, plN n x = true) → PyData.plainAll (toPys m) = true ∧ PyData.depthAll (toPys m) ≤ n := by
      intro m
      induction m with
      | nil => intro _; exact ⟨rfl, Nat.zero_le _⟩
      | cons x m ih =>
        intro hm
        obtain ⟨a1, a2⟩ := toPy_ok n x (hm x (by simp))
        obtain ⟨b1, b2⟩ := ih fun y hy => hm y (by simp [hy])
        exact ⟨by simp [toPys, PyData.plainAll, a1, b1], by simp only [toPys, PyData.depthAll]; omega⟩
    obtain ⟨k1, k2⟩ := key l h'
    exact ⟨by simpa [toPy, PyData.plain] using k1, by simp only [toPy, PyData.depth]; omega⟩
  | n + 1, .lst l, h => by
    have h' : ∀ x ∈ l, plN n x = true := by simpa [plN] using h
    have key : ∀ m : List D, (∀ x ∈ m, plN n x = true) → PyData.plainAll (toPys m) = true ∧ PyData.depthAll (toPys m) ≤ n := by
      intro m
      induction m with
      | nil => intro _; exact ⟨rfl, Nat.zero_le _⟩
      | cons x m ih =>
        intro hm
        obtain ⟨a1, a2⟩ := toPy_ok n x (hm x (by simp))
        obtain ⟨b1, b2⟩ := ih fun y hy => hm y (by simp [hy])
        exact ⟨by simp [toPys, PyData.plainAll, a1, b1], by simp only [toPys, PyData.depthAll]; omega⟩
    obtain ⟨k1, k2⟩ := key l h'
    exact ⟨by simpa [toPy, PyData.plain] using k1, by simp only [toPy, PyData.depth]; omega⟩
  | n, .dct l, h => by simp [plN] at h
  | n, .obj c l, h => by simp [plN] at h
  | n, .scr l, h => by simp [plN] at h
  | n, .ref c, h => by simp [plN] at h
  | n, .fn c, h => by simp [plN] at h
  | n, .thk c l, h => by simp [plN] at h
theorem dp_of {w : Wd} {S : Store} {H : Hp} (r : WR T w S H) : ∀ (n : Nat) (d : D) (x : V), plN n d = true → Rep T w d x → Dp T.K H x (toPy d)
  | _, .non, _, _, .non => .non
  | _, .bl _, _, _, .bl b => .bl b
  | _, .int _, _, _, .int i => .int i
  | _, .str _, _, _, .str s => .str s
  | 0, .tup _, _, h, _ => by simp [plN] at h
  | 0, .lst _, _, h, _ => by simp [plN] at h
  | n + 1, .tup l, _, h, .tup q q2 => by
    have h' : ∀ x ∈ l, plN n x = true := by simpa [plN] using h
    have key : ∀ (m : List D) (vs : List V), (∀ x ∈ m, plN n x = true) → Reps T w m vs → DpAll T.K H vs (toPys m) := by
      intro m
      induction m with
      | nil => intro vs _ z; cases z; exact .nil
      | cons x m ih =>
        intro vs hm z
        cases z with
        | cons z1 z2 => exact .cons (dp_of r n x _ (hm x (by simp)) z1) (ih _ (fun y hy => hm y (by simp [hy])) z2)
    exact .tup (sqt_sub r q) (key l _ h' q2)
  | n + 1, .lst l, _, h, .lst q q2 => by
    have h' : ∀ x ∈ l, plN n x = true := by simpa [plN] using h
    have key : ∀ (m : List D) (vs : List V), (∀ x ∈ m, plN n x = true) → Reps T w m vs → DpAll T.K H vs (toPys m) := by
      intro m
      induction m with
      | nil => intro vs _ z; cases z; exact .nil
      | cons x m ih =>
        intro vs hm z
        cases z with
        | cons z1 z2 => exact .cons (dp_of r n x _ (hm x (by simp)) z1) (ih _ (fun y hy => hm y (by simp [hy])) z2)
    exact .lst (.inl (.inl (r.sub _ _ q))) (key l _ h' q2)
  | n, .scr _, _, h, _ => by simp [plN] at h
  | n, .dct _, _, h, _ => by simp [plN] at h
  | n, .obj _ _, _, h, _ => by simp [plN] at h
  | n, .ref _, _, h, _ => by simp [plN] at h
  | n, .fn _, _, h, _ => by simp [plN] at h
  | n, .thk _ _, _, h, _ => by simp [plN] at h
theorem dpAll_of {w : Wd} {S : Store} {H : Hp} (r : WR T w S H) (n : Nat) : ∀ (m : List D) (vs : List V), m.all (plN n) = true → Reps T w m vs → DpAll T.K H vs (toPys m)
  | [], _, _, z => by cases z; exact .nil
  | x :: m, _, hm, z => by
    obtain ⟨h1, h2⟩ := Bool.and_eq_true_iff.mp (show (plN n x && m.all (plN n)) = true from hm)
    cases z with
    | cons z1 z2 => exact .cons (dp_of r n x _ h1 z1) (dpAll_of r n m _ h2 z2)
theorem toPys_ok {n : Nat} {l : List D} (h : l.all (plN n) = true) : PyData.plainAll (toPys l) = true ∧ PyData.depthAll (toPys l) ≤ n := by
  have z := toPy_ok (n + 1) (.tup l) h
  refine ⟨by simpa [toPy, PyData.plain] using z.1, ?_⟩
  have := z.2
  simp only [toPy, PyData.depth] at this
  omega
mutual
theorem eqv_py : ∀ (n : Nat) (d e : D), plN n d = true → plN n e = true → PyData.eqv (toPy d) (toPy e) = pyEq d e
  | n, .non, e, _, he => by cases e <;> simp_all [plN, toPy, PyData.eqv, pyEq]
  | n, .bl b, e, _, he => by
    cases e <;> simp_all [plN, toPy, PyData.eqv, pyEq]
    all_goals (try (cases b <;> simp <;> rfl))
  | n, .int i, e, _, he => by
    cases e <;> simp_all [plN, toPy, PyData.eqv, pyEq]
    all_goals (first | rfl | (rename_i b; cases b <;> simp <;> rfl))
  | n, .str s, e, _, he => by
    cases e <;> simp_all [plN, toPy, PyData.eqv, pyEq]
    all_goals rfl
  | 0, .tup l, e, h, he => by simp [plN] at h
  | 0, .lst l, e, h, he => by simp [plN] at h
  | n + 1, .tup l, e, h, he => by
    cases e with
    | tup m =>
      simp only [toPy, PyData.eqv, pyEq]
      exact eqvs_py n l m h he
    | _ => simp_all [plN, toPy, PyData.eqv, pyEq]
  | n + 1, .lst l, e, h, he => by
    cases e with
    | lst m =>
      simp only [toPy, PyData.eqv, pyEq]
      exact eqvs_py n l m h he
    | _ => simp_all [plN, toPy, PyData.eqv, pyEq]
  | n, .dct l, _, h, _ => by simp [plN] at h
  | n, .obj c l, _, h, _ => by simp [plN] at h
  | n, .scr l, _, h, _ => by simp [plN] at h
  | n, .ref c, _, h, _ => by simp [plN] at h
  | n, .fn c, _, h, _ => by simp [plN] at h
  | n, .thk c l, _, h, _ => by simp [plN] at h
theorem eqvs_py : ∀ (n : Nat) (l m : List D), l.all (plN n) = true → m.all (plN n) = true → PyData.eqvAll (toPys l) (toPys m) = pyEqs l m
  | _, [], [], _, _ => rfl
  | _, [], _ :: _, _, _ => rfl
  | _, _ :: _, [], _, _ => rfl
  | n, x :: l, y :: m, h1, h2 => by
    obtain ⟨a1, a2⟩ := Bool.and_eq_true_iff.mp (show (plN n x && l.all (plN n)) = true from h1)
    obtain ⟨b1, b2⟩ := Bool.and_eq_true_iff.mp (show (plN n y && m.all (plN n)) = true from h2)
    simp only [toPys, PyData.eqvAll, pyEqs]
    rw [eqv_py n x y a1 b1, eqvs_py n l m a2 b2]
end
def eqD (x y : D) : Option D := if plD x && plD y then some (.bl (pyEq x y)) else none
def neD (x y : D) : Option D := if plD x && plD y then some (.bl (!pyEq x y)) else none
theorem oi_eqP (hK : X.K = T.K) (hu : X.A.units + 64 < cLine) : OpR X (compareOp .Eq) (rOp T eqD) := fun pins s σ H x y v u Q I rx ry q => by
  obtain ⟨w, d, e, r, S, h1, h2, h3, h4, h5⟩ := q
  unfold eqD at h4
  split at h4
  · rename_i hp
    cases h4
    obtain ⟨p1, p2⟩ := Bool.and_eq_true_iff.mp hp
    obtain ⟨as, r1⟩ := Dp.reads I _ x v (by rw [hK]; exact dp_of h1 8 d x p1 h2) rx
    obtain ⟨bs, r2⟩ := Dp.reads I _ y u (by rw [hK]; exact dp_of h1 8 e y p2 h3) ry
    obtain ⟨k1, k2⟩ := toPy_ok 8 d p1
    obtain ⟨k3, k4⟩ := toPy_ok 8 e p2
    refine SeqAt.eq_plain r1 r2 k1 k3 (by omega) ⟨.bl _, H, I, rfl, ?_⟩
    rw [eqv_py 8 d e p1 p2]
    exact h5 w H _ (Wd.le.refl _) h1 (.bl _)
  · cases h4
theorem oi_neP (hK : X.K = T.K) (hu : X.A.units + 64 < cLine) : OpR X (compareOp .NotEq) (rOp T neD) := fun pins s σ H x y v u Q I rx ry q => by
  obtain ⟨w, d, e, r, S, h1, h2, h3, h4, h5⟩ := q
  unfold neD at h4
  split at h4
  · rename_i hp
    cases h4
    obtain ⟨p1, p2⟩ := Bool.and_eq_true_iff.mp hp
    obtain ⟨as, r1⟩ := Dp.reads I _ x v (by rw [hK]; exact dp_of h1 8 d x p1 h2) rx
    obtain ⟨bs, r2⟩ := Dp.reads I _ y u (by rw [hK]; exact dp_of h1 8 e y p2 h3) ry
    obtain ⟨k1, k2⟩ := toPy_ok 8 d p1
    obtain ⟨k3, k4⟩ := toPy_ok 8 e p2
    refine SeqAt.ne_plain r1 r2 k1 k3 (by omega) ⟨.bl _, H, I, rfl, ?_⟩
    rw [eqv_py 8 d e p1 p2]
    exact h5 w H _ (Wd.le.refl _) h1 (.bl _)
  · cases h4
def inL (x : D) (l : List D) : Bool := l.any fun y => pyEq y x
theorem any_py {n : Nat} {x : D} (hx : plN n x = true) : ∀ {l : List D}, l.all (plN n) = true → ((toPys l).any fun y => PyData.eqv y (toPy x)) = inL x l
  | [], _ => rfl
  | y :: l, h => by
    obtain ⟨h1, h2⟩ := Bool.and_eq_true_iff.mp (show (plN n y && l.all (plN n)) = true from h)
    show (PyData.eqv (toPy y) (toPy x) || (toPys l).any fun y => PyData.eqv y (toPy x)) = (pyEq y x || inL x l)
    rw [eqv_py n y x h1 hx, any_py hx h2]
def inD (x y : D) : Option D := match y with
  | .lst l => if plD x && l.all (plN 8) then some (.bl (inL x l)) else none
  | .tup l => if plD x && l.all (plN 8) then some (.bl (inL x l)) else none
  | _ => none
theorem oi_in (hK : X.K = T.K) (hu : X.A.units + 64 < cLine) : OpR X (compareOp .In) (rOp T inD) := fun pins s σ H x y v u Q I rx ry q => by
  obtain ⟨w, d, e, r, S, h1, h2, h3, h4, h5⟩ := q
  unfold inD at h4
  split at h4
  · split at h4
    · rename_i l hp
      cases h4
      obtain ⟨p1, p2⟩ := Bool.and_eq_true_iff.mp hp
      obtain ⟨as, r1⟩ := Dp.reads I _ x v (by rw [hK]; exact dp_of h1 8 d x p1 h2) rx
      obtain ⟨bs, r2⟩ := Dp.reads I _ y u (by rw [hK]; exact dp_of h1 9 (.lst l) y p2 h3) ry
      obtain ⟨k1, k2⟩ := toPy_ok 8 d p1
      obtain ⟨k3, k4⟩ := toPys_ok p2
      refine SeqAt.in_list_data (xs := toPys l) (by simpa only [toPy] using r2) r1 k3 k1 (by omega) ⟨.bl _, H, I, rfl, ?_⟩
      rw [any_py p1 p2]
      exact h5 w H _ (Wd.le.refl _) h1 (.bl _)
    · cases h4
  · split at h4
    · rename_i l hp
      cases h4
      obtain ⟨p1, p2⟩ := Bool.and_eq_true_iff.mp hp
      obtain ⟨as, r1⟩ := Dp.reads I _ x v (by rw [hK]; exact dp_of h1 8 d x p1 h2) rx
      obtain ⟨bs, r2⟩ := Dp.reads I _ y u (by rw [hK]; exact dp_of h1 9 (.tup l) y p2 h3) ry
      obtain ⟨k1, k2⟩ := toPy_ok 8 d p1
      obtain ⟨k3, k4⟩ := toPys_ok p2
      refine SeqAt.in_tuple_data (xs := toPys l) (by simpa only [toPy] using r2) r1 k3 k1 (by omega) ⟨.bl _, H, I, rfl, ?_⟩
      rw [any_py p1 p2]
      exact h5 w H _ (Wd.le.refl _) h1 (.bl _)
    · cases h4
  · cases h4
end Ro
end
section
set_option Elab.async false
set_option linter.all false
set_option maxRecDepth 100000
set_option maxHeartbeats 4000000
namespace Ro
open PySem PySem.Spec PyProof.Rows L2
variable {T : Tb} {E : XK} {X : Cx} {a b c e : Expr} {es : List Expr} {f g h : EX} {fa ga fk : AX} {fb gb : BX} {pos : Pos} {st : Stmt} {sts rest : List Stmt} {s t : ES}
def reprOk (d : D) : Bool := plD d && (toPy d).showable && decide ((toPy d).shown.length ≤ LINE)
def bRepr : List D → Option D
  | [x] => if reprOk x then some (.str (toPy x).shown) else none
  | _ => none
theorem noDict_plain : (∀ d : PyData, d.plain = true → d.hasDict = false) ∧ (∀ l : List PyData, PyData.plainAll l = true → PyData.hasDictAll l = false) := by
  have key : ∀ n : Nat, (∀ d : PyData, d.depth ≤ n → d.plain = true → d.hasDict = false) ∧ (∀ l : List PyData, PyData.depthAll l ≤ n → PyData.plainAll l = true → PyData.hasDictAll l = false) := by
    intro n
    induction n with
    | zero =>
      have h1 : ∀ d : PyData, d.depth ≤ 0 → d.plain = true → d.hasDict = false := by
        intro d hd hp
        cases d with
        | list xs => simp [PyData.depth] at hd
        | tuple xs => simp [PyData.depth] at hd
        | dict kvs => simp [PyData.plain] at hp
        | _ => rfl
      refine ⟨h1, fun l => ?_⟩
      induction l with
      | nil => intro _ _; rfl
      | cons x l ih =>
        intro hd hp
        simp only [PyData.depthAll] at hd
        simp only [PyData.plainAll, Bool.and_eq_true] at hp
        simp only [PyData.hasDictAll, h1 x (by omega) hp.1, ih (by omega) hp.2, Bool.or_self]
    | succ n ih =>
      obtain ⟨_, ih2⟩ := ih
      have h1 : ∀ d : PyData, d.depth ≤ n + 1 → d.plain = true → d.hasDict = false := by
        intro d hd hp
        cases d with
        | list xs =>
          simp only [PyData.depth] at hd
          simp only [PyData.plain] at hp
          simp only [PyData.hasDict, ih2 xs (by omega) hp]
        | tuple xs =>
          simp only [PyData.depth] at hd
          simp only [PyData.plain] at hp
          simp only [PyData.hasDict, ih2 xs (by omega) hp]
        | dict kvs => simp [PyData.plain] at hp
        | _ => rfl
      refine ⟨h1, fun l => ?_⟩
      induction l with
      | nil => intro _ _; rfl
      | cons x l ih =>
        intro hd hp
        simp only [PyData.depthAll] at hd
        simp only [PyData.plainAll, Bool.and_eq_true] at hp
        simp only [PyData.hasDictAll, h1 x (by omega) hp.1, ih (by omega) hp.2, Bool.or_self]
  exact ⟨fun d => (key d.depth).1 d (Nat.le_refl _), fun l => (key (PyData.depthAll l)).2 l (Nat.le_refl _)⟩
/-- repr by data -/
def rRepr (K : PySem.W.Frag) : List V → Hp → VK → Prop := fun vs H Q => ∃ x d, vs = [x] ∧ Dp K H x d ∧ d.plain = true ∧ d.depth ≤ 20 ∧ d.showable = true ∧ d.shown.length ≤ sizeLine ∧ Q (.str d.shown) H
theorem call_reprD (gd : X.A.guards = some []) (hu : X.A.units + 64 < cLine) : CallR X (.builtin "repr") (rRepr X.K) := by
  intro pins s σ H xs us Q I r h
  obtain ⟨x, d, rfl, hd, hp, hk, hs, hz, q⟩ := h
  obtain ⟨u, rfl, ru⟩ := Vals.one r
  cases hd with
  | non =>
    cases ru
    exact PySem.P.repr_of_none ⟨.str _, H, I.tok _, ⟨_, rfl⟩, q⟩
  | bl b =>
    cases ru
    exact PySem.P.repr_of_bool ⟨.str _, H, I.tok _, ⟨_, rfl⟩, q⟩
  | int i =>
    obtain ⟨t, rfl⟩ := ru
    exact PySem.P.repr_of_int (of_decide_eq_true hs) ⟨.str _, H, I.tok _, ⟨_, rfl⟩, q⟩
  | str z =>
    obtain ⟨t, rfl⟩ := ru
    exact PySem.P.repr_of_str ⟨.str _, H, I.tok _, ⟨_, rfl⟩, q⟩ hz
  | lst h1 h2 =>
    cases ru
    obtain ⟨as, rd⟩ := Dp.reads I _ _ (.ref _) (.lst h1 h2) rfl
    exact repr_of_reads' rd hs (PyData.noDict_hsm (noDict_plain.1 _ hp)) gd (by omega) (fun _ _ e => e) (fun h' u tk hk => ⟨.str _, H, I.kept hk, ⟨_, rfl⟩, q⟩) hz
  | tup h1 h2 =>
    cases ru
    obtain ⟨as, rd⟩ := Dp.reads I _ _ (.ref _) (.tup h1 h2) rfl
    exact repr_of_reads' rd hs (PyData.noDict_hsm (noDict_plain.1 _ hp)) gd (by omega) (fun _ _ e => e) (fun h' u tk hk => ⟨.str _, H, I.kept hk, ⟨_, rfl⟩, q⟩) hz
theorem bo_repr : BOk T (rRepr T.K) bRepr := fun w S xs vs H d Q r p h k => by
  unfold bRepr at h
  split at h
  · split at h
    · rename_i x hx
      cases h
      obtain ⟨v, rfl, p2⟩ := reps_one p
      unfold reprOk at hx
      simp only [Bool.and_eq_true, decide_eq_true_eq] at hx
      obtain ⟨k1, k2⟩ := toPy_ok 8 x hx.1.1
      exact ⟨v, _, rfl, dp_of r 8 x v hx.1.1 p2, k1, by omega, hx.1.2, by rw [sizeLine_eq]; exact hx.2, k w H _ (Wd.le.refl _) r (.str _)⟩
    · cases h
  · cases h
def bInt : List D → Option D
  | [.int i] => some (.int i)
  | [.bl k] => some (.int (if k then 1 else 0))
  | _ => none
theorem bo_int : BOk T (fun xs H Q => (∃ i, xs = [.int i] ∧ Q (.int i) H) ∨ ∃ k, xs = [.bl k] ∧ Q (.int (if k then 1 else 0)) H) bInt := fun w S xs vs H d Q r p h k => by
  unfold bInt at h
  split at h
  · cases h
    obtain ⟨v, rfl, p2⟩ := reps_one p
    cases p2
    exact .inl ⟨_, rfl, k w H _ (Wd.le.refl _) r (.int _)⟩
  · cases h
    obtain ⟨v, rfl, p2⟩ := reps_one p
    cases p2
    exact .inr ⟨_, rfl, k w H _ (Wd.le.refl _) r (.int _)⟩
  · cases h
def dStrs : List D → Option (List Str)
  | [] => some []
  | .str s :: l => (dStrs l).map (s :: ·)
  | _ => none
theorem reps_strs {w : Wd} : ∀ {l : List D} {vs : List V} {ys : List Str}, Reps T w l vs → dStrs l = some ys → vs = ys.map V.str
  | [], _, _, .nil, h => by cases h; rfl
  | .str s :: l, _, _, .cons q r, h => by
    cases q
    cases z : dStrs l with
    | none => rw [dStrs, z] at h; cases h
    | some ys =>
      rw [dStrs, z] at h
      cases h
      rw [reps_strs r z]
      rfl
  | .non :: l, _, _, _, h => by cases h
  | .bl _ :: l, _, _, _, h => by cases h
  | .int _ :: l, _, _, _, h => by cases h
  | .tup _ :: l, _, _, _, h => by cases h
  | .lst _ :: l, _, _, _, h => by cases h
  | .dct _ :: l, _, _, _, h => by cases h
  | .obj _ _ :: l, _, _, _, h => by cases h
  | .scr _ :: l, _, _, _, h => by cases h
  | .ref _ :: l, _, _, _, h => by cases h
  | .fn _ :: l, _, _, _, h => by cases h
  | .thk _ _ :: l, _, _, _, h => by cases h
def joinOk (x : Str) (ys : List Str) : Bool := decide ((ys.map (·.length)).sum + ys.length * x.length ≤ LINE)
/-- x.join(y) -/
def joinD (x y : D) : Option D := match x with
  | .str s => (match y with
    | .lst l => (dStrs l).bind fun ys => if joinOk s ys then some (.str (Txt.join s ys)) else none
    | .tup l => (dStrs l).bind fun ys => if joinOk s ys then some (.str (Txt.join s ys)) else none
    | _ => none)
  | _ => none
def eJoin (a b : EX) : EX := fun env S => (a env S).bnd fun x S1 => match x with
  | .str s => (b env S1).bnd fun y S2 => lift (joinD (.str s) y) S2
  | _ => .bad
theorem ie_join {apos : Pos} (hK : X.K = T.K) (ho : IE T E X a f) (hb : IE T E X b g) (hbase : attributeBase a "join" X.env (eval a X.env) = eval a X.env := by rfl)
    (hfew : ((backTo pos (starEach [b] X.env)).all (fun x => !x.1) && (backToKw pos (keywordEach [] X.env)).all (fun x => x.1.isSome)
      && decide (([b]).length + ([] : List Keyword).length + (if ([] : List Keyword).isEmpty then 0 else 1) < 30)) = true := by rfl)
    (hline : (apos.endLine == pos.line) = true := by rfl) (hs : starEach [b] X.env = (false, eval b X.env) :: starEach [] X.env := by rfl) (hpl : (backTo pos (starEach [] X.env)).any (·.1) = false := by rfl) :
    IE T E X (.Call (.Attribute a "join" apos) [b] [] pos) (eJoin f g) :=
  PE.mono (pe_bm PySem.F.plainAttrs_str PySem.F.slot_str_join PySem.F.type_str_join mt_join ho (pa_cons hb pa_nil hs) hbase hfew hline hs hpl) fun σ H Q ⟨w, env, S, r, e, q⟩ => ⟨w, env, S, r, e, (RP.bnd q).mono (fun d S1 h1 w1 H1 x l1 r1 p1 => by
    cases p1 with
    | str z =>
      refine ⟨rfl, w1, env, S1, r1, e.mono l1, (RP.bnd h1).mono (fun y S2 h2 w2 H2 yv l2 r2 p2 => ?_) fun _ _ _ x => x.le l1⟩
      cases zz : joinD (.str z) y with
      | none => rw [zz] at h2; exact (show False from h2).elim
      | some o =>
        rw [zz] at h2
        unfold joinD at zz
        dsimp only at zz
        split at zz
        · rename_i l
          cases z3 : dStrs l with
          | none => rw [z3] at zz; cases zz
          | some ys =>
            rw [z3] at zz
            have zz : (if joinOk z ys then some (D.str (Txt.join z ys)) else none) = some o := zz
            split at zz
            · rename_i hj
              cases zz
              cases p2 with
              | lst q1 q2 =>
                have e3 := reps_strs q2 z3
                subst e3
                exact ⟨z, _, ys, rfl, rfl, .inl (.inl (.inl (r2.sub _ _ q1))), of_decide_eq_true hj, h2 w2 H2 _ (l1.trans l2) r2 (.str _)⟩
            · cases zz
        · rename_i l
          cases z3 : dStrs l with
          | none => rw [z3] at zz; cases zz
          | some ys =>
            rw [z3] at zz
            have zz : (if joinOk z ys then some (D.str (Txt.join z ys)) else none) = some o := zz
            split at zz
            · rename_i hj
              cases zz
              cases p2 with
              | tup q1 q2 =>
                have e3 := reps_strs q2 z3
                subst e3
                exact ⟨z, _, ys, rfl, rfl, .inr (by rw [hK]; exact sqt_sub r2 q1), of_decide_eq_true hj, h2 w2 H2 _ (l1.trans l2) r2 (.str _)⟩
            · cases zz
        · cases zz
    | _ => exact (show False from h1).elim) fun _ _ _ x => x⟩
def fmtD : D → Option D
  | .str s => if s.length ≤ LINE then some (.str s) else none
  | .int i => if i.natAbs.log2 < 1920 then some (.str (toString i)) else none
  | _ => none
def eFmt (a : EX) : EX := eUn fmtD a
theorem ie_fmt (h : IE T E X a f) : IE T E X (.FormattedValue a (-1) none pos) (eFmt f) :=
  PE.mono (pe_fmt h) fun σ H Q ⟨w, env, S, r, e, q⟩ => ⟨w, env, S, r, e, (RP.bnd q).mono (fun d S1 h1 w1 H1 x l1 r1 p1 => by
    cases z : fmtD d with
    | none => rw [z] at h1; exact (show False from h1).elim
    | some o =>
      rw [z] at h1
      unfold fmtD at z
      split at z
      · split at z
        · rename_i hl
          cases z; cases p1
          exact .inl ⟨_, rfl, by rw [sizeLine_eq]; exact hl, h1 w1 H1 _ l1 r1 (.str _)⟩
        · cases z
      · split at z
        · rename_i hl
          cases z; cases p1
          exact .inr ⟨_, rfl, hl, h1 w1 H1 _ l1 r1 (.str _)⟩
        · cases z
      · cases z) fun _ _ _ x => x⟩
/-- the parts -/
def jRun : List EX → Str → Env → Store → R D
  | [], acc, _, S => .ok (.str acc) S
  | f :: fs, acc, env, S => (f env S).bnd fun d S1 => match d with
    | .str y => if (acc ++ y).length ≤ LINE then jRun fs (acc ++ y) env S1 else .bad
    | _ => .bad
def eJs (fs : List EX) : EX := fun env S => jRun fs Str.empty env S
inductive IJ (T : Tb) (E : XK) (X : Cx) : List Expr → List EX → Prop
  | nil : IJ T E X [] []
  | cons {e : Expr} {es : List Expr} {f : EX} {fs : List EX} (h : IE T E X e f) (r : IJ T E X es fs) : IJ T E X (e :: es) (f :: fs)
theorem IJ.toPJ {es : List Expr} {fs : List EX} (h : IJ T E X es fs) : PJ X es (fs.map (tI T E)) := by
  induction h with
  | nil => exact .nil
  | cons h _ ih => exact .cons h ih
theorem tJs_run : ∀ (fs : List EX) (acc : Str) (w : Wd) (env : Env) (S : Store) (σ : St) (H : Hp) (Q : VK), WR T w S H → ER T w env σ → RP (jRun fs acc env S) (fun d S' => ∀ w' H' v, w.le w' → WR T w' S' H' → Rep T w' d v → Q v H') (XW T w E) → tJs (fs.map (tI T E)) acc σ H fun out H1 => Q (.str out) H1
  | [], acc, w, env, S, σ, H, Q, r, e, q => (show ∀ w' H' v, w.le w' → WR T w' S H' → Rep T w' (D.str acc) v → Q v H' from q) w H _ (Wd.le.refl _) r (.str _)
  | f :: fs, acc, w, env, S, σ, H, Q, r, e, q => ⟨w, env, S, r, e, (RP.bnd q).mono (fun d S1 h1 w1 H1 x l1 r1 p1 => by
    cases p1 with
    | str y =>
      have h1 : RP (if (acc ++ y).length ≤ LINE then jRun fs (acc ++ y) env S1 else .bad) (fun d S' => ∀ w' H' v, w.le w' → WR T w' S' H' → Rep T w' d v → Q v H') (XW T w E) := h1
      by_cases hl : (acc ++ y).length ≤ LINE
      · rw [if_pos hl] at h1
        exact ⟨y, rfl, by rw [sizeLine_eq]; exact hl, tJs_run fs (acc ++ y) w1 env S1 σ H1 Q r1 (e.mono l1) (RP.mono h1 (fun d S' q w' H' v l => q w' H' v (l1.trans l)) fun _ _ _ x => x.le l1)⟩
      · rw [if_neg hl] at h1
        exact (show False from h1).elim
    | _ => exact (show False from h1).elim) fun _ _ _ x => x⟩
theorem ie_js {e1 e2 : Expr} {fs : List EX} (h : IJ T E X (e1 :: e2 :: es) fs) : IE T E X (.JoinedStr (e1 :: e2 :: es) pos) (eJs fs) :=
  PE.mono (pe_joined h.toPJ) fun σ H Q ⟨w, env, S, r, e, q⟩ => tJs_run fs Str.empty w env S σ H Q r e q
end Ro
end
section
set_option Elab.async false
set_option linter.all false
set_option maxRecDepth 100000
set_option maxHeartbeats 4000000
namespace Ro
open PySem PySem.Spec PyProof.Rows L2
structure Lw where
  glo : List String := []
  free : List String := []
  gins : List (String × Int) := []
  cls : List String := []
  noat : List (String × String) := []
  meth : List (String × String) := []
  mkr : List String := []
  isi : List String := []
  kit : List (Ty × Ty) := []
  tups : List (String × List He.Dv) := []
  defs : List He.DefD := []
  fas : List He.Fa := []
  exk : List String := []
  kix : List (String × Ty × Bool) := []
  tf : List (He.Defn × String) := []
  bs : List (PySem.W.Frag → Bool) := []
  gstrs : List (String × String) := []
/-- what isinstance asks of an exception's class -/
structure ExC (K : PySem.W.Frag) (C : Addr) : Prop where
  cl : (PySem.W.clsIn K C).isSome = true
  ga : PySem.W.findIn K (.ref C) "__getattribute__" = some (some (.builtin "BaseException.__getattribute__"))
  gt : ∃ g, PySem.W.findIn K (.ref C) "__getattr__" = some g
  sb : PySem.W.subIn K (.ref C) (.type "BaseException") = some true
  ca : PySem.W.findIn K (.ref C) "__class__" = some (some (.builtin "object.__class__"))
  sp : PySem.W.specialIn K (.builtin "object.__class__") "__get__" = some (some (.builtin "getset_descriptor.__get__"))
  tk : PySem.W.takesIn K (.builtin "object.__class__") = some true
  mr : PySem.W.mroIn K C (.type "object") = some true
def exCB (K : PySem.W.Frag) (C : Addr) : Bool :=
  (PySem.W.clsIn K C).isSome && (decide (PySem.W.findIn K (.ref C) "__getattribute__" = some (some (.builtin "BaseException.__getattribute__"))) && ((PySem.W.findIn K (.ref C) "__getattr__").isSome && (decide (PySem.W.subIn K (.ref C) (.type "BaseException") = some true) &&
  (decide (PySem.W.findIn K (.ref C) "__class__" = some (some (.builtin "object.__class__"))) && (decide (PySem.W.specialIn K (.builtin "object.__class__") "__get__" = some (some (.builtin "getset_descriptor.__get__"))) && (decide (PySem.W.takesIn K (.builtin "object.__class__") = some true) && decide (PySem.W.mroIn K C (.type "object") = some true)))))))
theorem exC_of {K : PySem.W.Frag} {C : Addr} (h : exCB K C = true) : ExC K C := by
  unfold exCB at h
  simp only [Bool.and_eq_true, decide_eq_true_eq] at h
  obtain ⟨h1, h2, h3, h4, h5, h6, h7, h8⟩ := h
  exact ⟨h1, h2, Option.isSome_iff_exists.mp h3, h4, h5, h6, h7, h8⟩
def isiB (K : PySem.W.Frag) (x : String) : Bool := (He.Fa.cls (x : Str)).ok K && (He.eqO (PySem.W.findIn K (.ref (He.ga K (x : Str))) "__class__") (some (some (.builtin "object.__class__"))) && (He.eqO (PySem.W.specialIn K (.builtin "object.__class__") "__get__") (some (some (.builtin "getset_descriptor.__get__"))) &&
  (decide (PySem.W.takesIn K (.builtin "object.__class__") = some true) && decide (PySem.W.mroIn K (He.ga K (x : Str)) (.type "object") = some true))))
def Lw.ok (L : Lw) (K : PySem.W.Frag) : Bool :=
  L.glo.all (fun x => (He.Fa.glo (x : Str)).ok K) && (L.free.all (fun x => (He.Fa.free (x : Str)).ok K) && (L.gins.all (fun p => (He.Fa.int (p.1 : Str) p.2).ok K) && (L.cls.all (fun x => (He.Fa.cls (x : Str)).ok K) &&
  (L.noat.all (fun p => (He.Fa.noat (p.1 : Str) (p.2 : Str)).ok K) && (L.meth.all (fun p => (He.Fa.meth (p.1 : Str) (p.2 : Str)).ok K) && (L.mkr.all (fun x => (He.Fa.mkr (x : Str)).ok K) &&
  (L.isi.all (fun x => isiB K x) && (L.kit.all (fun p => decide (PySem.W.kitOne K (tyV' K p.1) (tyV' K p.2) = some (subTy p.1 p.2))) && (L.tups.all (fun p => He.tupB K (p.1 : Str) p.2) && (L.defs.all (fun d => d.ok K) &&
  (L.fas.all (fun f => f.ok K) && (L.exk.all (fun x => exCB K (He.ga K (x : Str))) && (L.kix.all (fun p => decide (PySem.W.kitOne K (.ref (He.ga K (p.1 : Str))) (tyV' K p.2.1) = some p.2.2)) && (decide ((L.tf.map fun p => (He.cT K p.1).2).Nodup) && (L.bs.all (fun b => b K) && L.gstrs.all (fun p => (He.Fa.str (p.1 : Str) (p.2 : Str)).ok K))))))))))))))))
/-- the head's facts -/
structure Fx (T : Tb) (mg : Str → Option Value) (L : Lw) : Prop where
  glo : ∀ x ∈ L.glo, mg (x : Str) = some (.ref (He.ga T.K (x : Str)))
  free : ∀ x ∈ L.free, mg (x : Str) = none
  gins : ∀ p ∈ L.gins, ∃ t, mg (p.1 : Str) = some (.int p.2 t)
  cls : ∀ x ∈ L.cls, Cls T.K (He.ga T.K (x : Str))
  noat : ∀ p ∈ L.noat, NoAttr T.K (He.ga T.K (p.1 : Str)) (p.2 : Str)
  meth : ∀ p ∈ L.meth, Meth T.K (He.ga T.K (p.1 : Str)) (p.2 : Str) (He.ma T.K (He.ga T.K (p.1 : Str)) (p.2 : Str))
  mkr : ∀ x ∈ L.mkr, Mk T.K (He.ga T.K (x : Str)) (He.ma T.K (He.ga T.K (x : Str)) "__init__")
  isi : ∀ x ∈ L.isi, IsiC T.K (He.ga T.K (x : Str))
  kit : ∀ p ∈ L.kit, PySem.W.kitOne T.K (tyV' T.K p.1) (tyV' T.K p.2) = some (subTy p.1 p.2)
  tups : ∀ p ∈ L.tups, He.tupB T.K (p.1 : Str) p.2 = true
  defs : ∀ (i : Nat) d, L.defs[i]? = some d → ∃ fd, FunD T.K d.name d.qual d.params d.body d.scope (d.dvs T.K) (d.kws T.K) (He.fAd T.K d.at_) fd
  fas : ∀ f ∈ L.fas, f.ok T.K = true
  exk : ∀ x ∈ L.exk, ExC T.K (He.ga T.K (x : Str))
  kix : ∀ p ∈ L.kix, PySem.W.kitOne T.K (.ref (He.ga T.K (p.1 : Str))) (tyV' T.K p.2.1) = some p.2.2
  tfn : (L.tf.map fun p => (He.cT T.K p.1).2).Nodup
  bs : ∀ b ∈ L.bs, b T.K = true
  gstrs : ∀ p ∈ L.gstrs, ∃ t, mg (p.1 : Str) = some (.str (p.2 : Str) t)
theorem isi_of {K : PySem.W.Frag} {x : String} (h : isiB K x = true) : IsiC K (He.ga K (x : Str)) := by
  obtain ⟨h1, h⟩ := He.ba h
  obtain ⟨h2, h⟩ := He.ba h
  obtain ⟨h3, h⟩ := He.ba h
  obtain ⟨h4, h5⟩ := He.ba h
  exact ⟨He.cls_ok h1, He.eqO_ok h2, He.eqO_ok h3, of_decide_eq_true h4, of_decide_eq_true h5⟩
/-- the head's watch -/
def obL (L : Lw) (K : PySem.W.Frag) : He.AlD := (L.ok K, L.defs.map fun d => He.fnW K d.at_)
theorem fx_of {T : Tb} {L : Lw} {h : Heap} {mg : Str → Option Value} (X : T.K.In h) (G : h.Ns mainGlobals mg) (c : obL L T.K = (true, L.defs.map He.DefD.val)) : Fx T mg L := by
  have c1 : L.ok T.K = true := congrArg (fun z : He.AlD => z.1) c
  have c2 : (L.defs.map fun d => He.fnW T.K d.at_) = L.defs.map He.DefD.val := congrArg (fun z : He.AlD => z.2) c
  obtain ⟨h1, c1⟩ := He.ba c1
  obtain ⟨h2, c1⟩ := He.ba c1
  obtain ⟨h3, c1⟩ := He.ba c1
  obtain ⟨h4, c1⟩ := He.ba c1
  obtain ⟨h5, c1⟩ := He.ba c1
  obtain ⟨h6, c1⟩ := He.ba c1
  obtain ⟨h7, c1⟩ := He.ba c1
  obtain ⟨h8, c1⟩ := He.ba c1
  obtain ⟨h9, c1⟩ := He.ba c1
  obtain ⟨h10, c1⟩ := He.ba c1
  obtain ⟨h11, c1⟩ := He.ba c1
  obtain ⟨h12, c1⟩ := He.ba c1
  obtain ⟨h13, c1⟩ := He.ba c1
  obtain ⟨h14, c1⟩ := He.ba c1
  obtain ⟨h15, c1⟩ := He.ba c1
  obtain ⟨h16, h17⟩ := He.ba c1
  rw [List.all_eq_true] at h1 h2 h3 h4 h5 h6 h7 h8 h9 h10 h11 h12 h13 h14 h16 h17
  refine ⟨fun x hx => He.glo_ok X G (h1 x hx), fun x hx => He.free_ok X G (h2 x hx), fun p hp => He.int_ok X G (h3 p hp), fun x hx => He.cls_ok (h4 x hx), fun p hp => He.noat_ok (h5 p hp), fun p hp => He.meth_ok (h6 p hp), fun x hx => He.mkr_ok (h7 x hx), fun x hx => isi_of (h8 x hx), fun p hp => of_decide_eq_true (h9 p hp), h10, fun i d hd => ?_, h12, fun x hx => exC_of (h13 x hx), fun p hp => of_decide_eq_true (h14 p hp), of_decide_eq_true h15, h16, fun p hp => He.str_ok X G (h17 p hp)⟩
  have e : (L.defs.map fun d => He.fnW T.K d.at_)[i]? = (L.defs.map He.DefD.val)[i]? := by rw [c2]
  rw [List.getElem?_map, List.getElem?_map, hd] at e
  exact He.DefD.funD (Option.some.inj e) (h11 d (List.mem_of_getElem? hd))
section
variable {T : Tb} {mg : Str → Option Value} {L : Lw}
theorem Fx.g (F : Fx T mg L) (x : String) (h : x ∈ L.glo := by decide +kernel) : mg (x : Str) = some (.ref (He.ga T.K (x : Str))) := F.glo x h
theorem Fx.f (F : Fx T mg L) (x : String) (h : x ∈ L.free := by decide +kernel) : mg (x : Str) = none := F.free x h
theorem Fx.i (F : Fx T mg L) (x : String) (i : Int) (h : (x, i) ∈ L.gins := by decide +kernel) : ∃ t, mg (x : Str) = some (.int i t) := F.gins (x, i) h
theorem Fx.m (F : Fx T mg L) (c x : String) (h : (c, x) ∈ L.meth := by decide +kernel) : Meth T.K (He.ga T.K (c : Str)) (x : Str) (He.ma T.K (He.ga T.K (c : Str)) (x : Str)) := F.meth (c, x) h
theorem Fx.c (F : Fx T mg L) (x : String) (h : x ∈ L.cls := by decide +kernel) : Cls T.K (He.ga T.K (x : Str)) := F.cls x h
theorem Fx.mk' (F : Fx T mg L) (x : String) (h : x ∈ L.mkr := by decide +kernel) : Mk T.K (He.ga T.K (x : Str)) (He.ma T.K (He.ga T.K (x : Str)) "__init__") := F.mkr x h
theorem Fx.tp (F : Fx T mg L) (i : Nat) {x : String} {l : List He.Dv} (h : L.tups[i]? = some (x, l) := by rfl) : He.tupB T.K (x : Str) l = true := F.tups (x, l) (List.mem_of_getElem? h)
theorem Fx.at' (F : Fx T mg L) (cs : List String) (f : String) (h : cs.all (fun c => L.cls.contains c && L.noat.contains (c, f)) = true := by decide +kernel) : ∀ c ∈ cs, Cls T.K (He.ga T.K (c : Str)) ∧ NoAttr T.K (He.ga T.K (c : Str)) (f : Str) := fun c hc => by
  have z := List.all_eq_true.mp h c hc
  obtain ⟨h1, h2⟩ := Bool.and_eq_true_iff.mp z
  exact ⟨F.cls c (by simpa using h1), F.noat (c, f) (by simpa using h2)⟩
theorem Fx.is' (F : Fx T mg L) (tys : List Ty) (h : tys.all (fun t => match t with | .o c => L.isi.contains c | _ => true) = true := by decide +kernel) : ∀ t ∈ tys, ∀ c, t = .o c → IsiC T.K (He.ga T.K (c : Str)) := fun t ht c e => by
  subst e
  have z := List.all_eq_true.mp h _ ht
  exact F.isi c (by simpa using z)
theorem Fx.b (F : Fx T mg L) (i : Nat) {b : PySem.W.Frag → Bool} (h : L.bs[i]? = some b := by rfl) : b T.K = true := F.bs b (List.mem_of_getElem? h)
theorem Fx.s (F : Fx T mg L) (x z : String) (h : (x, z) ∈ L.gstrs := by decide +kernel) : ∃ t, mg (x : Str) = some (.str (z : Str) t) := F.gstrs (x, z) h
theorem Fx.ki (F : Fx T mg L) (tys : List Ty) (t : Ty) (h : tys.all (fun x => decide ((x, t) ∈ L.kit)) = true := by decide +kernel) : ∀ x ∈ tys, PySem.W.kitOne T.K (tyV' T.K x) (tyV' T.K t) = some (subTy x t) := fun x hx => F.kit (x, t) (of_decide_eq_true (List.all_eq_true.mp h x hx))
end
variable {T : Tb} {E : XK} {X : Cx} {pos : Pos}
theorem ie_gint {x : Str} {i : Int} (hg : Gl X x) (hm : ∃ t, X.mg x = some (.int i t)) (hd : (x == ("__debug__" : Str)) = false := by decide +kernel) : IE T E X (.Name x pos) (eC (.int i)) := by
  obtain ⟨t, e⟩ := hm
  exact ie_glob (v := .int i) hg e ⟨t, rfl⟩ (fun _ => .int i) hd
theorem ie_gtup {x : Str} {l : List He.Dv} (hg : Gl X x) (hm : X.mg x = some (.ref (He.ga T.K x))) (ht : He.tupB T.K x l = true) (hl : l.all dvOk = true) (hd : (x == ("__debug__" : Str)) = false := by decide +kernel) : IE T E X (.Name x pos) (eC (.tup (l.map dvD))) :=
  ie_glob (v := .ref (He.ga T.K x)) hg hm rfl (fun w => .tup (He.tupB_ok ht w.G) (reps_dfl hl)) hd
theorem hu1 {k : Nat} {A : Around} (hr : RG k A) : A.units + 1 < cLine := by
  have := hr.rm.units
  omega
def sBad : ES := fun _ _ => .bad
theorem is_bad {st : Stmt} : IS T E X st sBad := ⟨fun pins s σ H Q I q => by obtain ⟨w, env, S, r, e, q⟩ := q; exact (show False from q).elim⟩
/-- whose exceptions leave -/
theorem tk_cx {P : Program} {w : World} {K : PySem.W.Frag} {mg : Str → Option Value} {base : Heap} {N : List Str} {qual : Str} {scope : Scope} {fp : Addr} {cd : Value} {A : Around} {outer : List PySem.Env} {s : Shared} {H : Hp} {E : XK} :
    Takes (cxOf (L2.CX P w) P w K mg base N qual scope fp cd A outer s H E) (fun c d _ H => E c d H) := takes_of rfl rfl rfl rfl
theorem tk_no {X : Cx} : Takes X (fun c d _ H => E00 c d H) := fun _ _ ⟨_, _, _, _, _, _, _, _, _, _, _, _, _, _, _, _, w⟩ => w.elim
end Ro
end
section
set_option Elab.async false
set_option linter.all false
set_option maxRecDepth 100000
set_option maxHeartbeats 4000000
namespace Ro
open PySem PySem.Spec PyProof.Rows L2
variable {T : Tb} {E : XK} {X : Cx} {a b c e : Expr} {es : List Expr} {f g h : EX} {fa ga fk : AX} {fb gb : BX} {pos : Pos} {st : Stmt} {sts rest : List Stmt} {s t : ES}
theorem ie_v (i : Nat) {x : Str} (hN : X.N[i]? = some x := by rfl) (hv : Vis X.env.scope x := by first | exact .inl rfl | exact .inr (.inl rfl) | exact .inr (.inr rfl)) (hd : (x == ("__debug__" : Str)) = false := by decide +kernel) (hcd : (x == ("__classdict__" : Str)) = false := by decide +kernel) : IE T E X (.Name x pos) (eVar i) := ie_var hN hv hd hcd
theorem ig_n {vs : List Nat} (i : Nat) {x : Str} (hN : X.N.Nodup) (hi : X.N[i]? = some x := by rfl) (hx : Loc X.env.scope x := by first | exact .inl rfl | exact .inr rfl) (hv : i ∈ vs := by decide) (hf : X.fn x = true ∨ X.env.scope.names.lookup x = some .local := by first | exact .inl rfl | exact .inr rfl) : IG T X vs (.Name x pos) (pName i) := ig_name hN hi hx hv hf
theorem is_st (i : Nat) {x : Str} {p' : Pos} (hN : X.N.Nodup) (he : IE T E X a f) (hi : X.N[i]? = some x := by rfl) (hx : Loc X.env.scope x := by first | exact .inl rfl | exact .inr rfl) (hs : swapsWith a (some (.Name x p')) pos.line X.env = pure false := by rfl) (hf : X.fn x = true ∨ X.env.scope.names.lookup x = some .local := by first | exact .inl rfl | exact .inr rfl) :
    IS T E X (.Assign [.Name x p'] a pos) (sSet i f) := is_set hN hi hx he hs hf
def allN (n : Nat) : List Nat := List.range n
theorem len_nil : ∀ ds env e, pNil ds env = some e → ds.length = 0 := fun ds env e h => by
  cases ds with
  | nil => rfl
  | cons _ _ => cases h
theorem len_cons {p : Pat} {r : List D → Env → Option Env} {n : Nat} (k : ∀ ds env e, r ds env = some e → ds.length = n) : ∀ ds env e, pCons p r ds env = some e → ds.length = n + 1 := fun ds env e h => by
  cases ds with
  | nil => cases h
  | cons d ds =>
    have h : (p d env).bind (fun e => r ds e) = some e := h
    cases z : p d env with
    | none => rw [z] at h; cases h
    | some e1 =>
      rw [z] at h
      rw [List.length_cons, k ds e1 e h]
def blkB (N : List Str) (sc scope : Scope) (own : List (Str × Nat)) : Bool :=
  decide (scope.kind = .function) && (scope.names.all (fun y => decide (scope.names.lookup y.1 = some y.2)) && (own.all (fun p => decide (N[p.2]? = some p.1)) &&
  (scope.names.all (fun y => !decide (y.2 = .free) || (decide (sc.names.lookup y.1 = some .cell) || decide (sc.names.lookup y.1 = some .free))) &&
  scope.names.all (fun y => !(decide (y.2 = .local) || decide (y.2 = .cell)) || ((own.map (·.1)).contains y.1 || !N.contains y.1)))))
theorem blk_by {N : List Str} {sc scope : Scope} {own : List (Str × Nat)} (h : blkB N sc scope own = true) : BlkOk N sc scope own := by
  unfold blkB at h
  simp only [Bool.and_eq_true, List.all_eq_true, decide_eq_true_eq, Bool.or_eq_true, Bool.not_eq_true', decide_eq_false_iff_not, Bool.or_eq_false_iff] at h
  obtain ⟨h1, h2, h3, h4, h5⟩ := h
  refine ⟨h1, h2, h3, fun y hy e => ?_, fun y hy e => ?_⟩
  · rcases h4 y hy with z | z
    · exact absurd e z
    · exact z
  · rcases h5 y hy with z | z | z
    · rcases e with e | e
      · exact absurd e z.1
      · exact absurd e z.2
    · exact .inl (by simpa using z)
    · exact .inr (by simpa using z)
def idxA (x y : D) (S : Store) : Option D := match x with
  | .ref _ => idxM x y S
  | _ => idxD x y
def eIdxA (a b : EX) : EX := fun env S => (a env S).bnd fun x S1 => (b env S1).bnd fun y S2 => lift (idxA x y S2) S2
theorem PE.byOk {X : Cx} {e : Expr} {f g h : EX} (hg : IE T E X e g) (hh : IE T E X e h) (k : ∀ env S, f env S = g env S ∨ f env S = h env S) : IE T E X e f := ⟨fun pins s σ H Q I q => by
  obtain ⟨w, env, S, r, e, q⟩ := q
  rcases k env S with z | z
  · exact hg.run pins s σ H Q I ⟨w, env, S, r, e, by rw [← z]; exact q⟩
  · exact hh.run pins s σ H Q I ⟨w, env, S, r, e, by rw [← z]; exact q⟩⟩
/-- by the value's kind -/
theorem ie_idxA (hK : X.K = T.K) (ha : IE T E X a f) (hb : IE T E X b g) (hs : PlainIx b := by exact fun _ _ => rfl) : IE T E X (.Subscript a b pos) (eIdxA f g) :=
  PE.byOk (ie_idx hK ha hb hs) (ie_idxM hK ha hb hs) fun env S => by
    unfold eIdxA eIdx eIdxM eOp
    cases z : f env S with
    | ok x S1 =>
      cases x with
      | ref n => exact .inr rfl
      | _ => exact .inl rfl
    | err c fs S1 => exact .inl rfl
    | bad => exact .inl rfl
def itAny (f : EX) : AX := fun env S => (f env S).bnd fun d S1 => match d with
  | .lst l => .ok l S1
  | .tup l => .ok l S1
  | .str s => .ok (s.cps.toList.map fun c => .str ⟨#[c]⟩) S1
  | _ => .bad
/-- a text's signs -/
def itTxt (f : EX) : AX := fun env S => (f env S).bnd fun d S1 => match d with
  | .str s => .ok (s.cps.toList.map fun c => .str ⟨#[c]⟩) S1
  | _ => .bad
theorem itR_str {w : Wd} {z : Str} : ItR T w (z.cps.toList.map fun c => .str ⟨#[c]⟩) (Its z) where
  goS := fun i H w' S l1 r1 hi => by
    rw [List.length_map] at hi
    exact hi
  stopS := fun i H w' S l1 r1 hi => by
    rw [List.length_map] at hi
    exact hi
  yldS := fun i H x H' w' S d l1 r1 hd y => by
    obtain ⟨rfl, c, e, rfl⟩ := y
    rw [List.getElem?_map, Array.getElem?_toList, e] at hd
    cases hd
    exact ⟨w', Wd.le.refl _, r1, .str _⟩
theorem ii_txt {tg : Expr} (h : IE T E X a f) : II T E X tg a (itTxt f) :=
  PI.mono (pi_str h) fun σ H Rr ⟨w, env, S, r, e, q⟩ => ⟨w, env, S, r, e, (RP.bnd q).mono (fun d S1 h1 w1 H1 v l1 r1 p1 => by
    cases p1 with
    | str s => exact ⟨s, rfl, h1 w1 H1 _ l1 r1 itR_str⟩
    | _ => exact (show False from h1).elim) fun _ _ _ x => x⟩
theorem ii_any {tg : Expr} (hK : X.K = T.K) (h : IE T E X a f) : II T E X tg a (itAny f) := ⟨fun pins s σ H R I q => by
  obtain ⟨w, env, S, r, e, q⟩ := q
  by_cases z : ∃ l S1, f env S = .ok (.tup l) S1
  · obtain ⟨l, S1, z⟩ := z
    refine (ii_tup (tg := tg) hK h).run pins s σ H R I ⟨w, env, S, r, e, ?_⟩
    unfold itTup
    unfold itAny at q
    rw [z] at q ⊢
    exact q
  by_cases z2 : ∃ l S1, f env S = .ok (.str l) S1
  · obtain ⟨l, S1, z2⟩ := z2
    refine (ii_txt (tg := tg) h).run pins s σ H R I ⟨w, env, S, r, e, ?_⟩
    unfold itTxt
    unfold itAny at q
    rw [z2] at q ⊢
    exact q
  · refine (ii_lst (tg := tg) hK h).run pins s σ H R I ⟨w, env, S, r, e, ?_⟩
    unfold itSeq
    unfold itAny at q
    cases y : f env S with
    | ok d S1 =>
      rw [y] at q
      cases d with
      | tup l => exact absurd ⟨l, S1, y⟩ z
      | str l => exact absurd ⟨l, S1, y⟩ z2
      | _ => exact q
    | err c fs S1 => rw [y] at q; exact q
    | bad => rw [y] at q; exact q⟩
def zipL : List D → List D → List D
  | x :: l, y :: m => .tup [x, y] :: zipL l m
  | _, _ => []
def itZip (fa : AX) : AX := fun env S => (fa env S).bnd fun ds S1 => match ds with
  | [.lst l, .lst m] => .ok (zipL l m) S1
  | [.tup l, .tup m] => .ok (zipL l m) S1
  | _ => .bad
def bLenA : List D → Option D := fun xs => match xs with
  | [.dct _] => none
  | _ => bLen xs
theorem bo_lenA : BOk T (rLenH T.K) bLenA := bo_len
def dBls : List D → Option (List Bool)
  | [] => some []
  | .bl b :: l => (dBls l).map (b :: ·)
  | _ :: _ => none
theorem reps_bls {w : Wd} : ∀ {l : List D} {vs : List V} {ys : List Bool}, Reps T w l vs → dBls l = some ys → vs = ys.map V.bl
  | [], _, _, .nil, h => by cases h; rfl
  | d :: l, _, _, .cons q r, h => by
    cases q with
    | bl b =>
      cases z : dBls l with
      | none => rw [dBls, z] at h; cases h
      | some ys =>
        rw [dBls, z] at h
        cases h
        rw [reps_bls r z]
        rfl
    | _ => cases h
def dInts : List D → Option (List Int)
  | [] => some []
  | .int b :: l => (dInts l).map (b :: ·)
  | _ :: _ => none
theorem reps_ints {w : Wd} : ∀ {l : List D} {vs : List V} {ys : List Int}, Reps T w l vs → dInts l = some ys → vs = ys.map V.int
  | [], _, _, .nil, h => by cases h; rfl
  | d :: l, _, _, .cons q r, h => by
    cases q with
    | int b =>
      cases z : dInts l with
      | none => rw [dInts, z] at h; cases h
      | some ys =>
        rw [dInts, z] at h
        cases h
        rw [reps_ints r z]
        rfl
    | _ => cases h
def bAll : List D → Option D
  | [.lst l] => (dBls l).map fun bs => .bl (bs.all id)
  | _ => none
theorem bo_all : BOk T (rAll T.K) bAll := fun w S xs vs H d Q r p h k => by
  unfold bAll at h
  split at h
  · rename_i l
    cases z : dBls l with
    | none => rw [z] at h; cases h
    | some bs =>
      rw [z] at h
      cases h
      obtain ⟨v, rfl, p2⟩ := reps_one p
      cases p2 with
      | lst q1 q2 =>
        have e := reps_bls q2 z
        subst e
        exact ⟨_, bs, rfl, .inl (.inl (r.sub _ _ q1)), k w H _ (Wd.le.refl _) r (.bl _)⟩
  · cases h
def sPar2 (i j : Nat) (fa : AX) : ES := fun env S => (fa env S).bnd fun xs S1 => match xs with
  | [x, y] => .ok (.nx ((env.set i (some x)).set j (some y))) S1
  | _ => .bad
theorem is_par2 {x y : Str} {px py pt : Pos} {kt k2 : Nat} {pt2 : Pos} (i j : Nat) (hN : X.N.Nodup) (ha : IA T E X [a, b] fa) (hc : X.calm = true := by rfl) (hi : X.N[i]? = some x := by rfl) (hj : X.N[j]? = some y := by rfl) (hij : i ≠ j := by decide)
    (hx : X.env.scope.names.lookup x = some .local := by rfl) (hy : X.env.scope.names.lookup y = some .local := by rfl)
    (hw : swappedStores [.Tuple [.Name x px, .Name y py] kt pt] (.Tuple [a, b] k2 pt2) X.env = pure (some [x, y]) := by rfl)
    (hs : swapsWithSole [.Tuple [.Name x px, .Name y py] kt pt] (.Tuple [a, b] k2 pt2) pos.line X.env = pure false := by rfl) :
    IS T E X (.Assign [.Tuple [.Name x px, .Name y py] kt pt] (.Tuple [a, b] k2 pt2) pos) (sPar2 i j fa) :=
  PS.mono (ps_par hc hN hi hj hij hx hy ha hw hs) fun D σ H ⟨w, env, S, r, e, q⟩ => ⟨w, env, S, r, e, (RP.bnd q).mono (fun ds S1 h1 w1 H1 vs l1 r1 p1 => by
    split at h1
    · obtain ⟨v, u, rfl, p2, q2⟩ := reps_two p1
      exact ⟨v, u, rfl, h1 w1 H1 _ l1 r1 (((e.mono l1).set p2 i).set q2 j)⟩
    · exact (show False from h1).elim) fun _ _ _ x => x⟩
/-- r asks no more than r' -/
def RPle {α : Type} (r r' : R α) : Prop := ∀ (Pk : α → Store → Prop) (Pe : String → List D → Store → Prop), RP r Pk Pe → RP r' Pk Pe
theorem IS.eqv {s s' : ES} (h : IS T E X st s) (k : ∀ env S, RPle (s' env S) (s env S)) : IS T E X st s' := PS.mono h fun D σ H ⟨w, env, S, r, e, q⟩ => ⟨w, env, S, r, e, (k env S) _ _ q⟩
theorem is_par2u {i j : Nat} (h : IS T E X st (sUnp (pTup (pCons (pName i) (pCons (pName j) pNil))) (eTup fa))) : IS T E X st (sPar2 i j fa) := h.eqv fun env S Pk Pe q => by
  unfold sPar2 at q
  unfold sUnp eTup
  cases z : fa env S with
  | ok xs S1 =>
    rw [z] at q
    rw [bnd_ok] at q ⊢
    split at q
    · exact q
    · exact (show False from q).elim
  | err c fs S1 => rw [z] at q; exact q
  | bad => rw [z] at q; exact q
def ltA : D → D → Option D
  | .int i, .int j => some (.bl (decide (i < j)))
  | .tup l, .tup m => (dInts l).bind fun ns => (dInts m).map fun ms => .bl (HT.lexLt ns ms)
  | _, _ => none
theorem oi_ltA (hK : X.K = T.K) (hu : X.A.units < cLine) : OpR X (compareOp .Lt) (rOp T ltA) := orOp2 fun w d e r S x y H Q h1 h2 h3 h4 h5 => by
  unfold ltA at h4
  split at h4
  · cases h2; cases h3; cases h4
    exact ⟨_, op_lt, _, _, rfl, rfl, h5 w H _ (Wd.le.refl _) h1 (.bl _)⟩
  · rename_i l m
    cases z : dInts l with
    | none => rw [z] at h4; cases h4
    | some ns =>
      rw [z] at h4
      cases z2 : dInts m with
      | none => rw [z2] at h4; cases h4
      | some ms =>
        rw [z2] at h4
        cases h4
        cases h2 with
        | tup q2 r2 =>
          cases h3 with
          | tup q3 r3 =>
            have e1 := reps_ints r2 z
            have e2 := reps_ints r3 z2
            subst e1 e2
            exact ⟨_, op_ltT hu, _, _, ns, ms, rfl, rfl, by rw [hK]; exact sqt_sub h1 q2, by rw [hK]; exact sqt_sub h1 q3, h5 w H _ (Wd.le.refl _) h1 (.bl _)⟩
  · cases h4
end Ro
end
section
set_option Elab.async false
set_option linter.all false
set_option maxRecDepth 100000
set_option maxHeartbeats 4000000
namespace Ro
open PySem PySem.Spec PyProof.Rows L2
variable {T : Tb} {E : XK} {X : Cx} {a b c e : Expr} {es : List Expr} {f g h : EX} {fa ga fk : AX} {fb gb : BX} {pos : Pos} {st : Stmt} {sts rest : List Stmt} {s t : ES}
def codB : Int := 4294967296
def dTups : List D → Option (List (List Int))
  | [] => some []
  | .tup l :: r => (dInts l).bind fun ns => (dTups r).map (ns :: ·)
  | _ :: _ => none
def srtT (l : List (List Int)) : List (List Int) := l.mergeSort fun a b => decide (TS.code codB a ≤ TS.code codB b)
def tupD (ns : List Int) : D := .tup (ns.map D.int)
def tupOk (n : Nat) (m : List Int) : Bool := decide (m.length = n) && m.all fun z => decide (0 ≤ z ∧ z < codB)
def sortOk (l : List (List Int)) : Bool := decide (l.length < 64) && (match l with
  | [] => true
  | n :: r => decide (1 ≤ n.length) && (n :: r).all (tupOk n.length))
def bSortL (l : List (List Int)) : Option D := if sortOk l then some (.lst ((srtT l).map tupD)) else none
def bSorted : List D → Option D
  | [.lst l] => (dTups l).bind bSortL
  | [.tup l] => (dTups l).bind bSortL
  | _ => none
def eDctT : EX := fun _ S => .ok (.ref S.length) (S ++ [.dcT []])
def putL (l : List (List Int × D)) (k : List Int) (v : D) : List (List Int × D) :=
  if (l.any fun p => decide (p.1 = k)) = true then l.map (fun p => if p.1 = k then (p.1, v) else p) else l ++ [(k, v)]
def getL (l : List (List Int × D)) (k : List Int) : Option D := (l.find? fun p => decide (p.1 = k)).map (·.2)
theorem inl_inj {a b : List Int} : (a.map Sum.inl : List Key) = b.map Sum.inl ↔ a = b := by
  constructor
  · intro h
    induction a generalizing b with
    | nil => cases b with
      | nil => rfl
      | cons _ _ => cases h
    | cons x a ih => cases b with
      | nil => cases h
      | cons y b =>
        rw [List.map_cons, List.map_cons] at h
        injection h with h1 h2
        injection h1 with h1
        rw [h1, ih h2]
  · rintro rfl; rfl
theorem get_repT {w : Wd} {k : List Int} {d : D} : ∀ {l : List (List Int × D)} {kvs : List (List Key × V)}, kvs.map (·.1) = l.map (fun p => p.1.map Sum.inl) → Reps T w (l.map (·.2)) (kvs.map (·.2)) → getL l k = some d → ∃ v, valV kvs (k.map Sum.inl) = some v ∧ Rep T w d v := by
  intro l
  induction l with
  | nil => intro kvs h1 h2 h3; cases h3
  | cons p l ih =>
    intro kvs h1 h2 h3
    cases kvs with
    | nil => cases h1
    | cons kv kvs =>
      have h1' : kv.1 :: kvs.map (·.1) = p.1.map Sum.inl :: l.map (fun p => p.1.map Sum.inl) := h1
      injection h1' with a1 a2
      have h2' : Reps T w (p.2 :: l.map (·.2)) (kv.2 :: kvs.map (·.2)) := h2
      cases h2' with
      | cons b1 b2 =>
        unfold getL at h3
        unfold valV
        rw [List.find?_cons] at h3 ⊢
        by_cases hk : p.1 = k
        · have hk2 : kv.1 = k.map Sum.inl := by rw [a1, hk]
          rw [decide_eq_true hk] at h3
          rw [decide_eq_true hk2]
          cases h3
          exact ⟨kv.2, rfl, b1⟩
        · have hk2 : ¬ kv.1 = k.map Sum.inl := fun z => hk (inl_inj.mp (a1.symm.trans z))
          rw [decide_eq_false hk] at h3
          rw [decide_eq_false hk2]
          exact ih a2 b2 h3
theorem kV_inl (k : List Int) : (k.map Sum.inl : List Key).map kV = k.map V.int := by rw [List.map_map]; rfl
/-- d[k, ..] = v -/
def sPutT (o : EX) (ks : AX) (v : EX) : ES := fun env S => (v env S).bnd fun z S1 => (o env S1).bnd fun x S2 => (ks env S2).bnd fun ys S3 => match x, dInts ys with
  | .ref n, some k => (match S3[n]? with
    | some (.dcT l) => if l.length < LINE ∧ ys.length ≤ LINE then .ok (.nx env) (S3.set n (.dcT (putL l k z))) else .bad
    | _ => .bad)
  | _, _ => .bad
end Ro
end
section
set_option Elab.async false
set_option linter.all false
set_option maxRecDepth 100000
set_option maxHeartbeats 4000000
namespace Ro
open PySem PySem.Spec PyProof.Rows L2
variable {T : Tb} {E : XK} {X : Cx} {a b c e : Expr} {es : List Expr} {f g h : EX} {fa ga fk : AX} {fb gb : BX} {pos : Pos} {st : Stmt} {sts rest : List Stmt} {s t : ES}
def rIxT' (K : PySem.W.Frag) : R2 := fun x y H Q => ∃ (a b : Addr) (kvs : List (List Key × V)) (k : List Int) (v : V), x = .ref a ∧ y = .ref b ∧ H a = some (.dT kvs) ∧ SqT K H b (k.map V.int) ∧ valV kvs (k.map Sum.inl) = some v ∧ Q v H
theorem ix_dT (hu : X.A.units + 1 < cLine) : IxR X (rIxT' X.K) := by
  intro value slice pins s σ H x y v u Q I rx ry h hs
  obtain ⟨a, b, kvs, k, r, rfl, rfl, ha, hb, hv, q⟩ := h
  obtain rfl : v = Value.ref a := rx
  obtain rfl : u = Value.ref b := ry
  obtain ⟨its, rv, ⟨o, ho, hc, n, hd⟩, _⟩ := I.tuple hb
  rw [← kV_inl] at rv
  have key : (tupleKind (mixKind X.prog X.w)).is s.heap (k.map Sum.inl) b := ⟨o, its.toArray, n, ho, hc, hd, by simpa using items_are (P := X.prog) (w := X.w) rv⟩
  obtain ⟨z, hsy, xs, rel, dd⟩ := dt_of I.hok ha
  obtain ⟨w', hw, rw'⟩ := RelO.some_of (v := r) (o := (atKey xs (k.map Sum.inl)).map (·.2)) (by rw [← hv]; exact rel.val _)
  obtain ⟨p, hp, hp2⟩ := Option.map_eq_some_iff.mp hw
  have ty : s.TypeIs (.ref a) "dict" := by
    obtain ⟨o2, es2, ep2, h1, h2, _⟩ := dd
    exact ⟨o2, h1, h2.1⟩
  refine tail_any ty slot_dict_getitem.lookup (wpAny_getItem_heap (tupleKind_room_in1 hu) key dd hp ?_) hs
  rw [hp2]
  exact ⟨r, H, I.tok _, rw', q⟩
def idxT (x y : D) (S : Store) : Option D := match x, y with
  | .ref n, .tup m => (match S[n]? with
    | some (.dcT l) => (dInts m).bind (getL l)
    | _ => none)
  | _, _ => none
def eIdxT (a b : EX) : EX := fun env S => (a env S).bnd fun x S1 => (b env S1).bnd fun y S2 => lift (idxT x y S2) S2
theorem ie_idxT (hK : X.K = T.K) (hu : X.A.units + 1 < cLine) (ha : IE T E X a f) (hb : IE T E X b g) (hs : PlainIx b := by exact fun _ _ => rfl) : IE T E X (.Subscript a b pos) (eIdxT f g) :=
  PE.mono (pe_ix (ix_dT hu) ha hb hs) fun σ H Q q => by
    have q2 := tI_two (k := fun x y S => lift (idxT x y S) S) q
    obtain ⟨w, env, S, r, e, h⟩ := q2
    refine ⟨w, env, S, r, e, h.mono (fun d S1 h1 w1 H1 x l1 r1 p1 => ?_) fun _ _ _ x => x⟩
    obtain ⟨w2, env2, S2, r2, e2, h2⟩ := h1 w1 H1 x l1 r1 p1
    refine ⟨w2, env2, S2, r2, e2, h2.mono (fun d S1 h1 w1 H1 x l1 r1 p1 => ?_) fun _ _ _ x => x⟩
    obtain ⟨w3, d3, e3, S3, r3, p3, q3, h3⟩ := h1 w1 H1 x l1 r1 p1
    cases z : idxT d3 e3 S3 with
    | none => rw [z] at h3; exact (show False from h3).elim
    | some y =>
      rw [z] at h3
      unfold idxT at z
      split at z
      · rename_i n m
        split at z
        · rename_i l hS
          cases z2 : dInts m with
          | none => rw [z2] at z; cases z
          | some k =>
            rw [z2] at z
            cases p3 with
            | ref hn =>
              cases q3 with
              | tup q4 q5 =>
                obtain ⟨kvs, c1, c2, c3⟩ := r3.cell n _ _ hS hn
                obtain ⟨v, a1, a2⟩ := get_repT c2 c3 z
                have e5 := reps_ints q5 z2
                subst e5
                exact ⟨_, _, kvs, k, v, rfl, rfl, c1, by rw [hK]; exact sqt_sub r3 q4, a1, h3 w3 _ _ (Wd.le.refl _) r3 a2⟩
        · cases z
      · cases z
/-- any of them -/
def idxB (x y : D) (S : Store) : Option D := match x with
  | .ref n => (match y with
    | .tup m => idxT x y S
    | _ => idxM x y S)
  | _ => idxD x y
def eIdxB (a b : EX) : EX := fun env S => (a env S).bnd fun x S1 => (b env S1).bnd fun y S2 => lift (idxB x y S2) S2
theorem ie_idxB (hK : X.K = T.K) (hu : X.A.units + 1 < cLine) (ha : IE T E X a f) (hb : IE T E X b g) (hs : PlainIx b := by exact fun _ _ => rfl) : IE T E X (.Subscript a b pos) (eIdxB f g) :=
  PE.byOk (ie_idxA hK ha hb hs) (ie_idxT hK hu ha hb hs) fun env S => by
    unfold eIdxB eIdxA eIdxT
    cases z : f env S with
    | ok x S1 =>
      rw [bnd_ok, bnd_ok, bnd_ok]
      cases z2 : g env S1 with
      | ok y S2 =>
        rw [bnd_ok, bnd_ok, bnd_ok]
        cases x with
        | ref n => cases y with
          | tup m => exact .inr rfl
          | _ => exact .inl rfl
        | _ => exact .inl rfl
      | err c fs S2 => exact .inl rfl
      | bad => exact .inl rfl
    | err c fs S1 => exact .inl rfl
    | bad => exact .inl rfl
/-- sorted, also of such a dict -/
def eSorted (fa : AX) : EX := fun env S => (fa env S).bnd fun xs S1 => match xs with
  | [.ref n] => (match S1[n]? with
    | some (.dcT l) => lift (bSortL (l.map (·.1))) S1
    | _ => .bad)
  | _ => lift (bSorted xs) S1
end Ro
end
section
set_option Elab.async false
set_option linter.all false
set_option maxRecDepth 100000
set_option maxHeartbeats 4000000
namespace Ro
open PySem PySem.Spec PyProof.Rows L2
theorem callerG : RG 200 callerA := ⟨⟨rfl, by decide, by decide⟩, rfl⟩
/-- a number of at most 2 ^ 20 bits -/
def bits20 (n : Int) : Prop := Builtin.Int.intBits n ≤ 1048576
theorem funD_uniq {K : PySem.W.Frag} {x qual : Str} {params : Arguments} {body : List Stmt} {scope : Scope} {dvs : List V} {kws : List (Str × V)} {f : Addr} {fd fd' : FuncData} (h : FunD K x qual params body scope dvs kws f fd) (h' : FunD K x qual params body scope dvs kws f fd') : fd' = fd := by
  obtain ⟨_, _, _, _, _, _, _, _, _, _, _, e1, _⟩ := h.ex
  obtain ⟨_, _, _, _, _, _, _, _, _, _, _, e2, _⟩ := h'.ex
  rw [e1] at e2
  cases e2
  rfl
end Ro
end
section
set_option Elab.async false
set_option linter.all false
set_option maxRecDepth 100000
set_option maxHeartbeats 4000000
namespace Ro
open PySem
@[irreducible] def W {α : Type} (r : R α) (post : α → Store → Prop) : Prop := match r with
  | .ok a S => post a S
  | _ => False
@[simp] theorem W_ok {α : Type} (a : α) (S : Store) (post : α → Store → Prop) : W (.ok a S) post = post a S := by unfold W; rfl
@[simp] theorem W_err {α : Type} (c : String) (fs : List D) (S : Store) (post : α → Store → Prop) : W (.err c fs S : R α) post = False := by unfold W; rfl
@[simp] theorem W_bad {α : Type} (post : α → Store → Prop) : W (.bad : R α) post = False := by unfold W; rfl
theorem W.mono {α : Type} {r : R α} {p q : α → Store → Prop} (h : W r p) (k : ∀ a S, p a S → q a S) : W r q := by
  cases r with
  | ok a S => rw [W_ok] at h ⊢; exact k a S h
  | err c fs S => rw [W_err] at h; exact h.elim
  | bad => rw [W_bad] at h; exact h.elim
theorem W.bnd {α β : Type} {r : R α} {f : α → Store → R β} {q : β → Store → Prop} (h : W r fun a S => W (f a S) q) : W (r.bnd f) q := by
  cases r with
  | ok a S => rw [W_ok] at h; exact h
  | err c fs S => rw [W_err] at h; exact h.elim
  | bad => rw [W_bad] at h; exact h.elim
theorem W.ex {r : R D} {d : D} (h : W r fun x _ => x = d) : ∃ S, r = .ok d S := by
  cases r with
  | ok a S => rw [W_ok] at h; exact ⟨S, by rw [show a = d from h]⟩
  | err c fs S => rw [W_err] at h; exact h.elim
  | bad => rw [W_bad] at h; exact h.elim
/-- a loop by an invariant -/
theorem W.loop {tg : Pat} {body : ES} {I : Nat → Env → Store → Prop} {q : Ctl → Store → Prop} : ∀ {xs : List D} {k : Nat} {env : Env} {S : Store}, I k env S →
    (∀ (i : Nat) x env S, k ≤ i → xs[i - k]? = some x → I i env S → ∃ env1, tg x env = some env1 ∧ W (body env1 S) fun c S1 => match c with
      | .nx e => I (i + 1) e S1
      | .ct e => I (i + 1) e S1
      | .bk e => q (.nx e) S1
      | .rt d => q (.rt d) S1) →
    (∀ env S, I (k + xs.length) env S → q (.nx env) S) → W (loop tg body xs env S) q
  | [], k, env, S, h, _, fin => by rw [Ro.loop, W_ok]; exact fin env S h
  | x :: xs, k, env, S, h, step, fin => by
    obtain ⟨env1, e1, h1⟩ := step k x env S (Nat.le_refl _) (by simp) h
    unfold Ro.loop
    rw [e1]
    refine W.bnd (h1.mono fun c S1 hc => ?_)
    have next : ∀ e, I (k + 1) e S1 → W (Ro.loop tg body xs e S1) q := fun e he => W.loop (k := k + 1) he (fun i y env S hi hy => step i y env S (by omega) (by
      have : i - k = (i - (k + 1)) + 1 := by omega
      rw [this, List.getElem?_cons_succ]
      exact hy)) (fun env S hI => fin env S (by
      have : k + (x :: xs).length = k + 1 + xs.length := by simp; omega
      rw [this]
      exact hI))
    cases c with
    | nx e => exact next e hc
    | ct e => exact next e hc
    | bk e => rw [W_ok]; exact hc
    | rt d => rw [W_ok]; exact hc
/-- a comprehension without a test, by an invariant of what is made -/
theorem W.lc {tg : Pat} {c : BX} {el : EX} {env0 : Env} {I : Nat → List D → Store → Prop} {q : List D → Store → Prop} : ∀ {xs : List D} {k : Nat} {acc : List D} {S : Store}, I k acc S → acc.length + xs.length ≤ LINE →
    (∀ (i : Nat) x acc S, k ≤ i → xs[i - k]? = some x → I i acc S → ∃ env1, tg x env0 = some env1 ∧ W (c env1 S) fun b S1 => if b then W (el env1 S1) fun y S2 => I (i + 1) (acc ++ [y]) S2 else I (i + 1) acc S1) →
    (∀ acc S, I (k + xs.length) acc S → q acc S) → W (lcLoop tg c el env0 xs acc S) q
  | [], k, acc, S, h, _, _, fin => by rw [lcLoop, W_ok]; exact fin acc S h
  | x :: xs, k, acc, S, h, hl, step, fin => by
    obtain ⟨env1, e1, h1⟩ := step k x acc S (Nat.le_refl _) (by simp) h
    unfold lcLoop
    rw [e1]
    have next : ∀ acc' S', acc'.length ≤ acc.length + 1 → I (k + 1) acc' S' → W (lcLoop tg c el env0 xs acc' S') q := fun acc' S' hl' hI => W.lc (k := k + 1) hI (by simp at hl; omega) (fun i y a S hi hy => step i y a S (by omega) (by
      have : i - k = (i - (k + 1)) + 1 := by omega
      rw [this, List.getElem?_cons_succ]
      exact hy)) (fun a S hI => fin a S (by
      have : k + (x :: xs).length = k + 1 + xs.length := by simp; omega
      rw [this]
      exact hI))
    have nox : ∀ {α : Type} {r : R α} {p : α → Store → Prop}, W r p → W r.nox p := fun {α r p} h => by
      cases r with
      | ok a S => exact h
      | err c fs S => rw [W_err] at h; exact h.elim
      | bad => exact h
    refine W.bnd ((nox h1).mono fun b S1 hb => ?_)
    cases b with
    | false => exact next acc S1 (by omega) hb
    | true =>
      rw [if_pos rfl] at hb ⊢
      refine W.bnd ((nox hb).mono fun y S2 hy => ?_)
      rw [if_pos (by simp at hl; omega)]
      exact next (acc ++ [y]) S2 (by simp) hy
end Ro
end
section
set_option Elab.async false
set_option linter.all false
set_option maxRecDepth 100000
set_option maxHeartbeats 4000000
namespace Ro
open PySem
variable {env : Env} {S : Store}
@[simp] theorem u_eVar (i : Nat) : eVar i env S = (match env[i]? with
  | some (some d) => .ok d S
  | _ => .bad) := rfl
@[simp] theorem u_eC (d : D) : eC d env S = .ok d S := rfl
@[simp] theorem u_eOp (op : D → D → Option D) (a b : EX) : eOp op a b env S = (a env S).bnd fun x S1 => (b env S1).bnd fun y S2 => lift (op x y) S2 := rfl
@[simp] theorem u_eUn (op : D → Option D) (a : EX) : eUn op a env S = (a env S).bnd fun x S1 => lift (op x) S1 := rfl
@[simp] theorem u_aNil : aNil env S = .ok [] S := rfl
@[simp] theorem u_aCons (a : EX) (r : AX) : aCons a r env S = (a env S).bnd fun x S1 => (r env S1).bnd fun xs S2 => .ok (x :: xs) S2 := rfl
@[simp] theorem u_eFn (m : List D → List D → Store → R D) (fa fk : AX) : eFn m fa fk env S = (fa env S).bnd fun xs S1 => (fk env S1).bnd fun zs S2 => m xs zs S2 := rfl
@[simp] theorem u_callM (m : Fn) (n kn pn : Nat) (pk : List (Nat × Nat)) (dfs xs ys : List D) : callM m n kn pn pk dfs xs ys S = if xs.length = n ∧ ys.length = kn ∧ (pick pk xs dfs ys).length = pn then m (pick pk xs dfs ys) S else .bad := rfl
@[simp] theorem u_pick0 {α : Type} (us its ws : List α) : pick [] us its ws = [] := rfl
@[simp] theorem u_pick1 {α : Type} (p : Nat × Nat) (pk : List (Nat × Nat)) (us its ws : List α) : pick (p :: pk) us its ws = ((if p.1 = 0 then us else if p.1 = 1 then its else ws)[p.2]?).toList ++ pick pk us its ws := rfl
@[simp] theorem u_eTup (a : AX) : eTup a env S = (a env S).bnd fun xs S1 => if xs.length ≤ LINE then .ok (.tup xs) S1 else .bad := rfl
@[simp] theorem u_eLst (a : AX) : eLst a env S = (a env S).bnd fun xs S1 => if xs.length ≤ LINE then .ok (.lst xs) S1 else .bad := rfl
@[simp] theorem u_eLstM (a : AX) : eLstM a env S = (a env S).bnd fun xs S1 => if xs.length ≤ LINE then .ok (.ref S1.length) (S1 ++ [.lst xs]) else .bad := rfl
@[simp] theorem u_bOf (a : EX) : bOf a env S = (a env S).bnd fun x S1 => lift (truth x) S1 := rfl
@[simp] theorem u_bVal (a : EX) : bVal a env S = (a env S).bnd fun x S1 => match x with
  | .bl b => .ok b S1
  | _ => .bad := rfl
@[simp] theorem u_bAnd (a b : BX) : bAnd a b env S = (a env S).bnd fun c S1 => if c then b env S1 else .ok false S1 := rfl
@[simp] theorem u_bOr (a b : BX) : bOr a b env S = (a env S).bnd fun c S1 => if c then .ok true S1 else b env S1 := rfl
@[simp] theorem u_bNot (a : BX) : bNot a env S = (a env S).bnd fun c S1 => .ok (!c) S1 := rfl
@[simp] theorem u_eAnd (a b : EX) : eAnd a b env S = (a env S).bnd fun x S1 => match x with
  | .bl c => if c then b env S1 else .ok (.bl false) S1
  | _ => .bad := rfl
@[simp] theorem u_eOr (a b : EX) : eOr a b env S = (a env S).bnd fun x S1 => match x with
  | .bl c => if c then .ok (.bl true) S1 else b env S1
  | _ => .bad := rfl
@[simp] theorem u_eNot (a : EX) : eNot a env S = (a env S).bnd fun x S1 => match x with
  | .bl c => .ok (.bl (!c)) S1
  | _ => .bad := rfl
@[simp] theorem u_eIf (c : BX) (a b : EX) : eIf c a b env S = (c env S).bnd fun k S1 => if k then a env S1 else b env S1 := rfl
def chk {α : Type} (o : Option D) (a b : R α) : R α := match o with
  | some (.bl c) => if c then a else b
  | _ => .bad
@[simp] theorem chk_bl {α : Type} (c : Bool) (a b : R α) : chk (some (.bl c)) a b = if c then a else b := rfl
@[simp] theorem u_eChain (op op' : D → D → Option D) (a b c : EX) : eChain op op' a b c env S = (a env S).bnd fun x S1 => (b env S1).bnd fun y S2 => chk (op x y) ((c env S2).bnd fun z S3 => lift (op' y z) S3) (.ok (.bl false) S2) := by
  unfold eChain
  congr 1
  funext x S1
  congr 1
  funext y S2
  unfold chk
  split
  · rename_i h; simp [h]
  · rename_i h; simp [h]
  · rename_i h1 h2
    split
    · rename_i c h
      cases c
      · exact (h2 h).elim
      · exact (h1 h).elim
    · rfl
@[simp] theorem u_eIdxB (a b : EX) : eIdxB a b env S = (a env S).bnd fun x S1 => (b env S1).bnd fun y S2 => lift (idxB x y S2) S2 := rfl
@[simp] theorem u_oNone : oNone env S = .ok none S := rfl
@[simp] theorem u_oSome (a : EX) : oSome a env S = (a env S).bnd fun x S1 => match x with
  | .int i => .ok (some i) S1
  | _ => .bad := rfl
@[simp] theorem u_eCut (a : EX) (lo hi : OX) : eCut a lo hi env S = (a env S).bnd fun x S1 => (lo env S1).bnd fun l S2 => (hi env S2).bnd fun h S3 => lift (cutD x l h) S3 := rfl
@[simp] theorem u_eIsI (tys : List Ty) (Tt : Ty) (a : EX) : eIsI tys Tt a env S = (a env S).bnd fun x S1 => match tyD x S1 with
  | some t => if tys.contains t then .ok (.bl (subTy t Tt)) S1 else .bad
  | none => .bad := rfl
@[simp] theorem u_eAttr (cf : String → List String) (cs : List String) (f : String) (a : EX) : eAttr cf cs f a env S = (a env S).bnd fun x S1 => lift (attrD cf cs f x S1) S1 := rfl
@[simp] theorem u_eB (m : List D → Option D) (fa : AX) : eB m fa env S = (fa env S).bnd fun xs S1 => lift (m xs) S1 := rfl
@[simp] theorem u_eMeth (cf : String → List String) (c mn : String) (m : List D → List D → Store → R D) (o : EX) (fa fk : AX) : eMeth cf c mn m o fa fk env S = (o env S).bnd fun x S1 => if isInst cf c mn x S1 then (fa env S1).bnd fun xs S2 => (fk env S2).bnd fun zs S3 => m (x :: xs) zs S3 else .bad := rfl
@[simp] theorem u_eFrz (cf : String → List String) (a : EX) : eFrz cf a env S = frzM cf (a env S) := rfl
@[simp] theorem u_eLC (vs : List Nat) (it : AX) (tg : Pat) (c : BX) (el : EX) : eLC vs it tg c el env S = (it env S).bnd fun xs S1 => (lcLoop tg c el (wipeE env vs) xs [] S1).bnd fun ys S2 => .ok (.lst ys) S2 := rfl
@[simp] theorem u_bYes : bYes env S = .ok true S := rfl
@[simp] theorem u_eSorted (fa : AX) : eSorted fa env S = (fa env S).bnd fun xs S1 => match xs with
  | [.ref n] => (match S1[n]? with
    | some (.dcT l) => lift (bSortL (l.map (·.1))) S1
    | _ => .bad)
  | _ => lift (bSorted xs) S1 := rfl
@[simp] theorem u_eDctT : eDctT env S = .ok (.ref S.length) (S ++ [.dcT []]) := rfl
@[simp] theorem u_sSet (i : Nat) (e : EX) : sSet i e env S = (e env S).bnd fun d S1 => .ok (.nx (env.set i (some d))) S1 := rfl
@[simp] theorem u_sSeq (s t : ES) : sSeq s t env S = (s env S).bnd fun c S1 => match c with
  | .nx e => t e S1
  | c => .ok c S1 := rfl
@[simp] theorem u_sPass : sPass env S = .ok (.nx env) S := rfl
@[simp] theorem u_sIf (c : BX) (s t : ES) : sIf c s t env S = (c env S).bnd fun k S1 => if k then s env S1 else t env S1 := rfl
@[simp] theorem u_sRet (e : EX) : sRet e env S = (e env S).bnd fun d S1 => .ok (.rt d) S1 := rfl
@[simp] theorem u_sExpr (e : EX) : sExpr e env S = (e env S).bnd fun _ S1 => .ok (.nx env) S1 := rfl
@[simp] theorem u_sUnp (p : Pat) (e : EX) : sUnp p e env S = (e env S).bnd fun d S1 => match p d env with
  | some env' => .ok (.nx env') S1
  | none => .bad := rfl
@[simp] theorem u_sPar2 (i j : Nat) (fa : AX) : sPar2 i j fa env S = (fa env S).bnd fun xs S1 => match xs with
  | [x, y] => .ok (.nx ((env.set i (some x)).set j (some y))) S1
  | _ => .bad := rfl
@[simp] theorem u_sFor (it : AX) (tg : Pat) (body : ES) : sFor it tg body env S = (it env S).bnd fun xs S1 => loop tg body xs env S1 := rfl
@[simp] theorem u_sSetIt (o i v : EX) : sSetIt o i v env S = (v env S).bnd fun z S1 => (o env S1).bnd fun x S2 => (i env S2).bnd fun y S3 => match setM x y z S3 with
  | some S4 => .ok (.nx env) S4
  | none => .bad := rfl
@[simp] theorem u_sSetAttr (cs : List String) (f : String) (o v : EX) : sSetAttr cs f o v env S = (v env S).bnd fun y S1 => (o env S1).bnd fun x S2 => match x with
  | .ref n => match S2[n]? with
    | some (.ins c fs) => if cs.contains c && decide (fs.length < 1000) then .ok (.nx env) (S2.set n (.ins c (setF f y fs))) else .bad
    | _ => .bad
  | _ => .bad := rfl
@[simp] theorem u_sPutT (o : EX) (ks : AX) (v : EX) : sPutT o ks v env S = (v env S).bnd fun z S1 => (o env S1).bnd fun x S2 => (ks env S2).bnd fun ys S3 => match x, dInts ys with
  | .ref n, some k => (match S3[n]? with
    | some (.dcT l) => if l.length < LINE ∧ ys.length ≤ LINE then .ok (.nx env) (S3.set n (.dcT (putL l k z))) else .bad
    | _ => .bad)
  | _, _ => .bad := rfl
@[simp] theorem u_itR1 (fa : AX) : itR1 fa env S = (fa env S).bnd fun ds S1 => match ds with
  | [.int j] => if small62 j then .ok (rngL 0 j.toNat) S1 else .bad
  | _ => .bad := rfl
@[simp] theorem u_itR2 (fa : AX) : itR2 fa env S = (fa env S).bnd fun ds S1 => match ds with
  | [.int i, .int j] => if small62 i && small62 j then .ok (rngL i (j - i).toNat) S1 else .bad
  | _ => .bad := rfl
@[simp] theorem u_itAny (f : EX) : itAny f env S = (f env S).bnd fun d S1 => match d with
  | .lst l => .ok l S1
  | .tup l => .ok l S1
  | .str s => .ok (s.cps.toList.map fun c => .str ⟨#[c]⟩) S1
  | _ => .bad := rfl
@[simp] theorem u_itZip (fa : AX) : itZip fa env S = (fa env S).bnd fun ds S1 => match ds with
  | [.lst l, .lst m] => .ok (zipL l m) S1
  | [.tup l, .tup m] => .ok (zipL l m) S1
  | _ => .bad := rfl
@[simp] theorem u_fnM (n : Nat) (body : ES) (ds : List D) : fnM n body ds S = (body (ds.map some ++ List.replicate (n - ds.length) none) S).bnd fun c S1 => match c with
  | .rt d => .ok d S1
  | .nx _ => .ok .non S1
  | _ => .bad := rfl
@[simp] theorem u_pName (i : Nat) (d : D) : pName i d env = some (env.set i (some d)) := rfl
@[simp] theorem u_pTup (r : List D → Env → Option Env) (l : List D) : pTup r (.tup l) env = r l env := rfl
@[simp] theorem u_pNil : pNil [] env = some env := rfl
@[simp] theorem u_pCons (p : Pat) (r : List D → Env → Option Env) (d : D) (ds : List D) : pCons p r (d :: ds) env = (p d env).bind fun e => r ds e := rfl
@[simp] theorem o_add (i j : Int) : addD (.int i) (.int j) = some (.int (i + j)) := rfl
@[simp] theorem o_sub (i j : Int) : subD (.int i) (.int j) = some (.int (i - j)) := rfl
@[simp] theorem o_mul (i j : Int) : mulD (.int i) (.int j) = if mulOk i j then some (.int (i * j)) else none := rfl
@[simp] theorem o_fdiv (i j : Int) : fdivD (.int i) (.int j) = if 0 < j ∧ j.natAbs.log2 < 9000 then some (.int (i / j)) else none := rfl
@[simp] theorem o_mod (i j : Int) : modD (.int i) (.int j) = if 0 < j then some (.int (i % j)) else none := rfl
@[simp] theorem o_neg (i : Int) : negD (.int i) = some (.int (-i)) := rfl
@[simp] theorem o_lt (i j : Int) : ltA (.int i) (.int j) = some (.bl (decide (i < j))) := rfl
@[simp] theorem o_le (i j : Int) : leD (.int i) (.int j) = some (.bl (decide (i ≤ j))) := rfl
@[simp] theorem o_gt (i j : Int) : gtD (.int i) (.int j) = some (.bl (decide (j < i))) := rfl
@[simp] theorem o_eqi (i j : Int) : eqD (.int i) (.int j) = some (.bl (decide (i = j))) := rfl
@[simp] theorem o_nei (i j : Int) : neD (.int i) (.int j) = some (.bl (!decide (i = j))) := rfl
@[simp] theorem o_powi (i j : Int) : powD (.int i) (.int j) = if 0 ≤ j ∧ j ≤ 1000000 ∧ i.natAbs < 2 ^ 64 then some (.int (i ^ j.toNat)) else none := rfl
@[simp] theorem ix_nn (n j : Nat) (h : j < n) : pyIx n (j : Int) = some j := by
  unfold pyIx
  rw [if_pos (by omega), if_pos (by omega)]
  simp
@[simp] theorem ix_0 (n : Nat) : pyIx (n + 1) 0 = some 0 := ix_nn (n + 1) 0 (by omega)
@[simp] theorem idx_ref (n : Nat) (i : Int) : idxB (.ref n) (.int i) S = (match S[n]? with
    | some (.lst l) => atP l i
    | _ => none) := rfl
@[simp] theorem idx_lst (l : List D) (i : Int) : idxB (.lst l) (.int i) S = atP l i := rfl
@[simp] theorem idx_tup (l : List D) (i : Int) : idxB (.tup l) (.int i) S = atP l i := rfl
@[simp] theorem idx_scr (l : List Int) (i : Int) : idxB (.scr l) (.int i) S = (atP l i).map D.int := rfl
@[simp] theorem set_ref (n : Nat) (i : Int) (v : D) : setM (.ref n) (.int i) v S = (match S[n]? with
    | some (.lst l) => (pyIx l.length i).map fun j => S.set n (.lst (l.set j v))
    | _ => none) := rfl
@[simp] theorem W_bnd {α β : Type} (r : R α) (f : α → Store → R β) (q : β → Store → Prop) : W (r.bnd f) q = W r fun a S => W (f a S) q := by cases r <;> simp
@[simp] theorem W_lift {α : Type} (o : Option α) (q : α → Store → Prop) : W (lift o S) q = ∃ a, o = some a ∧ q a S := by cases o <;> simp [lift]
@[simp] theorem u_small (i : Int) : small62 i = decide (-(2 ^ 62) ≤ i ∧ i < 2 ^ 62) := rfl
@[simp] theorem rng_len (lo : Int) (n : Nat) : (rngL lo n).length = n := by simp [rngL]
theorem rng_get {lo : Int} {n i : Nat} {d : D} (h : (rngL lo n)[i]? = some d) : i < n ∧ d = .int (lo + (i : Int)) := by
  unfold rngL at h
  rw [List.getElem?_map] at h
  cases z : (List.range n)[i]? with
  | none => rw [z] at h; cases h
  | some k =>
    rw [z] at h
    obtain ⟨hl, e⟩ := List.getElem?_eq_some_iff.mp z
    rw [List.getElem_range] at e
    subst e
    cases h
    exact ⟨by simpa using hl, rfl⟩
@[simp] theorem at_0 (d : D) (l : List D) : atP (d :: l) 0 = some d := by simp [atP]
@[simp] theorem at_1 (d e : D) (l : List D) : atP (d :: e :: l) 1 = some e := by
  have : pyIx (d :: e :: l).length 1 = some 1 := ix_nn _ 1 (by simp)
  unfold atP
  rw [this]
  rfl
@[simp] theorem ix_1 (n : Nat) : pyIx (n + 1 + 1) 1 = some 1 := ix_nn (n + 2) 1 (by omega)
@[simp high] theorem W_liftIf {α : Type} (c : Prop) [Decidable c] (a : α) (q : α → Store → Prop) : W (lift (if c then some a else none) S) q = (c ∧ q a S) := by
  by_cases h : c <;> simp [h, lift]
@[simp] theorem log_7 : Nat.log2 7 < 9000 := by decide
@[simp] theorem log_2 : Nat.log2 2 < 9000 := by decide
@[simp] theorem LINE_eq : LINE = 16777216 := rfl
@[simp] theorem pyEq_str (a b : Str) : pyEq (.str a) (.str b) = decide (a = b) := by rw [pyEq]
@[simp] theorem pyEq_int (a b : Int) : pyEq (.int a) (.int b) = decide (a = b) := by rw [pyEq]
@[simp] theorem pyEq_tup (a b : List D) : pyEq (.tup a) (.tup b) = pyEqs a b := by rw [pyEq]
@[simp] theorem pyEq_lst (a b : List D) : pyEq (.lst a) (.lst b) = pyEqs a b := by rw [pyEq]
@[simp] theorem pyEqs_nil : pyEqs [] [] = true := by rw [pyEqs]
@[simp] theorem pyEqs_cons (x y : D) (l m : List D) : pyEqs (x :: l) (y :: m) = (pyEq x y && pyEqs l m) := by rw [pyEqs]
@[simp] theorem pyEqs_nc (y : D) (m : List D) : pyEqs [] (y :: m) = false := by rw [pyEqs] <;> simp
@[simp] theorem pyEqs_cn (x : D) (l : List D) : pyEqs (x :: l) [] = false := by rw [pyEqs] <;> simp
@[simp] theorem inL_nil (x : D) : inL x [] = false := rfl
@[simp] theorem inL_cons (x y : D) (l : List D) : inL x (y :: l) = (pyEq y x || inL x l) := rfl
@[simp] theorem pl_str (n : Nat) (a : Str) : plN n (.str a) = true := by cases n <;> rfl
@[simp] theorem pl_int (n : Nat) (a : Int) : plN n (.int a) = true := by cases n <;> rfl
@[simp] theorem pl_bl (n : Nat) (a : Bool) : plN n (.bl a) = true := by cases n <;> rfl
@[simp] theorem pl_non (n : Nat) : plN n .non = true := by cases n <;> rfl
@[simp] theorem pl_tup (n : Nat) (l : List D) : plN (n + 1) (.tup l) = l.all (plN n) := rfl
@[simp] theorem pl_lst (n : Nat) (l : List D) : plN (n + 1) (.lst l) = l.all (plN n) := rfl
@[simp] theorem pl_D (d : D) : plD d = plN 8 d := rfl
end Ro
end
section
set_option Elab.async false
set_option linter.all false
set_option maxRecDepth 100000
set_option maxHeartbeats 4000000
namespace Ro
open PySem
def b__law_box : ES :=
  (sSeq (sSet 2 (eOp addD (eOp mulD (eC (.int 7919)) (eVar 1)) (eC (.int 13))))
  (sSeq (sIf (bVal (eOp ltA (eVar 1) (eB bLenA (aCons (eVar 0) aNil)))) (sSet 2 (eIdxB (eVar 0) (eVar 1))) sPass)
  (sSeq (sIf (bVal (eOp eqD (eOp modD (eVar 2) (eC (.int 2))) (eC (.int 0)))) (sRet (eLstM (aCons (eOp fdivD (eVar 2) (eC (.int 2))) (aCons (eOp modD (eB bAbs (aCons (eVar 2) aNil)) (eC (.int 2147483647))) aNil)))) sPass)
  (sSeq (sSet 3 (eC (.int 0)))
  (sSeq (sFor (itR1 (aCons (eC (.int 16)) aNil)) (pName 4) (sSeq (sSet 5 (eOp modD (eOp addD (eOp addD (eOp mulD (eOp modD (eVar 2) (eC (.int 2147483647))) (eC (.int 48271))) (eOp mulD (eC (.int 7919)) (eVar 4))) (eC (.int 1))) (eC (.int 2147483647))))
  (sSeq (sSet 5 (eOp modD (eOp mulD (eVar 5) (eVar 5)) (eC (.int 2147483629))))
  (sSet 3 (eOp addD (eOp mulD (eVar 3) (eC (.int 2147483647))) (eOp modD (eOp mulD (eVar 5) (eOp addD (eVar 5) (eC (.int 13)))) (eC (.int 2147483647))))))))
  (sRet (eLstM (aCons (eVar 3) (aCons (eOp modD (eB bAbs (aCons (eVar 2) aNil)) (eC (.int 2147483647))) aNil)))))))))
def m__law_box : Fn := fnM 6 b__law_box
def b__law_more : ES :=
  (sSeq (sSet 1 (eC (.int 0)))
  (sSeq (sFor (itR1 (aCons (eC (.int 12)) aNil)) (pName 2) (sSeq (sSetIt (eVar 0) (eC (.int 1)) (eOp modD (eOp addD (eOp mulD (eIdxB (eVar 0) (eC (.int 1))) (eC (.int 48271))) (eC (.int 30269))) (eC (.int 2147483647))))
  (sSet 1 (eOp addD (eOp mulD (eVar 1) (eC (.int 65521))) (eOp modD (eOp fdivD (eIdxB (eVar 0) (eC (.int 1))) (eC (.int 7))) (eC (.int 65521)))))))
  (sRet (eVar 1))))
def m__law_more : Fn := fnM 3 b__law_more
def b__law_take : ES :=
  (sSeq (sIf (bVal (eChain leD ltA (eC (.int 0)) (eIdxB (eVar 0) (eC (.int 0))) (eVar 1))) (sSetIt (eVar 0) (eC (.int 0)) (eOp addD (eIdxB (eVar 0) (eC (.int 0))) (eOp mulD (eVar 1) (eFn (callM m__law_more 1 0 1 [(0, 0)] []) (aCons (eVar 0) aNil) aNil)))) sPass)
  (sSeq (sUnp (pTup (pCons (pName 2) (pCons (pName 3) pNil))) (eB bDivmod (aCons (eIdxB (eVar 0) (eC (.int 0))) (aCons (eVar 1) aNil))))
  (sSeq (sSetIt (eVar 0) (eC (.int 0)) (eVar 2))
  (sRet (eVar 3)))))
def m__law_take : Fn := fnM 4 b__law_take
theorem mulOk_lt {i j : Int} {n m : Nat} (h1 : i.natAbs < 2 ^ n) (h2 : j.natAbs < 2 ^ m) (h : n + m < 1000000) (hn : 0 < n := by decide) (hm : 0 < m := by decide) : mulOk i j = true := by
  have key : ∀ {a k : Nat}, 0 < k → a < 2 ^ k → a.log2 < k := fun {a k} hk ha => by
    by_cases z : a = 0
    · subst z; simpa using hk
    · exact (Nat.log2_lt z).mpr ha
  unfold mulOk
  exact decide_eq_true (by have := key hn h1; have := key hm h2; omega)
/-- a box of digits stands at b -/
def Bx (S : Store) (b : Nat) : Prop := ∃ x y : Int, S[b]? = some (.lst [.int x, .int y]) ∧ 0 ≤ y ∧ y < 2147483647
/-- .. and was drawn from, nothing else was turned -/
def Bs (S : Store) (b : Nat) (S' : Store) : Prop := ∃ x y : Int, 0 ≤ y ∧ y < 2147483647 ∧ S' = S.set b (.lst [.int x, .int y])
theorem Bx.lt {S : Store} {b : Nat} (h : Bx S b) : b < S.length := by
  obtain ⟨x, y, h, _⟩ := h
  exact (List.getElem?_eq_some_iff.mp h).1
theorem Bs.bx {S S' : Store} {b : Nat} (h : Bs S b S') (hb : b < S.length) : Bx S' b := by
  obtain ⟨x, y, h1, h2, rfl⟩ := h
  exact ⟨x, y, by rw [List.getElem?_set]; simp [hb], h1, h2⟩
theorem Bs.trans {S S' S'' : Store} {b : Nat} (h : Bs S b S') (h' : Bs S' b S'') : Bs S b S'' := by
  obtain ⟨x, y, h1, h2, rfl⟩ := h
  obtain ⟨x', y', h3, h4, rfl⟩ := h'
  exact ⟨x', y', h3, h4, by rw [List.set_set]⟩
theorem Bs.len {S S' : Store} {b : Nat} (h : Bs S b S') : S'.length = S.length := by
  obtain ⟨x, y, h1, h2, rfl⟩ := h
  rw [List.length_set]
theorem Bs.other {S S' : Store} {b c : Nat} (h : Bs S b S') (hc : c ≠ b) : S'[c]? = S[c]? := by
  obtain ⟨x, y, h1, h2, rfl⟩ := h
  rw [List.getElem?_set_ne (Ne.symm hc)]
theorem more_ok {S : Store} {b : Nat} {x y : Int} (hS : S[b]? = some (.lst [.int x, .int y])) (hy : 0 ≤ y ∧ y < 2147483647) :
    W (m__law_more [.ref b] S) fun d S' => ∃ i y' : Int, d = .int i ∧ 0 ≤ i ∧ i < 2 ^ 192 ∧ 0 ≤ y' ∧ y' < 2147483647 ∧ S' = S.set b (.lst [.int x, .int y']) := by
  have hb : b < S.length := (List.getElem?_eq_some_iff.mp hS).1
  unfold m__law_more b__law_more
  simp
  refine W.loop (I := fun i env S' => ∃ (num y' : Int) (z : Option D), env = [some (.ref b), some (.int num), z] ∧ 0 ≤ num ∧ num < 2 ^ (16 * i) ∧ 0 ≤ y' ∧ y' < 2147483647 ∧ S' = S.set b (.lst [.int x, .int y'])) (k := 0)
    ⟨0, y, none, rfl, by omega, by decide, hy.1, hy.2, by apply List.ext_getElem?; intro j; by_cases h : b = j <;> simp [List.getElem?_set, h, hb, ← hS] <;> simp [← h, hb, hS]⟩ (fun i d env S' hi hd hI => ?_) (fun env S' hI => ?_)
  · obtain ⟨num, y', z, rfl, h1, h2, h3, h4, rfl⟩ := hI
    obtain ⟨hi12, _⟩ := rng_get hd
    refine ⟨_, rfl, ?_⟩
    have e1 : mulOk y' 48271 = true := mulOk_lt (n := 32) (m := 16) (by omega) (by decide) (by decide)
    have hpow : (2 : Int) ^ (16 * i) ≤ 2 ^ 192 := by
      have : (2 : Nat) ^ (16 * i) ≤ 2 ^ 192 := Nat.pow_le_pow_right (by decide) (by simp at hi12; omega)
      exact_mod_cast this
    have e2 : mulOk num 65521 = true := mulOk_lt (n := 193) (m := 16) (by
      have h : num < 2 ^ 192 := Int.lt_of_lt_of_le h2 hpow
      have : num.natAbs < 2 ^ 192 := by omega
      omega) (by decide) (by decide)
    simp [List.getElem?_set, hb, e1, e2]
    have e3 : (2 : Int) ^ (16 * (i + 1)) = 2 ^ (16 * i) * 65536 := by rw [Nat.mul_add, Int.pow_add]; rfl
    rw [e3]
    generalize (2 : Int) ^ (16 * i) = P at h2
    exact ⟨by omega, by omega, _, by omega, by omega, rfl⟩
  · obtain ⟨num, y', z, rfl, h1, h2, h3, h4, rfl⟩ := hI
    simp at h2
    simp
    exact ⟨h1, h2, y', h3, h4, rfl⟩
theorem set_same {S : Store} {b : Nat} {c : Cell} (h : S[b]? = some c) : S.set b c = S := by
  obtain ⟨h1, h2⟩ := List.getElem?_eq_some_iff.mp h
  rw [← h2]
  exact List.set_getElem_self h1
theorem take_ok {S : Store} {b : Nat} {n : Int} (hB : Bx S b) (hn : 0 < n ∧ n < 1152921504606846976) : W (m__law_take [.ref b, .int n] S) fun d S' => (∃ i : Int, d = .int i ∧ 0 ≤ i ∧ i < n) ∧ Bs S b S' := by
  obtain ⟨x, y, hS, hy1, hy2⟩ := hB
  have hb : b < S.length := (List.getElem?_eq_some_iff.mp hS).1
  have hd : divOk n = true := decide_eq_true hn
  unfold m__law_take b__law_take
  have md : ∀ z : Int, 0 ≤ z % n ∧ z % n < n := fun z => ⟨Int.emod_nonneg _ (by omega), Int.emod_lt_of_pos _ hn.1⟩
  by_cases c1 : 0 ≤ x
  · by_cases c2 : x < n
    · simp [hS, c1, c2]
      refine (more_ok hS ⟨hy1, hy2⟩).mono ?_
      rintro _ _ ⟨i, y', rfl, i1, i2, k1, k2, rfl⟩
      have e : mulOk n i = true := mulOk_lt (n := 61) (m := 193) (by omega) (by omega) (by decide)
      simp [e, hb, bDivmod, hd]
      exact ⟨md _, _, y', k1, k2, rfl⟩
    · simp [hS, c1, c2, bDivmod, hd]
      exact ⟨md _, _, y, hy1, hy2, rfl⟩
  · simp [hS, c1, bDivmod, hd]
    exact ⟨md _, _, y, hy1, hy2, rfl⟩
def boxTail : ES :=
  (sSeq (sIf (bVal (eOp eqD (eOp modD (eVar 2) (eC (.int 2))) (eC (.int 0)))) (sRet (eLstM (aCons (eOp fdivD (eVar 2) (eC (.int 2))) (aCons (eOp modD (eB bAbs (aCons (eVar 2) aNil)) (eC (.int 2147483647))) aNil)))) sPass)
  (sSeq (sSet 3 (eC (.int 0)))
  (sSeq (sFor (itR1 (aCons (eC (.int 16)) aNil)) (pName 4) (sSeq (sSet 5 (eOp modD (eOp addD (eOp addD (eOp mulD (eOp modD (eVar 2) (eC (.int 2147483647))) (eC (.int 48271))) (eOp mulD (eC (.int 7919)) (eVar 4))) (eC (.int 1))) (eC (.int 2147483647))))
  (sSeq (sSet 5 (eOp modD (eOp mulD (eVar 5) (eVar 5)) (eC (.int 2147483629))))
  (sSet 3 (eOp addD (eOp mulD (eVar 3) (eC (.int 2147483647))) (eOp modD (eOp mulD (eVar 5) (eOp addD (eVar 5) (eC (.int 13)))) (eC (.int 2147483647))))))))
  (sRet (eLstM (aCons (eVar 3) (aCons (eOp modD (eB bAbs (aCons (eVar 2) aNil)) (eC (.int 2147483647))) aNil)))))))
/-- a fresh box of the script -/
theorem box_ok {S : Store} {ns : List Int} {k : Nat} (hl : ns.length ≤ 63) (hk : k < 63) : W (m__law_box [.scr ns, .int k] S) fun d S' => ∃ x y : Int, d = .ref S.length ∧ S' = S ++ [.lst [.int x, .int y]] ∧ 0 ≤ y ∧ y < 2147483647 := by
  have eb : b__law_box = sSeq (sSet 2 (eOp addD (eOp mulD (eC (.int 7919)) (eVar 1)) (eC (.int 13)))) (sSeq (sIf (bVal (eOp ltA (eVar 1) (eB bLenA (aCons (eVar 0) aNil)))) (sSet 2 (eIdxB (eVar 0) (eVar 1))) sPass) boxTail) := rfl
  unfold m__law_box
  rw [eb]
  have e0 : mulOk 7919 k = true := mulOk_lt (n := 13) (m := 7) (by decide) (by omega) (by decide)
  have key : ∀ h : Int, W (boxTail [some (.scr ns), some (.int k), some (.int h), none, none, none] S) (fun c S' => ∃ x y : Int, c = .rt (.ref S.length) ∧ S' = S ++ [.lst [.int x, .int y]] ∧ 0 ≤ y ∧ y < 2147483647) := by
    intro h
    unfold boxTail
    have ab : ∀ z : Int, 0 ≤ z % 2147483647 ∧ z % 2147483647 < 2147483647 := fun z => ⟨by omega, by omega⟩
    by_cases c : h % 2 = 0
    · simp [c, bAbs]
      exact ⟨_, _, ⟨rfl, rfl⟩, (ab _).1, (ab _).2⟩
    · simp [c]
      refine W.loop (I := fun i env S' => ∃ (num : Int) (z w : Option D), env = [some (.scr ns), some (.int k), some (.int h), some (.int num), z, w] ∧ 0 ≤ num ∧ num < 2 ^ (31 * i) ∧ S' = S) (k := 0)
        ⟨0, none, none, rfl, by omega, by decide, rfl⟩ (fun i d env S' hi hd hI => ?_) (fun env S' hI => ?_)
      · obtain ⟨num, z, w, rfl, h1, h2, rfl⟩ := hI
        obtain ⟨hi16, rfl⟩ := rng_get hd
        refine ⟨_, rfl, ?_⟩
        have hpow : (2 : Int) ^ (31 * i) ≤ 2 ^ 496 := by
          have : (2 : Nat) ^ (31 * i) ≤ 2 ^ 496 := Nat.pow_le_pow_right (by decide) (by simp at hi16; omega)
          exact_mod_cast this
        have e2 : mulOk num 2147483647 = true := mulOk_lt (n := 497) (m := 31) (by
          have h : num < 2 ^ 496 := Int.lt_of_lt_of_le h2 hpow
          have : num.natAbs < 2 ^ 496 := by omega
          omega) (by decide) (by decide)
        have e3 : ∀ z : Int, mulOk (z % 2147483647) 48271 = true := fun z => mulOk_lt (n := 31) (m := 16) (by omega) (by decide) (by decide)
        have e4 : mulOk 7919 i = true := mulOk_lt (n := 13) (m := 5) (by decide) (by simp at hi16; omega) (by decide)
        have e5 : ∀ z : Int, mulOk (z % 2147483647) (z % 2147483647) = true := fun z => mulOk_lt (n := 31) (m := 31) (by omega) (by omega) (by decide)
        have e6 : ∀ z : Int, mulOk (z % 2147483629) (z % 2147483629 + 13) = true := fun z => mulOk_lt (n := 32) (m := 32) (by omega) (by omega) (by decide)
        simp [e2, e3, e4, e5, e6]
        have e7 : (2 : Int) ^ (31 * (i + 1)) = 2 ^ (31 * i) * 2147483648 := by rw [Nat.mul_add, Int.pow_add]; rfl
        rw [e7]
        generalize (2 : Int) ^ (31 * i) = P at h2
        exact ⟨by omega, by omega⟩
      · obtain ⟨num, z, w, rfl, h1, h2, rfl⟩ := hI
        simp [bAbs]
        exact ⟨_, _, ⟨rfl, rfl⟩, (ab _).1, (ab _).2⟩
  by_cases c : k < ns.length
  · have hix : atP ns (k : Int) = some ns[k] := by
      unfold atP
      rw [ix_nn _ _ c]
      simp [c]
    simp only [u_fnM, W_bnd]
    simp [e0, bLenA, bLen, lenD, c, hix]
    refine ((key ns[k])).mono ?_
    rintro _ _ ⟨x, y, rfl, rfl, h1, h2⟩
    simp
    exact ⟨_, _, ⟨rfl, rfl⟩, h1, h2⟩
  · simp only [u_fnM, W_bnd]
    simp [e0, bLenA, bLen, lenD, c]
    refine ((key (7919 * k + 13))).mono ?_
    rintro _ _ ⟨x, y, rfl, rfl, h1, h2⟩
    simp
    exact ⟨_, _, ⟨rfl, rfl⟩, h1, h2⟩
end Ro
end
section
set_option Elab.async false
set_option linter.all false
set_option maxRecDepth 100000
set_option maxHeartbeats 4000000
namespace Ro
open PySem PySem.Spec PyProof.Rows L2
variable {T : Tb} {E : XK} {X : Cx} {a b c e : Expr} {es : List Expr} {f g h : EX} {fa ga fk : AX} {fb gb : BX} {pos : Pos} {st : Stmt} {sts rest : List Stmt} {s t : ES}
theorem ie_fnF {k n kn pn : Nat} {d : He.DefD} {x : Str} {p : Pos} {kws : List Keyword} {ps ks : List Str} {m : Fn} {pk : List (Nat × Nat)} {dfs : List D} (F : OkF T X.prog X.w X.mg X.base k d ps m) (hK : X.K = T.K) (hr : RG k X.A) (hg : Gl X x) (hm : X.mg x = some (.ref (He.fAd T.K d.at_)))
    (hb : ∀ fd, FunD T.K d.name d.qual d.params d.body d.scope (d.dvs T.K) [] (He.fAd T.K d.at_) fd → KBD T fd ps n ks pk dfs) (tk : Takes X fun c d _ H => E c d H) (ha : AK T E X es kws pos ks fa fk) (hdb : (x == ("__debug__" : Str)) = false := by decide +kernel) (h2 : ks.length = kn := by rfl) (h3 : ps.length = pn := by rfl) :
    IE T E X (.Call (.Name x p) es kws pos) (eFn (callM m n kn pn pk dfs) fa fk) := by
  subst h2 h3
  exact ie_fn F hK hr hg hm hb tk ha hdb
theorem ie_newF {k n n' kn pn : Nat} {cn : String} {d : He.DefD} {p : Pos} {kws : List Keyword} {ps ks : List Str} {m : Fn} {pk : List (Nat × Nat)} {dfs : List D} (F : OkF T X.prog X.w X.mg X.base k d ps m) (M : Mk T.K (He.ga T.K (cn : Str)) (He.fAd T.K d.at_)) (hK : X.K = T.K) (hr : RG (k + 1) X.A) (hg : Gl X (cn : Str)) (hm : X.mg (cn : Str) = some (.ref (He.ga T.K (cn : Str))))
    (hb : ∀ fd, FunD T.K d.name d.qual d.params d.body d.scope (d.dvs T.K) [] (He.fAd T.K d.at_) fd → KBD T fd ps n' ks pk dfs) (tk : Takes X fun c d _ H => E c d H) (ha : AK T E X es kws pos ks fa fk) (h1 : n' = n + 1) (hdb : ((cn : Str) == ("__debug__" : Str)) = false := by decide +kernel) (h2 : ks.length = kn := by rfl) (h3 : ps.length = pn := by rfl) :
    IE T E X (.Call (.Name (cn : Str) p) es kws pos) (eFn (newM cn (callM m n' kn pn pk dfs)) fa fk) := by
  subst h1 h2 h3
  exact ie_new F M hK hr hg hm hb tk ha hdb
theorem ie_methF {cf : String → List String} {cn mn : String} {k n n' kn pn : Nat} {d : He.DefD} {apos : Pos} {pl : Sem Bool} {kws : List Keyword} {ps ks : List Str} {m : Fn} {pk : List (Nat × Nat)} {dfs : List D} (hcf : T.cf = cf) (F : OkF T X.prog X.w X.mg X.base k d ps m) (hK : X.K = T.K) (hr : RG k X.A)
    (hc : Cls T.K (He.ga T.K (cn : Str))) (hm : Meth T.K (He.ga T.K (cn : Str)) (mn : Str) (He.fAd T.K d.at_))
    (hb : ∀ fd, FunD T.K d.name d.qual d.params d.body d.scope (d.dvs T.K) [] (He.fAd T.K d.at_) fd → KBD T fd ps n' ks pk dfs) (tk : Takes X fun c d _ H => E c d H) (ho : IE T E X a f) (ha : AK T E X es kws pos ks fa fk) (h1 : n' = n + 1)
    (ht : eval (.Call (.Attribute a (mn : Str) apos) es kws pos) X.env = (do
      let ov ← eval a X.env
      standAt apos.atName
      let (f, first) ← holding [ov] (getMethod ov (mn : Str) pl)
      callWith pos f first (backTo pos (starEach es X.env)) (backToKw pos (keywordEach kws X.env))) := by rfl) (h2 : ks.length = kn := by rfl) (h3 : ps.length = pn := by rfl) :
    IE T E X (.Call (.Attribute a (mn : Str) apos) es kws pos) (eMeth cf cn mn (callM m n' kn pn pk dfs) f fa fk) := by
  subst h1 h2 h3
  exact ie_meth hcf F hK hr hc hm hb tk ho ha ht
end Ro
end
section
set_option Elab.async false
set_option linter.all false
set_option maxRecDepth 100000
set_option maxHeartbeats 4000000
namespace Ro
open PySem PySem.Spec PyProof.Rows L2
mutual
def noThk : D → Bool
  | .non => true
  | .bl _ => true
  | .int _ => true
  | .str _ => true
  | .tup l => noThks l
  | .lst l => noThks l
  | .dct l => noThkK l
  | .obj _ l => noThks l
  | .scr _ => true
  | .ref _ => true
  | .fn _ => true
  | .thk _ _ => false
def noThks : List D → Bool
  | [] => true
  | d :: l => noThk d && noThks l
def noThkK : List (D × D) → Bool
  | [] => true
  | (_, d) :: l => noThk d && noThkK l
end
def Tb.at (T : Tb) (x : Option XC) : Tb := { T with xc := x }
mutual
theorem Rep.at {T : Tb} {w : Wd} {x y : Option XC} : ∀ {d : D} {v : V}, Ro.noThk d = true → Rep (T.at x) w d v → Rep (T.at y) w d v
  | _, _, _, .non => .non
  | _, _, _, .bl b => .bl b
  | _, _, _, .int i => .int i
  | _, _, _, .str s => .str s
  | _, _, h, .tup q r => .tup q (Reps.at (by rw [Ro.noThk] at h; exact h) r)
  | _, _, _, .scr q => .scr q
  | _, _, h, .lst q r => .lst q (Reps.at (by rw [Ro.noThk] at h; exact h) r)
  | _, _, h, .dct q r => .dct q (RepK.at (by rw [Ro.noThk] at h; exact h) r)
  | _, _, h, .obj q n r => .obj q n (Reps.at (by rw [Ro.noThk] at h; exact h) r)
  | _, _, _, .ref q => .ref q
  | _, _, _, .fn z => .fn z
  | _, _, h, .xc0 _ _ => by rw [Ro.noThk] at h; cases h
  | _, _, h, .xc1 _ _ _ _ _ => by rw [Ro.noThk] at h; cases h
theorem Reps.at {T : Tb} {w : Wd} {x y : Option XC} : ∀ {l : List D} {vs : List V}, noThks l = true → Reps (T.at x) w l vs → Reps (T.at y) w l vs
  | _, _, _, .nil => .nil
  | _, _, h, .cons q r => by
    rw [noThks, Bool.and_eq_true] at h
    exact .cons (Rep.at h.1 q) (Reps.at h.2 r)
theorem RepK.at {T : Tb} {w : Wd} {x y : Option XC} : ∀ {l : List (D × D)} {vs : List (Key × V)}, noThkK l = true → RepK (T.at x) w l vs → RepK (T.at y) w l vs
  | _, _, _, .nil => .nil
  | _, _, h, .int q r => by
    rw [noThkK, Bool.and_eq_true] at h
    exact .int (Rep.at h.1 q) (RepK.at h.2 r)
  | _, _, h, .str q r => by
    rw [noThkK, Bool.and_eq_true] at h
    exact .str (Rep.at h.1 q) (RepK.at h.2 r)
end
def noThkC : Cell → Bool
  | .dead => true
  | .lst l => noThks l
  | .dct l => noThkK l
  | .ins _ fs => noThks (fs.map (·.2))
  | .dcT l => noThks (l.map (·.2))
theorem CellR.at {T : Tb} {w : Wd} {H : Hp} {a : Addr} {x y : Option XC} : ∀ {c : Cell}, noThkC c = true → CellR (T.at x) w H a c → CellR (T.at y) w H a c
  | .dead, _, _ => trivial
  | .lst _, h, ⟨vs, e, r⟩ => ⟨vs, e, r.at h⟩
  | .dct _, h, ⟨vs, e, r⟩ => ⟨vs, e, r.at h⟩
  | .ins _ _, h, ⟨dx, gs, e, n, r⟩ => ⟨dx, gs, e, n, r.at h⟩
  | .dcT _, h, ⟨vs, e, n, r⟩ => ⟨vs, e, n, r.at h⟩
/-- a store and hidden lists that hold no exception in hand -/
def Clean (S : Store) (hid : List (Addr × List D)) : Prop := (∀ c ∈ S, noThkC c = true) ∧ ∀ p ∈ hid, noThks p.2 = true
theorem WR.at {T : Tb} {w : Wd} {S : Store} {H : Hp} {x y : Option XC} (k : Clean S w.hid) (r : WR (T.at x) w S H) : WR (T.at y) w S H :=
  ⟨r.sub, r.len, r.nd, r.has, r.out, fun n c a h1 h2 => (r.cell n c a h1 h2).at (k.1 c (List.mem_of_getElem? h1)), r.tabs, r.hn, fun p hp => (r.hd p hp).imp id fun z => ⟨z.1, z.2.elim fun vs z => ⟨vs, z.1, z.2.at (k.2 p hp)⟩⟩, r.nt⟩
theorem ER.at {T : Tb} {w : Wd} {env : Env} {σ : St} {x y : Option XC} (k : ∀ d, some d ∈ env → Ro.noThk d = true) (r : ER (T.at x) w env σ) : ER (T.at y) w env σ := ⟨r.1, fun i d e => by
  obtain ⟨v, h1, h2⟩ := r.2 i d e
  exact ⟨v, h1, h2.at (k d (List.mem_of_getElem? e))⟩⟩
end Ro
end
section
set_option Elab.async false
set_option linter.all false
set_option maxRecDepth 100000
set_option maxHeartbeats 4000000
namespace Ro
open PySem PySem.Spec PyProof.Rows L2 L2H
variable {T : Tb} {E : XK} {X : Cx} {a b c e : Expr} {es : List Expr} {f g h : EX} {fa ga fk : AX} {pos : Pos}
structure RGH (k : Nat) (A : Around) : Prop where
  rm : RoomH k A
  gd : A.guards = some []
theorem RGH.mono {j k : Nat} {A : Around} (r : RGH k A) (h : j ≤ k) : RGH j A := ⟨r.rm.mono h, r.gd⟩
theorem RGH.deeper {k : Nat} {A : Around} (r : RGH (k + 1) A) (env : PySem.Env) : RGH k (A.deeper env) := ⟨r.rm.deeper env, r.gd⟩
/-- what is known of the exception in hand: its object -/
structure XHand (T : Tb) (z : XC) (p : Addr × Obj) : Prop where
  at_ : p.1 = z.a
  zc : Zc (.ref (He.ga T.K (z.c : Str))) z.dx p.2
  fl : ∃ vs, p.2.data = .fields vs
structure FnP (P : Program) (w : World) (T : Tb) (mg : Str → Option Value) (base : Heap) (k : Nat) (fp : Addr) (fd : FuncData) (ps : List Str) (cn : String) (m : Fn) : Prop where
  run : ∀ (A : Around) (below : List PySem.Env) (s : Shared) (H : Hp) (ar : Args) (Q : VK) (p : Addr × Obj) (z : XC) (fs : List D) (w0 : Wd) (S : Store), RGH k A → PinOk below H s p → XHand T z p → z.c = cn → Env0 P w T.K mg base A below s H → BindsTo s fd ar (ps.zip [.ref p.1]) →
    WR (T.at (some z)) w0 S H → Rep (T.at (some z)) w0 (.thk 0 fs) (.ref z.a) → RP (m [.thk 0 fs] S) (Pk (T.at (some z)) w0 Q) (XW (T.at (some z)) w0 E00) → codeAny (model P w) A (.call (.ref fp) ar) (CR (L2.CX P w) below P w H s Q E00) s
/-- the context of such a def's body -/
abbrev cxP (P : Program) (w : World) (K : PySem.W.Frag) (mg : Str → Option Value) (base : Heap) (N : List Str) (qual : Str) (scope : Scope) (f : Addr) (cd : Value) (A : Around) (outer : List PySem.Env) (s : Shared) (H : Hp) (p : Addr × Obj) : Cx :=
  cxH (L2.CX P w) P w K mg base N qual scope f cd A outer s H E00 p
structure OkP (T : Tb) (P : Program) (w : World) (mg : Str → Option Value) (base : Heap) (k : Nat) (d : He.DefD) (ps : List Str) (cn : String) (m : Fn) : Prop where
  ex : ∃ fd, FunD T.K d.name d.qual d.params d.body d.scope (d.dvs T.K) [] (He.fAd T.K d.at_) fd ∧ FnP P w T mg base k (He.fAd T.K d.at_) fd ps cn m
theorem OkP.mk' {P : Program} {w : World} {mg : Str → Option Value} {base : Heap} {k : Nat} {d : He.DefD} {x : Str} {N : List Str} {body : ES} {fd : FuncData} {cn : String}
    (F : FunD T.K d.name d.qual d.params d.body d.scope (d.dvs T.K) [] (He.fAd T.K d.at_) fd) (Sc : FnScope N [x] d.scope)
    (h : ∀ (cdv : Value) (A : Around) (outer : List PySem.Env) (s : Shared) (H : Hp) (p : Addr × Obj) (z : XC), XHand T z p → z.c = cn → RGH k (A.deeper (envOfC d.qual d.scope s.heap.objs.size (He.fAd T.K d.at_) cdv)) →
      ISs (T.at (some z)) E00 (cxP P w T.K mg base N d.qual d.scope (He.fAd T.K d.at_) cdv A outer s H p) d.body body) : OkP T P w mg base (k + 1) d [x] cn (fnM N.length body) := by
  refine ⟨fd, F, ?_⟩
  obtain ⟨oc, od, dV, kV, doc, pm, an, cdv, ct, osl, rfl, lk, hcd, _, _⟩ := F.ex
  constructor
  intro A below s H ar Q p z fs w0 S hr hp hx hcn env0 hbd wr hz hm
  have inK : T.K.In s.heap := env0.mod.kin.keeps fun b o q => (env0.bs b o q).1
  have noLim : s.heap.NoLimit := env0.mod.nolimit.keeps fun b o q => (env0.bs b o q).1
  have kinds : ∀ z ∈ [x].zip [Value.ref p.1], d.scope.names.lookup z.1 = some .local ∨ (d.scope.names.lookup z.1 = some .cell ∧ ((cellsFrom (s.heap.objs.size + 1) d.scope.names []).lookup z.1).isSome = true) := by
    rintro ⟨n, v⟩ hz
    rcases Sc.par n (List.of_mem_zip hz).1 with k1 | k1
    · exact Or.inl k1
    · exact Or.inr ⟨k1, PySem.W.cellsFrom_some _ _ _ (Or.inl k1)⟩
  refine codeAny_call_function hr.rm.depth (inK _ _ lk) rfl Sc.co Sc.gen rfl (PySem.W.codeRec_of inK hcd) (hbd _ _ _ _ ?_)
  refine wpAny_newFunctionEnv_cells Sc.kind kinds fun en hen st hx2 => ?_
  subst hen
  have rv : Vals [V.ref p.1] [Value.ref p.1] := .cons rfl .nil
  have J0 : Inv (cxP P w T.K mg base N d.qual d.scope (He.fAd T.K d.at_) cdv A below s H p) [] (L2.start N [V.ref p.1]) H st := inv_startH Sc hp env0 rfl rv hx2
  have ends : tIs (T.at (some z)) E00 body { nx := fun _ H' => Q .non H', rt := Q } (L2.start N [V.ref p.1]) H := by
    have px : Reps (T.at (some z)) w0 [.thk 0 fs] [V.ref p.1] := by
      rw [hx.at_]
      exact .cons hz .nil
    refine ⟨w0, _, S, wr, er_start px, (RP.bnd hm).mono (fun c S1 h1 => ?_) fun _ _ _ z => z⟩
    cases c with
    | rt d => exact h1
    | nx e => exact fun w' H' σ' l r' q' => h1 w' H' .non l r' .non
    | bk e => exact (show False from h1).elim
    | ct e => exact (show False from h1).elim
  refine ⟨noLim.keeps hx2.toInCall.keep, codeAny_func (wpAny_mono ((h cdv A below s H p z hx hcn (hr.deeper _)).run [] st (L2.start N [V.ref p.1]) H _ J0 ends) (fun fl st' hs => ?_) fun e st' hs => hs)⟩
  cases fl with
  | ret u =>
    obtain ⟨v, _, H', J, r1, q⟩ := hs
    exact ⟨v, H', J.os, J.bare, J.base, J.hok, r1, q⟩
  | next =>
    obtain ⟨_, H', J, q⟩ := hs
    exact ⟨V.non, H', J.os, J.bare, J.base, J.hok, rfl, q⟩
  | brk => exact hs.elim fun _ z => z.elim fun _ z => z.2.elim
  | cont => exact hs.elim fun _ z => z.elim fun _ z => z.2.elim
end Ro
end
section
set_option Elab.async false
set_option linter.all false
set_option maxRecDepth 100000
set_option maxHeartbeats 4000000
namespace Ro
open PySem PySem.Spec PyProof.Rows L2 LamX
variable {T : Tb} {E : XK} {X : Cx}
/-- the tables of the code objects of the defs tf -/
def TabsB (K : PySem.W.Frag) (mg : Str → Option Value) (base : Heap) (tf : List He.Defn) : Prop := ∀ p ∈ tf, TabB base mg (He.cT K p).1 (He.cT K p).2
theorem TabsB.at_ {K : PySem.W.Frag} {mg : Str → Option Value} {base : Heap} {tf : List He.Defn} (h : TabsB K mg base tf) (p : He.Defn) (hp : p ∈ tf := by decide +kernel) : TabB base mg (He.codeOf K p) (He.tabOf K (He.codeOf K p)) := h p hp
end Ro
end
section
set_option Elab.async false
set_option linter.all false
set_option maxRecDepth 100000
set_option maxHeartbeats 4000000
namespace Ro
open PySem PySem.Spec PyProof.Rows L2 LamX
/-- the tables' rows that T tells -/
def tabsOf (K : PySem.W.Frag) (tf : List (He.Defn × String)) : List (Addr × Str) := tf.map fun p => ((He.cT K p.1).2, (p.2 : Str) ++ ("<lambda>" : Str))
/-- what is known of the tables at the heap h -/
structure TabF (K : PySem.W.Frag) (tf : List (He.Defn × String)) (h : Heap) : Prop where
  hd : ∀ p ∈ tf, PySem.W.codeHdIn K (He.cT K p.1).1 (He.cT K p.1).2 = true
  out : ∀ p ∈ tf, K.lookup (He.cT K p.1).2 = none
  emp : ∀ p ∈ tf, h.get? (He.cT K p.1).2 = some { cls := .none, data := .fields #[] }
/-- the law's promise at the heap behind the top, tables told -/
theorem lawGT {P : Program} {w : World} {T : Tb} {mg mb : Str → Option Value} {k : Nat} {fa a : Addr} {fd : FuncData} {x : Str} {m : Fn} {st : Shared} {vs : List Value} {ns : List Int} {tf : List (He.Defn × String)} (hT : T.tabs = tabsOf T.K tf)
    (inK : T.K.In st.heap) (hns : st.heap.Ns mainGlobals mg) (hbt : st.heap.Ns builtinsNs mb) (boot : ∀ x : Str, x ≠ "__name__" → mb x = bootBuiltins x) (lim : st.heap.NoLimit) (gens : st.gens = #[]) (tF : TabF T.K tf st.heap)
    (hbm : ∃ (bm : Addr) (ob : Obj), mg "__builtins__" = some (.ref bm) ∧ bm ≠ builtinsNs ∧ st.heap.get? bm = some ob ∧ ob.cls = .type "module" ∧ ob.dict = some builtinsNs ∧ ob.data = .plain)
    (ha : st.heap.get? a = some { cls := .type "list", data := .seq vs.toArray }) (hi : IntsAre vs ns) (hl : ns.length ≤ sizeLine) (hr : RG k callerA)
    (F : ∀ base : Heap, T.K.In base → base.Ns mainGlobals mg → TabsB T.K mg base (tf.map (·.1)) → FnG P w T.K mg base k fa fd [x] (spI T 1 m)) (bind : ∀ (s : Shared) (u : Value), BindsTo s fd ⟨[u], []⟩ [(x, u)])
    (hm : ∃ S, m [.scr ns] [] = .ok (.bl true) S) :
    codeAny (model P w) callerA (.call (.ref fa) ⟨[.ref a], []⟩) (fun r s' => r = .ok (.ret (.bool true)) ∧ OldK st.heap s'.heap ∧ s'.os = st.os ∧ AllBare s'.gens) st := by
  have rv := vals_ints hi
  have lv := hi.length
  let tl : List Addr := tf.map fun p => (He.cT T.K p.1).2
  have tMem : ∀ {b : Addr}, b ∈ tl → ∃ p ∈ tf, (He.cT T.K p.1).2 = b := fun {b} hb => by
    obtain ⟨p, hp, e⟩ := List.mem_map.mp hb
    exact ⟨p, hp, e⟩
  have tAt : ∀ {b : Addr}, b ∈ tl → st.heap.get? b = some { cls := .none, data := .fields #[] } := fun {b} hb => by
    obtain ⟨p, hp, rfl⟩ := tMem hb
    exact tF.emp p hp
  have aNot : a ∉ tl := fun z => by
    have q := tAt z
    rw [ha] at q
    exact nomatch (congrArg Obj.data (Option.some.inj q) : Data.seq vs.toArray _ = Data.fields #[])
  have from_ : ∀ Hs : Hp, Only Hs → SqL T.K Hs a (ns.map V.int) → HOk P w Hs st.heap → (∀ b, Hs b ≠ none → b = a) → (Hs a ≠ none → T.K.lookup a = none) →
      codeAny (model P w) callerA (.call (.ref fa) ⟨[.ref a], []⟩) (fun r s' => r = .ok (.ret (.bool true)) ∧ OldK st.heap s'.heap ∧ s'.os = st.os ∧ AllBare s'.gens) st := by
    intro Hs only sq okS sole away
    have hno : ∀ {b : Addr}, b ≠ a → Hs b = none := fun {b} hb => by
      cases z : Hs b with
      | none => rfl
      | some u => exact absurd (sole b (by rw [z]; simp)) hb
    obtain ⟨H, hH⟩ : ∃ H : Hp, H = fun b => if b ∈ tl then some (.tbl #[]) else Hs b := ⟨_, rfl⟩
    have inT : ∀ {b : Addr}, b ∈ tl → H b = some (.tbl #[]) := fun {b} hb => by rw [hH]; exact if_pos hb
    have offT : ∀ {b : Addr}, b ∉ tl → H b = Hs b := fun {b} hb => by rw [hH]; exact if_neg hb
    have up : ∀ {b : Addr} {u : HO}, Hs b = some u → H b = some u := fun {b u} e => by
      rw [offT fun z => ?_]
      · exact e
      · have : b = a := sole b (by rw [e]; simp)
        exact aNot (this ▸ z)
    have ok : HOk P w H st.heap := fun b u e => by
      by_cases hb : b ∈ tl
      · rw [inT hb] at e
        cases e
        exact tAt hb
      · rw [offT hb] at e
        exact (okS b u e).stay (fun _ _ _ q => q) (fun _ q => up q) fun _ _ q => up q
    have untr : ∀ {b : Addr}, b ≠ a → b ∉ tl → H b = none := fun {b} h1 h2 => by rw [offT h2]; exact hno h1
    have free_ : ∀ {b : Addr} {o : Obj}, st.heap.get? b = some o → (∀ vs n, o.data ≠ .seq vs n) → o.data ≠ .fields #[] → H b = none := fun {b o} e h1 h2 => by
      refine untr (fun z => ?_) fun z => ?_
      · rw [z, ha] at e
        cases e
        exact h1 _ _ rfl
      · rw [tAt z] at e
        cases e
        exact h2 rfl
    have nsB : ∀ {b : Addr} {f : Str → Option Value}, st.heap.Ns b f → (hidT st.heap H).Ns b f := fun {b f} ⟨o, es, ep, e, d, r⟩ => ⟨o, es, ep, hidT_get e (free_ e (fun vs n z => by rw [d] at z; cases z) fun z => by rw [d] at z; cases z), d, r⟩
    have inB : T.K.In (hidT st.heap H) := fun b o e => hidT_get (inK b o e) (by
      by_cases ht : b ∈ tl
      · obtain ⟨p, hp, rfl⟩ := tMem ht
        rw [tF.out p hp] at e
        cases e
      · rw [offT ht]
        by_cases hb : b = a
        · subst hb
          cases z : Hs b with
          | none => rfl
          | some u => rw [away (by rw [z]; simp)] at e; cases e
        · exact hno hb)
    have md : Mod T.K mg (hidT st.heap H) := ⟨inB, nsB hns, ⟨mb, nsB hbt, boot⟩, let ⟨mc, h1, h2⟩ := lim; ⟨mc, nsB h1, h2⟩⟩
    have TBs : TabsB T.K mg (hidT st.heap H) (tf.map (·.1)) := fun q hq => by
      obtain ⟨p, hp, rfl⟩ := List.mem_map.mp hq
      have hat := tF.emp p hp
      have g1 : mainGlobals ≠ (He.cT T.K p.1).2 := fun z => by
        obtain ⟨o, es, ep, e, d, _⟩ := hns
        rw [z, hat] at e
        cases e
        cases d
      refine NdefX.tabB_of_K inB (tF.hd p hp) ?_ g1
      obtain ⟨bm, ob, b1, b2, b3, b4, b5, b6⟩ := hbm
      refine ⟨bm, ob, b1, b2, fun z => ?_, fun z => ?_, hidT_get b3 (free_ b3 (fun vs n z => by rw [b6] at z; cases z) fun z => by rw [b6] at z; cases z), b4, b5, b6⟩
      · obtain ⟨o, es, ep, e, d, _⟩ := hns
        rw [z, e] at b3
        cases b3
        rw [d] at b6
        cases b6
      · rw [z, hat] at b3
        cases b3
        cases b6
    have env0 : Env0 P w T.K mg (hidT st.heap H) callerA [] st H := ⟨rfl, md, fun b o e => of_hidT e, Nat.le_of_eq (hidT_size _ _), trivial, fun b hb => (by cases hb), ok, .of_eq gens⟩
    obtain ⟨S, hS⟩ := hm
    have wr : WR T ⟨Hs, [], []⟩ [] H := by
      refine ⟨fun _ _ h => up h, rfl, List.nodup_nil, ?_, ?_, ?_, ?_, List.nodup_nil, ?_, fun b ps e => ?_⟩
      · intro b hb; cases hb
      · intro n c b h; simp at h
      · intro n c b h; simp at h
      · rw [hT]
        intro p hp
        obtain ⟨q, hq, rfl⟩ := List.mem_map.mp hp
        exact TabS.nil (inT (List.mem_map.mpr ⟨q, hq, rfl⟩))
      · intro p hp; cases hp
      · rcases only b with z | ⟨_, _, z⟩
        · rw [show Hs b = _ from e] at z; cases z
        · rw [show Hs b = _ from e] at z; cases z
    have sp : spI T 1 m [.ref a] H (fun v _ => v = .bl true) (fun _ _ _ => False) := ⟨rfl, ⟨Hs, [], []⟩, [.scr ns], [], wr, .cons (.scr sq) .nil, by
      rw [hS]
      intro w' H' v _ _ p
      cases p
      rfl⟩
    refine codeAny_mono ((F _ inB (nsB hns) TBs).run callerA [] st H ⟨[.ref a], []⟩ [.ref a] [.ref a] _ _ hr env0 (bind st (.ref a)) (.cons rfl .nil) sp) fun r s' h => ?_
    match r, h with
    | .error e, h =>
      obtain ⟨_, _, _, _, _, _, _, _, _, _, _, _, z⟩ := h
      exact z.elim
    | .ok (.ret u), h =>
      obtain ⟨v, H', os, bare, un, ok', r', q⟩ := h
      have q : v = .bl true := q
      subst q
      obtain rfl : u = Value.bool true := r'
      have key : ∀ b o, b ∉ tl → st.heap.get? b = some o → s'.heap.get? b = some o := fun b o nb e => by
        rcases only b with z | ⟨ob, xs, z⟩
        · exact un.keep b o e (by rw [offT nb]; exact z) (by intro y; cases y) (by simp)
        · have z2 := un.frzs b ob _ (up z)
          obtain ⟨e1, _⟩ := okS b _ z
          obtain ⟨e2, _⟩ := ok' b _ z2
          rw [e] at e1
          cases e1
          exact e2
      have grown : ∀ b, b ∈ tl → ∃ more : Array Value, s'.heap.get? b = some { cls := .none, data := .fields more } := fun b hb => by
        obtain ⟨more, z⟩ := un.tbls b #[] (inT hb)
        exact ⟨_, ok' b _ z⟩
      refine ⟨rfl, ⟨fun b o e => ?_, fun b o e => ?_⟩, os, bare⟩
      · by_cases hb : b ∈ tl
        · obtain ⟨more, hmo⟩ := grown b hb
          obtain ⟨p, hp, rfl⟩ := tMem hb
          rw [tF.emp p hp] at e
          cases e
          exact .inr (.inl ⟨((PySem.W.codeHd_of_K inK (tF.hd p hp)).tab (tF.emp p hp)).isCodeTable, rfl, #[], more, rfl, by rw [Array.empty_append]; exact hmo⟩)
        · exact .inl (key b o hb e)
      · by_cases hb : b ∈ tl
        · obtain ⟨more, hmo⟩ := grown b hb
          exact ⟨_, hmo⟩
        · exact ⟨o, key b o hb e⟩
  cases hk : T.K.lookup a with
  | some o =>
    have e := inK a o hk
    rw [ha] at e
    cases e
    exact from_ (fun _ => none) (fun _ => .inl rfl) (.inr ⟨_, vs.toArray, _, hk, rfl, rfl, rfl, by rw [List.size_toArray, lv]; exact hl, by simpa using rv⟩) (fun b u z => (by cases z)) (fun b z => absurd rfl z) fun z => absurd rfl z
  | none =>
    have hyes : ∀ {u : HO}, (fun b => if b = a then some u else none) a = some u := fun {u} => if_pos rfl
    have hno : ∀ {u : HO} {b : Addr}, b ≠ a → (fun b => if b = a then some u else none) b = none := fun {u b} hb => if_neg hb
    refine from_ (fun b => if b = a then some (.frz { cls := .type "list", data := .seq vs.toArray } (.lst (ns.map V.int))) else none) (fun b => ?_) (.inl (.inr ⟨_, hyes⟩)) (fun b u z => ?_) (fun b z => ?_) fun _ => hk
    · by_cases hb : b = a
      · subst hb; exact .inr ⟨_, _, hyes⟩
      · exact .inl (hno hb)
    · by_cases hb : b = a
      · subst hb
        have z := hyes.symm.trans z
        cases z
        exact ⟨ha, by rw [List.length_map]; exact hl, vs, _, rv, ha⟩
      · have z := (hno hb).symm.trans z
        cases z
    · by_cases hb : b = a
      · exact hb
      · exact absurd (hno hb) z
theorem walkGT {l : PySem.W.OpenLaw} {n k : Nat} {q : Program} {loose : List Str} {XP : (Str → Option Value) → Heap → Prop} {YP : World → Heap → Prop} {d : DefRec} {x : Str} {m : Fn} (hn : l.most = some n) (hn2 : n ≤ sizeLine) (hdf : d.params.defaults = []) (hk : k ≤ 200)
    (F : ∀ (w : World) (mg : Str → Option Value) (fa : Addr) (h : Heap), YP w h → h.Ns mainGlobals mg → mg d.name = some (.ref fa) →
      ∃ (T : Tb) (fd : FuncData) (tf : List (He.Defn × String)), T.tabs = tabsOf T.K tf ∧ T.K.In h ∧ TabF T.K tf h ∧ (∀ (s : Shared) (u : Value), BindsTo s fd ⟨[u], []⟩ [(x, u)]) ∧
        ∀ base : Heap, T.K.In base → base.Ns mainGlobals mg → TabsB T.K mg base (tf.map (·.1)) → FnG l.prog w T.K mg base k fa fd [x] (spI T 1 m))
    (hm : ∀ ns : List Int, ns.length ≤ n → (∀ z ∈ ns, bits20 z) → ∃ S, m [.scr ns] [] = .ok (.bl true) S) :
    PySem.W.WalkO q loose XP YP l.row.toRowW d [] (fun f vs => PySem.call f vs) := by
  refine Att.attach_callB hn hdf fun w s₀ st mg mb fa o pm cd doc a vs ns G Y ho hd hcd hmg hobj hints hlen hbits hg => ?_
  obtain ⟨T, fd, tf, hT, inK, tF, hb, hF⟩ := F w mg fa _ Y G.T.g hmg
  exact lawGT hT inK G.T.g G.T.b G.T.builtins G.T.nolimit hg tF G.T.bmain hobj hints (Nat.le_trans hlen hn2) (callerG.mono hk) hF hb (hm ns hlen hbits)
def hookM (n : Nat) (L : Lw) (ts : List He.Tab) : PySem.W.Hook := He.hookX n [] L.defs ts (L.tf.map (·.1)) L.ok
def obM (n : Nat) (L : Lw) (ts : List He.Tab) (g : Addr → Option Obj) : He.AlX := He.obsX n [] L.defs ts (L.tf.map (·.1)) L.ok g
theorem obM_eq {n : Nat} {L : Lw} {ts : List He.Tab} {g : Addr → Option Obj} {s : Shared} (h : ∀ a, g a = s.heap.get? a) : obM n L ts g = (hookM n L ts).obs s := He.obsX_eq h
theorem says_fx {T : Tb} {L : Lw} {ts : List He.Tab} {w : World} {h : Heap} {mg : Str → Option Value} (X : T.K.In h) (G : h.Ns mainGlobals mg) (c : He.SaysX [] L.defs ts (L.tf.map (·.1)) L.ok w h T.K) : Fx T mg L ∧ TabF T.K L.tf h := by
  have e : He.obsD [] L.defs T.K = He.valD L.defs := c.t.d
  have e2 : (L.defs.map fun d => He.fnW T.K d.at_) = L.defs.map He.DefD.val := congrArg (fun z : He.AlD => z.2) e
  refine ⟨fx_of X G (show (L.ok T.K, L.defs.map fun d => He.fnW T.K d.at_) = _ by rw [c.more, e2]), ⟨fun p hp => c.hd p.1 (List.mem_map_of_mem hp), fun p hp => c.out p.1 (List.mem_map_of_mem hp), fun p hp => c.empty p.1 (List.mem_map_of_mem hp)⟩⟩
end Ro
end
section
set_option Elab.async false
set_option linter.all false
set_option maxRecDepth 100000
set_option maxHeartbeats 4000000
namespace Ro
open PySem PySem.Spec PyProof.Rows L2 LamX
variable {T : Tb} {E : XK} {X : Cx}
theorem hu65 {k : Nat} {A : Around} (r : RG k A) : A.units + 65 < cLine := by have := r.rm.un; omega
end Ro
end
section
set_option Elab.async false
set_option linter.all false
set_option maxRecDepth 100000
set_option maxHeartbeats 4000000
namespace PySem
namespace RoXb
open Builtin Builtin.ObjectAttr
/-- own classes, then the built-in class and what is above it -/
def Tail (bt l : List Value) : Prop := ∃ cs : List Addr, l = cs.map Value.ref ++ bt
structure XB (bt : List Value) (B newId initId : String) : Prop where
  F : ExcBaseFacts B newId initId bt
  pass : ∀ self : Value, refuseLoop self "__setattr__" bt = pure ()
  obj : bt.contains (.type "object") = true
  ne : bt.isEmpty = false
  hand : W.handedIn (.builtin initId) = true
section
variable {bt l : List Value} {B newId initId : String}
theorem Tail.has (h : Tail bt l) (X : String) : l.contains (.type X) = bt.contains (.type X) := by
  obtain ⟨cs, rfl⟩ := h
  induction cs with
  | nil => rfl
  | cons c cs ih =>
    show (Value.ref c :: (cs.map Value.ref ++ bt)).contains (.type X) = _
    rw [List.contains_cons, ih]
    rfl
theorem Tail.cons (h : Tail bt l) (C : Addr) : Tail bt (.ref C :: l) := by
  obtain ⟨cs, rfl⟩ := h
  exact ⟨C :: cs, rfl⟩
theorem Tail.ne (X : XB bt B newId initId) (h : Tail bt l) : l.isEmpty = false := by
  obtain ⟨cs, rfl⟩ := h
  cases cs with
  | nil => exact X.ne
  | cons => rfl
end
end RoXb
end PySem
namespace Ro
open PySem PySem.Spec PyProof.Rows L2 PySem.RoXb
/-- what the written part says of such a class -/
structure XCl (K : PySem.W.Frag) (C : Addr) (bt : List Value) (newId : String) : Prop where
  cls : ∃ nm q N bs bm sn sub ab col dd k0 k1 k2 k3 k5, K.lookup C = some (excClassObj nm q C N bs bm true sn sub ab col dd k0 k1 k2 k3 k5 newId) ∧ Tail bt bm
  sa : PySem.W.findIn K (.ref C) "__setattr__" = some (some (.builtin "object.__setattr__"))
  exC : PySem.W.subIn K (.ref C) (.type "BaseException") = some true
  tyC : PySem.W.typeIn K (.ref C) = some (.type "type")
  kC : PySem.W.keepIn K (.ref C) = true
end Ro
end
section
set_option Elab.async false
set_option linter.all false
set_option maxRecDepth 100000
set_option maxHeartbeats 4000000
namespace Ro
open PySem PySem.Spec PyProof.Rows L2 PySem.RoXb
def spX (C : Addr) (flds : List Str) : Sp := fun vs H Q _ => vs.length = flds.length + 1 ∧ ∃ a ws, vs = .ref a :: ws ∧ H a = some (exo a C none) ∧
  ∀ d H', H d = none → d ≠ a → H' a = some (exo a C (some d)) → H' d = some (exd d (flds.zip ws).reverse) → (∀ b, b ≠ a → b ≠ d → H' b = H b) → Q .non H'
structure InitOk (T : Tb) (P : Program) (w : World) (mg : Str → Option Value) (base : Heap) (k : Nat) (d : He.DefD) (ps : List Str) (c : String) (flds : List Str) (bt : List Value) (B newId initId : String) : Prop where
  ex : ∃ fd, FunD T.K d.name d.qual d.params d.body d.scope (d.dvs T.K) [] (He.fAd T.K d.at_) fd ∧ FnG P w T.K mg base k (He.fAd T.K d.at_) fd ps (spX (He.ga T.K (c : Str)) flds)
  xb : XB bt B newId initId
  xc : XCl T.K (He.ga T.K (c : Str)) bt newId
theorem InitOk.mono {T : Tb} {P : Program} {w : World} {mg : Str → Option Value} {base : Heap} {j k : Nat} {d : He.DefD} {ps : List Str} {c : String} {flds : List Str} {bt : List Value} {B newId initId : String} (F : InitOk T P w mg base j d ps c flds bt B newId initId) (h : j ≤ k) : InitOk T P w mg base k d ps c flds bt B newId initId := by
  obtain ⟨fd, F1, F2⟩ := F.ex
  exact ⟨⟨fd, F1, F2.mono h⟩, F.xb, F.xc⟩
end Ro
end
section
set_option Elab.async false
set_option linter.all false
set_option maxRecDepth 100000
set_option maxHeartbeats 4000000
namespace Ro
open PySem PySem.Spec PyProof.Rows L2 PySem.RoXb
/-- as many as asked -/
def aChk (n : Nat) (fa : AX) : AX := fun env S => (fa env S).bnd fun ds S1 => if ds.length = n ∧ ds.length ≤ 1000 then .ok ds S1 else .bad
end Ro
end
section
set_option Elab.async false
set_option linter.all false
set_option maxRecDepth 100000
set_option maxHeartbeats 4000000
namespace Ro
open PySem PySem.Spec PyProof.Rows L2
section
variable {X : Cx} {T : Tb} {E : XK} {a b : Expr} {f g : EX} {pos : Pos}
def seeD (d : D) (S : Store) : D := match d with
  | .ref n => match S[n]? with
    | some (.lst l) => .lst l
    | _ => d
  | _ => d
theorem dp_see {w : Wd} {S : Store} {H : Hp} (r : WR T w S H) {d : D} {x : V} (h : plN 8 (seeD d S) = true) (q : Rep T w d x) : Dp T.K H x (toPy (seeD d S)) := by
  cases d with
  | ref n =>
    cases q with
    | ref hn =>
    unfold seeD at h ⊢
    dsimp only at h ⊢
    cases z : S[n]? with
    | none => rw [z] at h; simp [plN] at h
    | some c =>
      rw [z] at h
      cases c with
      | lst l =>
        obtain ⟨vs, h1, h2⟩ := r.cell n _ _ z hn
        exact .lst (.inl (.inl h1)) (dpAll_of r 7 l vs h h2)
      | _ => simp [plN] at h
  | _ => exact dp_of r 8 _ x h q
end
end Ro
end
section
set_option Elab.async false
set_option linter.all false
set_option maxRecDepth 100000
set_option maxHeartbeats 4000000
namespace Ro
open PySem PySem.Spec PyProof.Rows L2
variable {T : Tb} {E : XK} {X : Cx} {a b : Expr} {f g : EX} {pos : Pos}
def inSD (x y : D) : Option D := match x, y with
  | .str s, .str z => (match s.cps.toList with
    | [c] => some (.bl (decide (c ∈ z.cps.toList)))
    | _ => none)
  | _, _ => none
theorem str_one {s : Str} {c : Nat} (h : s.cps.toList = [c]) : s = ⟨#[c]⟩ := by
  obtain ⟨cps⟩ := s
  have e : cps = [c].toArray := by rw [← h]
  rw [e]
theorem oi_inS : OpR X (compareOp .In) (rOp T inSD) := fun pins s σ H x y v u Q I rx ry q => by
  obtain ⟨w, d, e, r, S, h1, h2, h3, h4, h5⟩ := q
  unfold inSD at h4
  split at h4
  · split at h4
    · rename_i c hc
      cases h4
      cases h2; cases h3
      have es := str_one hc
      subst es
      exact op_in_sign pins s σ H _ _ v u Q I rx ry ⟨c, _, rfl, rfl, h5 w H _ (Wd.le.refl _) h1 (.bl _)⟩
    · cases h4
  · cases h4
theorem ie_gstr {x z : Str} (hg : Gl X x) (hm : ∃ t, X.mg x = some (.str z t)) (hd : (x == ("__debug__" : Str)) = false := by decide +kernel) : IE T E X (.Name x pos) (eC (.str z)) := by
  obtain ⟨t, e⟩ := hm
  exact ie_glob (v := .str z) hg e ⟨t, rfl⟩ (fun _ => .str z) hd
def dcL (K : PySem.W.Frag) : List DictEntry → List (Str × He.Dv) → Bool
  | [], [] => true
  | e :: r, q :: l => e.key.isStr q.1 && (He.relB (q.2.v K) e.val && dcL K r l)
  | _, _ => false
def dcB (K : PySem.W.Frag) (x : Str) (kvs : List (Str × He.Dv)) : Bool := match K.lookup (He.ga K x) with
  | some ⟨_, _, .dict es _, _⟩ => dcL K es.toList kvs
  | _ => false
def DictsK (K : PySem.W.Frag) (w : World) (l : List String) : Prop := ∀ x ∈ l, ∃ es n, KDict K w (He.ga K (x : Str)) es n
theorem isStr_is {v : Value} {x : Str} (h : v.isStr x = true) : ∃ t, v = .str x t := by
  rw [PySem.W.isStr_of] at h
  exact Value.isStrOf_shape h
theorem isStr_str (y z : Str) (t : Tok) : (Value.str y t).isStr z = decide (y = z) := by
  rw [PySem.W.isStr_of]
  show Value.isStrOf z (.str y t) = _
  unfold Value.isStrOf
  rfl
theorem dcL_find {K : PySem.W.Frag} (z : Str) : ∀ {es : List DictEntry} {kvs : List (Str × He.Dv)}, dcL K es kvs = true →
    (∀ q, kvs.find? (fun q => decide (q.1 = z)) = some q → ∃ e, es.find? (·.key.isStr z) = some e ∧ RelV (q.2.v K) e.val) ∧ (kvs.find? (fun q => decide (q.1 = z)) = none → es.find? (·.key.isStr z) = none ∧ es.any (·.refKey) = false)
  | [], [], _ => ⟨fun _ h => (by cases h), fun _ => ⟨rfl, rfl⟩⟩
  | [], _ :: _, h => by cases h
  | _ :: _, [], h => by cases h
  | e :: es, q :: kvs, h => by
    obtain ⟨h1, h⟩ := He.ba h
    obtain ⟨h2, h3⟩ := He.ba h
    obtain ⟨i1, i2⟩ := dcL_find z h3
    obtain ⟨t, ek⟩ := isStr_is h1
    have hk : e.key.isStr z = decide (q.1 = z) := by rw [ek, isStr_str]
    have hr : e.refKey = false := by unfold DictEntry.refKey; rw [ek]
    rw [List.find?_cons, List.find?_cons, hk, List.any_cons, hr, Bool.false_or]
    by_cases hz : q.1 = z
    · simp only [hz, decide_true]
      exact ⟨fun q' e' => by cases e'; exact ⟨e, rfl, He.relB_ok h2⟩, fun n => by cases n⟩
    · simp only [hz, decide_false]
      exact ⟨i1, i2⟩
theorem dcB_ok {K : PySem.W.Frag} {x : Str} {kvs : List (Str × He.Dv)} (h : dcB K x kvs = true) (z : Str) :
    (∀ q, kvs.find? (fun q => decide (q.1 = z)) = some q → ∃ u, PySem.W.nsIn K (He.ga K x) z = some (some u) ∧ RelV (q.2.v K) u) ∧ (kvs.find? (fun q => decide (q.1 = z)) = none → PySem.W.nsIn K (He.ga K x) z = some none) := by
  unfold dcB at h
  unfold PySem.W.nsIn
  split at h
  · rename_i es n _ e
    obtain ⟨h1, h2⟩ := dcL_find (K := K) z h
    rw [e]
    refine ⟨fun q hq => ?_, fun hq => ?_⟩
    · obtain ⟨en, e1, e2⟩ := h1 q hq
      exact ⟨en.val, by show (match es.toList.find? (·.key.isStr z) with | some e => some (some e.val) | none => if es.toList.any (·.refKey) then none else some none) = _; rw [e1], e2⟩
    · obtain ⟨e1, e2⟩ := h2 hq
      show (match es.toList.find? (·.key.isStr z) with | some e => some (some e.val) | none => if es.toList.any (·.refKey) then none else some none) = _
      rw [e1, e2]
      rfl
  · cases h
theorem ie_gfn {x : String} (hg : Gl X (x : Str)) (hm : X.mg (x : Str) = some (.ref (He.ga T.K (x : Str)))) (hd : ((x : Str) == ("__debug__" : Str)) = false := by decide +kernel) : IE T E X (.Name (x : Str) pos) (eC (.fn x)) :=
  ie_glob (v := .ref (He.ga T.K (x : Str))) hg hm rfl (fun _ => .fn x) hd
def inKD (x : String) (kvs : List (Str × He.Dv)) (d e : D) : Option D := match d, e with
  | .str z, .fn y => if y = x then some (.bl (kvs.find? fun q => decide (q.1 = z)).isSome) else none
  | _, _ => none
def itKD (x : String) (kvs : List (Str × He.Dv)) (d e : D) : Option D := match d, e with
  | .fn y, .str z => if y = x then (kvs.find? fun q => decide (q.1 = z)).map (fun q => dvD q.2) else none
  | _, _ => none
theorem oi_inK {x : String} {kvs : List (Str × He.Dv)} (hK : X.K = T.K) (D : ∃ es n, KDict T.K X.w (He.ga T.K (x : Str)) es n) (hb : dcB T.K (x : Str) kvs = true) : OpR X (compareOp .In) (rOp T (inKD x kvs)) := fun pins s σ H x' y v u Q I rx ry q => by
  obtain ⟨w, d, e, r, S, h1, h2, h3, h4, h5⟩ := q
  obtain ⟨es, n, D⟩ := D
  rw [← hK] at D
  unfold inKD at h4
  split at h4
  · split at h4
    · rename_i z _ hy
      subst hy
      cases h4
      cases h2; cases h3
      have k := dcB_ok hb z
      have fin : ∀ r0 : Option Value, PySem.W.nsIn T.K (He.ga T.K (_ : Str)) z = some r0 → r0.isSome = _ → _ := fun r0 e1 e2 => op_in_kd D pins s σ H _ _ v u Q I rx ry ⟨z, r0, rfl, by rw [hK], by rw [hK]; exact e1, by rw [e2]; exact h5 w H _ (Wd.le.refl _) h1 (.bl _)⟩
      cases hz : kvs.find? fun q => decide (q.1 = z) with
      | none => exact fin none (k.2 hz) (by rw [hz]; rfl)
      | some q =>
        obtain ⟨u0, e1, _⟩ := k.1 q hz
        exact fin (some u0) e1 (by rw [hz]; rfl)
    · cases h4
  · cases h4
theorem ie_itK {x : String} {kvs : List (Str × He.Dv)} (hK : X.K = T.K) (D : ∃ es n, KDict T.K X.w (He.ga T.K (x : Str)) es n) (hb : dcB T.K (x : Str) kvs = true) (hl : kvs.all (fun q => dvOk q.2) = true) (ha : IE T E X a f) (hb' : IE T E X b g) (hs : PlainIx b := by exact fun _ _ => rfl) :
    IE T E X (.Subscript a b pos) (eOp (itKD x kvs) f g) :=
  PE.mono (pe_ix ix_kdict ha hb' hs) fun σ H Q q => by
    have q2 := tI_two (k := fun x' y S => lift (itKD x kvs x' y) S) q
    obtain ⟨w, env, S, r, e, h⟩ := q2
    refine ⟨w, env, S, r, e, h.mono (fun d S1 h1 w1 H1 x l1 r1 p1 => ?_) fun _ _ _ x => x⟩
    obtain ⟨w2, env2, S2, r2, e2, h2⟩ := h1 w1 H1 x l1 r1 p1
    refine ⟨w2, env2, S2, r2, e2, h2.mono (fun d S1 h1 w1 H1 x l1 r1 p1 => ?_) fun _ _ _ x => x⟩
    obtain ⟨w3, d3, e3, S3, r3, p3, q3, h3⟩ := h1 w1 H1 x l1 r1 p1
    obtain ⟨w3, d3, e3, rr, S3, r3, p3, q3, hh, h3⟩ := rOp_of r3 p3 q3 h3
    obtain ⟨es, n, D⟩ := D
    unfold itKD at hh
    split at hh
    · split at hh
      · rename_i z hy
        subst hy
        cases hz : kvs.find? fun q => decide (q.1 = z) with
        | none => rw [hz] at hh; cases hh
        | some q =>
          rw [hz] at hh
          cases hh
          cases p3; cases q3
          obtain ⟨u0, k1, k2⟩ := (dcB_ok hb z).1 q hz
          have hq : dvOk q.2 = true := List.all_eq_true.mp hl q (List.mem_of_find?_eq_some hz)
          refine ⟨_, z, q.2.v T.K, rfl, rfl, ⟨es, n, u0, by rw [hK]; exact D.at_, D.lit, by rw [hK]; exact k1, k2⟩, h3 w3 _ _ (Wd.le.refl _) r3 ?_⟩
          show Rep T w3 (dvD q.2) (q.2.v T.K)
          revert hq
          generalize q.2 = dv
          intro hq
          cases dv <;> first | exact .non | exact .bl _ | exact .int _ | exact .str _ | cases hq
      · cases hh
    · cases hh
/-- the head's watch over tables -/
def tabsD (l : List (String × List String)) : List He.Tab := l.map fun p => (fun K => He.ga K (p.1 : Str), p.2.map fun s : String => (s : Str))
theorem dicts_of {fa : List He.Fa} {fn : List He.DefD} {l : List (String × List String)} {w : World} {K : PySem.W.Frag} (c : He.SaysT fa fn (tabsD l) w K) : DictsK K w (l.map (·.1)) := by
  intro x hx
  obtain ⟨p, hp, rfl⟩ := List.mem_map.mp hx
  obtain ⟨i, hi⟩ := List.mem_iff_getElem?.mp hp
  exact c.tab i (t := (fun K => He.ga K (p.1 : Str), p.2.map fun s : String => (s : Str))) (by unfold tabsD; rw [List.getElem?_map, hi]; rfl)
theorem ie_dct0 : IE T E X (.Dict [] [] pos) (eC (.dct [])) := PE.mono pe_dnewK fun σ H Q ⟨w, env, S, r, e, q⟩ => fun p hp => by
  obtain ⟨l, r'⟩ := r.new hp (.dK [])
  exact q _ _ _ l r' (.dct upd_same .nil)
/-- an expression that is a constant, whatever the heap -/
def CE (X : Cx) (e : Expr) (v : V) : Prop := PE X e (tC v)
theorem ce_int {i : Int} {j : Nat} : CE X (.Constant (.int i) j pos) (.int i) := pe_int
def atomD : D → Option V
  | .non => some .non
  | .bl b => some (.bl b)
  | .int i => some (.int i)
  | .str s => some (.str s)
  | _ => none
theorem atom_rep {w : Wd} {d : D} {v : V} (h : atomD d = some v) : Rep T w d v := by
  cases d <;> first | (cases h; first | exact .non | exact .bl _ | exact .int _ | exact .str _) | cases h
inductive CPs (X : Cx) : List (Option Expr) → List Expr → List (Key × D) → Prop
  | nil : CPs X [] [] []
  | cons {k e : Expr} {ks : List (Option Expr)} {es : List Expr} {y : Key} {d : D} {v : V} {l : List (Key × D)} (hk : CE X k (kV y)) (he : CE X e v) (hv : atomD d = some v) (r : CPs X ks es l) : CPs X (some k :: ks) (e :: es) ((y, d) :: l)
def keyD : Key → D
  | .inl i => .int i
  | .inr s => .str s
def dctC (l : List (Key × D)) : D := .dct (l.map fun p => (keyD p.1, p.2))
theorem cps_all {ks : List (Option Expr)} {es : List Expr} {l : List (Key × D)} (h : CPs X ks es l) :
    ks.all (·.isSome) = true ∧ ks.length = es.length ∧ ks.length = l.length ∧ ∃ trs vs, PPs X pos ks es trs ∧ (∀ σ H Q, Q (vs.map fun p : Key × V => (kV p.1, p.2)) H → tPairs trs σ H Q) ∧ vs.map (·.1) = l.map (·.1) ∧ ∀ w : Wd, RepK T w (l.map fun p => (keyD p.1, p.2)) vs := by
  induction h with
  | nil => exact ⟨rfl, rfl, rfl, [], [], pps_nil, fun _ _ _ q => q, rfl, fun _ => .nil⟩
  | @cons k e ks es y d v l hk he hv r ih =>
    obtain ⟨h1, h2, h3, trs, vs, h4, h5, h6, h7⟩ := ih
    refine ⟨by simp [h1], by simp [h2], by simp [h3], _, (y, v) :: vs, pps_cons hk he h4, fun σ H Q q => ?_, by simp [h6], fun w => ?_⟩
    · show tPairs trs σ H _
      exact h5 σ H _ q
    · cases y with
      | inl i => exact .int (atom_rep hv) (h7 w)
      | inr s => exact .str (atom_rep hv) (h7 w)
theorem mergeK_new : ∀ {more kvs : List (Key × V)}, ((kvs ++ more).map (·.1)).Nodup → mergeK kvs more = kvs ++ more
  | [], kvs, _ => by simp [mergeK]
  | p :: more, kvs, h => by
    have hn : (kvs.any fun kv => decide (kv.1 = p.1)) = false := by
      rw [List.any_eq_false]
      intro q hq e
      have e := of_decide_eq_true e
      rw [List.map_append, List.nodup_append] at h
      exact h.2.2 q.1 (List.mem_map_of_mem hq) p.1 (by simp) e
    show mergeK (putK kvs p.1 p.2) more = _
    unfold putK
    rw [hn]
    show mergeK (kvs ++ [(p.1, p.2)]) more = _
    rw [mergeK_new (by simpa using h)]
    simp
theorem ie_dctC {ks : List (Option Expr)} {es : List Expr} {l : List (Key × D)} (h : CPs X ks es l) (h0 : l ≠ []) (h15 : l.length ≤ 15) (hn : (l.map (·.1)).Nodup) : IE T E X (.Dict ks es pos) (eC (dctC l)) := by
  obtain ⟨h1, h2, h3, trs, vs, h4, h5, h6, h7⟩ := cps_all (T := T) (pos := pos) h
  refine PE.mono (pe_disp h4 h1 h2 (fun z => h0 (by rw [z] at h3; exact List.length_eq_zero_iff.mp h3.symm)) (by omega)) fun σ H Q ⟨w, env, S, r, e, q⟩ => fun p hp => h5 _ _ _ ⟨upd_same, vs, rfl, ?_, ?_⟩
  · have e1 : (vs.map (·.1)).length = (l.map (·.1)).length := by rw [h6]
    simp at e1
    omega
  · have e1 : upd (upd H p (.dK [])) p (.dK (mergeK [] vs)) = upd H p (.dK vs) := by
      rw [mergeK_new (by simpa [h6] using hn)]
      funext b
      by_cases hb : b = p
      · subst hb; rw [upd_same, upd_same]; rfl
      · rw [upd_ne hb, upd_ne hb, upd_ne hb]
    rw [e1]
    obtain ⟨l', r'⟩ := r.new hp (.dK vs)
    exact q _ _ _ l' r' (.dct upd_same (h7 _))
end Ro
end
section
set_option Elab.async false
set_option linter.all false
set_option maxRecDepth 100000
set_option maxHeartbeats 4000000
namespace Ro
open PySem PySem.Spec PyProof.Rows L2
variable {T : Tb} {E : XK} {X : Cx} {a b : Expr} {f g : EX} {pos : Pos}
def keyP : D → PyData
  | .int i => .int i
  | .str s => .str s
  | _ => .none
mutual
def toPx : D → PyData
  | .tup l => .tuple (toPxs l)
  | .dct l => .dict (toPxk l)
  | .bl b => .bool b
  | .int i => .int i
  | .str s => .str s
  | _ => .none
def toPxs : List D → List PyData
  | [] => []
  | x :: l => toPx x :: toPxs l
def toPxk : List (D × D) → List (PyData × PyData)
  | [] => []
  | (k, v) :: l => (keyP k, toPx v) :: toPxk l
end
def atomQ : D → Bool
  | .non => true
  | .bl _ => true
  | .int _ => true
  | .str _ => true
  | _ => false
def plQ : Nat → D → Bool
  | _, .non => true
  | _, .bl _ => true
  | _, .int _ => true
  | _, .str _ => true
  | n + 1, .tup l => l.all (plQ n)
  | n + 1, .dct l => l.all fun p => atomQ p.2
  | _, _ => false
def reprOkX (d : D) : Bool := plQ 4 d && ((toPx d).showable && (decide ((toPx d).depth ≤ 20) && decide ((toPx d).shown.length ≤ LINE)))
def bReprX : List D → Option D
  | [x] => if reprOk x then some (.str (toPy x).shown) else if reprOkX x then some (.str (toPx x).shown) else none
  | _ => none
theorem atom_reads {h : Heap} {w : Wd} {d : D} {v : V} {u : Value} (ha : atomQ d = true) (r : Rep T w d v) (ru : RelV v u) : Reads h u (toPx d) [] := by
  cases r with
  | non => cases ru; exact .none
  | bl b => cases ru; exact .bool b
  | int i => obtain ⟨t, rfl⟩ := ru; exact .int i t
  | str s => obtain ⟨t, rfl⟩ := ru; exact .str s t
  | _ => cases ha
theorem kvs_reads {h : Heap} {P : Program} {w0 : World} {w : Wd} : ∀ {l : List (D × D)} {kvs : List (Key × V)} {vs : List (Key × Value)} {es : List DictEntry}, RepK T w l kvs → KV kvs vs → Pairs (knd := mixKind P w0) es vs → (l.all fun p => atomQ p.2) = true →
    ReadsAll h (es.map (·.key)) ((toPxk l).map (·.1)) [] ∧ ReadsAll h (es.map (·.val)) ((toPxk l).map (·.2)) []
  | _, _, _, _, .nil, kv, pr, _ => by
    cases kv; cases pr
    exact ⟨.nil, .nil⟩
  | _, _, _, _, .int hd rd, kv, pr, ha => by
    obtain ⟨h1, h2⟩ := He.ba ha
    cases kv with
    | cons k1 k2 =>
      obtain ⟨e1, e2⟩ := k1
      cases pr with
      | cons p1 p2 p3 =>
        obtain ⟨i1, i2⟩ := kvs_reads (h := h) rd k2 p3 h2
        rw [← e1] at p1
        have p1 : keyIs (Sum.inl _) _ = true := p1
        rcases keyIs_shape p1 with ⟨i, t, z1, z2⟩ | ⟨x, t, z1, z2⟩
        · cases z1
          refine ⟨?_, ?_⟩
          · rw [List.map_cons, z2]
            exact ReadsAll.cons (as := []) (bs := []) (.int _ _) i1
          · rw [List.map_cons, p2]
            exact ReadsAll.cons (as := []) (bs := []) (atom_reads h1 hd e2) i2
        · cases z1
  | _, _, _, _, .str hd rd, kv, pr, ha => by
    obtain ⟨h1, h2⟩ := He.ba ha
    cases kv with
    | cons k1 k2 =>
      obtain ⟨e1, e2⟩ := k1
      cases pr with
      | cons p1 p2 p3 =>
        obtain ⟨i1, i2⟩ := kvs_reads (h := h) rd k2 p3 h2
        rw [← e1] at p1
        have p1 : keyIs (Sum.inr _) _ = true := p1
        rcases keyIs_shape p1 with ⟨i, t, z1, z2⟩ | ⟨x, t, z1, z2⟩
        · cases z1
        · cases z1
          refine ⟨?_, ?_⟩
          · rw [List.map_cons, z2]
            exact ReadsAll.cons (as := []) (bs := []) (.str _ _) i1
          · rw [List.map_cons, p2]
            exact ReadsAll.cons (as := []) (bs := []) (atom_reads h1 hd e2) i2
section
variable {pins : List (Addr × Obj)} {σ : L2.St} {H : Hp} {s : Shared} {w : Wd} {S : Store}
theorem px_reads (hK : X.K = T.K) (I : Inv X pins σ H s) (r : WR T w S H) : ∀ (n : Nat) (d : D) (v : V) (u : Value), plQ n d = true → Rep T w d v → RelV v u → ∃ as, Reads s.heap u (toPx d) as ∧ sysModules ∉ as := by
  intro n
  induction n with
  | zero =>
    intro d v u hd rd ru
    have ha : atomQ d = true := by cases d <;> first | rfl | cases hd
    exact ⟨[], atom_reads ha rd ru, by simp⟩
  | succ n ih =>
    intro d v u hd rd ru
    have all_ : ∀ (l : List D) (vs : List V) (us : List Value), l.all (plQ n) = true → Reps T w l vs → Vals vs us → ∃ as, ReadsAll s.heap us (toPxs l) as ∧ sysModules ∉ as := by
      intro l
      induction l with
      | nil =>
        intro vs us _ z1 z2
        cases z1; cases z2
        exact ⟨[], .nil, by simp⟩
      | cons x l ihl =>
        intro vs us hl z1 z2
        obtain ⟨h1, h2⟩ := He.ba (show (plQ n x && l.all (plQ n)) = true from hl)
        cases z1 with
        | cons y1 y2 =>
          cases z2 with
          | cons x1 x2 =>
            obtain ⟨as, q1, q2⟩ := ih x _ _ h1 y1 x1
            obtain ⟨bs, q3, q4⟩ := ihl _ _ h2 y2 x2
            exact ⟨as ++ bs, .cons q1 q3, by simp [q2, q4]⟩
    have rd0 := rd
    cases rd with
    | tup q1 q2 =>
      cases ru
      have h' : (X.K = T.K) := hK
      obtain ⟨its, rv, ⟨o, ho, hc, m, hdt⟩, _⟩ := I.tuple (by rw [hK]; exact sqt_sub r q1)
      obtain ⟨as, z1, z2⟩ := all_ _ _ _ hd q2 rv
      exact ⟨as, .tuple ho hc hdt z1, z2⟩
    | dct q1 q2 =>
      cases ru
      obtain ⟨_, hm, vs0, kv, o, es, ep, ho, hx, hdt, _, pr, _⟩ := dk_of I.hok (r.sub _ _ q1)
      obtain ⟨z1, z2⟩ := kvs_reads (h := s.heap) q2 kv pr hd
      refine ⟨_, .dict ho hx.1 hdt z1 z2, ?_⟩
      intro z
      have z : sysModules ∈ [_] := z
      have z := List.mem_singleton.mp z
      rw [← z] at hm
      cases hm
    | non => exact ⟨[], atom_reads rfl rd0 ru, by simp⟩
    | bl b => exact ⟨[], atom_reads rfl rd0 ru, by simp⟩
    | int b => exact ⟨[], atom_reads rfl rd0 ru, by simp⟩
    | str b => exact ⟨[], atom_reads rfl rd0 ru, by simp⟩
    | _ => cases hd
end
def rReprX (T : Tb) : List V → Hp → VK → Prop := fun vs H Q => rRepr T.K vs H Q ∨ ∃ (w : Wd) (S : Store) (d : D) (x : V), WR T w S H ∧ vs = [x] ∧ Rep T w d x ∧ reprOkX d = true ∧ reprOk d = false ∧ Q (.str (toPx d).shown) H
theorem call_reprX (hK : X.K = T.K) (gd : X.A.guards = some []) (hu : X.A.units + 64 < cLine) : CallR X (.builtin "repr") (rReprX T) := by
  intro pins s σ H xs us Q I r h
  rcases h with h | ⟨w, S, d, x, wr, rfl, rd, hd, hn, q⟩
  · exact call_reprD gd hu pins s σ H xs us Q I r (by rw [hK]; exact h)
  obtain ⟨u, rfl, ru⟩ := Vals.one r
  obtain ⟨h1, h⟩ := He.ba hd
  obtain ⟨h2, h⟩ := He.ba h
  obtain ⟨h3, h4⟩ := He.ba h
  have h3 := of_decide_eq_true h3
  have h4 := of_decide_eq_true h4
  obtain ⟨as, rr, hs⟩ := px_reads hK I wr 4 d x u h1 rd ru
  cases rd with
  | tup q1 q2 =>
    cases ru
    exact repr_of_reads' rr h2 (fun _ => hs) gd (by omega) (fun _ _ e => e) (fun h' u tk hk => ⟨.str _, H, I.kept hk, ⟨_, rfl⟩, q⟩) (by rw [sizeLine_eq]; exact h4)
  | dct q1 q2 =>
    cases ru
    exact repr_of_reads' rr h2 (fun _ => hs) gd (by omega) (fun _ _ e => e) (fun h' u tk hk => ⟨.str _, H, I.kept hk, ⟨_, rfl⟩, q⟩) (by rw [sizeLine_eq]; exact h4)
  | non =>
    cases ru
    exact PySem.P.repr_of_none ⟨.str _, H, I.tok _, ⟨_, rfl⟩, q⟩
  | bl b =>
    cases ru
    exact PySem.P.repr_of_bool ⟨.str _, H, I.tok _, ⟨_, rfl⟩, q⟩
  | int i =>
    obtain ⟨t, rfl⟩ := ru
    exact PySem.P.repr_of_int (of_decide_eq_true h2) ⟨.str _, H, I.tok _, ⟨_, rfl⟩, q⟩
  | str z =>
    obtain ⟨t, rfl⟩ := ru
    exact PySem.P.repr_of_str ⟨.str _, H, I.tok _, ⟨_, rfl⟩, q⟩ (by rw [sizeLine_eq]; exact h4)
  | _ => cases h1
theorem bo_reprX : BOk T (rReprX T) bReprX := fun w S xs vs H d Q r p h k => by
  unfold bReprX at h
  split at h
  · rename_i x
    by_cases hx : reprOk x = true
    · rw [if_pos hx] at h
      exact .inl (bo_repr w S _ vs H d Q r p (by unfold bRepr; show (if reprOk x = true then _ else _) = _; rw [if_pos hx]; exact h) k)
    · rw [if_neg hx] at h
      split at h
      · rename_i hy
        cases h
        obtain ⟨v, rfl, p2⟩ := reps_one p
        exact .inr ⟨w, S, x, v, r, rfl, p2, hy, by simpa using hx, k w H _ (Wd.le.refl _) r (.str _)⟩
      · cases h
  · cases h
end Ro
end
section
set_option Elab.async false
set_option linter.all false
set_option maxRecDepth 100000
set_option maxHeartbeats 4000000
namespace Ro
open PySem PySem.Spec PyProof.Rows L2
variable {T : Tb} {E : XK} {X : Cx} {a b : Expr} {f g : EX} {pos : Pos}
def frzL (d : D) (S : Store) : R D := match d with
  | .ref n => (match S[n]? with
    | some (.lst l) => .ok (.lst l) (S.set n .dead)
    | _ => .bad)
  | d => .ok d S
def eFrzL (f : EX) : EX := fun env S => (f env S).bnd frzL
theorem ie_frzL (ha : IE T E X a f) : IE T E X a (eFrzL f) :=
  PE.mono ha fun σ H Q ⟨w, env, S, r, e, q⟩ => ⟨w, env, S, r, e, (RP.bnd q).mono (fun d S1 h1 w1 H1 x l1 r1 p1 => by
    unfold frzL at h1
    split at h1
    · rename_i n
      split at h1
      · rename_i l hn
        cases p1 with
        | ref ha =>
          obtain ⟨vs, k1, k2⟩ := r1.cell n _ _ hn ha
          obtain ⟨l2, r2⟩ := r1.freeze hn ha (by simp) k1
          exact h1 _ _ _ (l1.trans l2) r2 (.lst upd_same (k2.mono l2))
      · exact (show False from h1).elim
    · exact h1 w1 H1 x l1 r1 p1) fun _ _ _ x => x⟩
theorem see_lst {w : Wd} {S : Store} {H : Hp} {d : D} {l : List D} {x : V} (r : WR T w S H) (p : Rep T w d x) (h : seeD d S = .lst l) : ∃ q vs, x = .ref q ∧ H q = some (.lst vs) ∧ Reps T w l vs := by
  unfold seeD at h
  split at h
  · rename_i n
    split at h
    · rename_i l' hn
      cases h
      cases p with
      | ref ha =>
        obtain ⟨vs, k1, k2⟩ := r.cell n _ _ hn ha
        exact ⟨_, vs, rfl, k1, k2⟩
    · cases h
  · subst h
    cases p with
    | lst q2 r2 => exact ⟨_, _, rfl, r.sub _ _ q2, r2⟩
def catS (x y : D) (S : Store) : Option (List D) := match seeD x S, seeD y S with
  | .lst l, .lst m => if l.length + m.length ≤ LINE then some (l ++ m) else none
  | _, _ => none
theorem catS_ok {x y : D} {S : Store} {k : List D} (h : catS x y S = some k) : ∃ l m, seeD x S = .lst l ∧ seeD y S = .lst m ∧ k = l ++ m ∧ l.length + m.length ≤ LINE := by
  unfold catS at h
  split at h
  · rename_i l m e1 e2
    split at h
    · rename_i hl
      cases h
      exact ⟨l, m, e1, e2, rfl, hl⟩
    · cases h
  · cases h
/-- the new list will be changed -/
def eAddM (f g : EX) : EX := fun env S => (f env S).bnd fun x S1 => (g env S1).bnd fun y S2 => match catS x y S2 with
  | some k => .ok (.ref S2.length) (S2 ++ [.lst k])
  | none => .bad
theorem ie_addM (ha : IE T E X a f) (hb : IE T E X b g) : IE T E X (.BinOp a .Add b pos) (eAddM f g) :=
  PE.mono (pe_op op_cat ha hb) fun σ H Q q => by
    have q2 := tI_two (k := fun x y S => match catS x y S with
      | some k => .ok (.ref S.length) (S ++ [.lst k])
      | none => .bad) q
    obtain ⟨w, env, S, r, e, h⟩ := q2
    refine ⟨w, env, S, r, e, h.mono (fun d S1 h1 w1 H1 x l1 r1 p1 => ?_) fun _ _ _ x => x⟩
    obtain ⟨w2, env2, S2, r2, e2, h2⟩ := h1 w1 H1 x l1 r1 p1
    refine ⟨w2, env2, S2, r2, e2, h2.mono (fun d S1 h1 w1 H1 x l1 r1 p1 => ?_) fun _ _ _ x => x⟩
    obtain ⟨w3, d3, e3, S3, r3, p3, q3, h3⟩ := h1 w1 H1 x l1 r1 p1
    cases z : catS d3 e3 S3 with
    | none => rw [z] at h3; exact (show False from h3).elim
    | some k =>
      rw [z] at h3
      obtain ⟨l, m, z1, z2, rfl, hl⟩ := catS_ok z
      obtain ⟨p, vs, rfl, k1, k2⟩ := see_lst r3 p3 z1
      obtain ⟨p', us, rfl, k3, k4⟩ := see_lst r3 q3 z2
      refine ⟨_, _, _, _, rfl, rfl, k1, k3, by rw [sizeLine_eq, ← k2.length, ← k4.length]; exact hl, fun a hp => ?_⟩
      obtain ⟨l1, r1, at_⟩ := r3.alloc (o := .lst (vs ++ us)) (c := .lst (l ++ m)) hp ⟨_, upd_same, (k2.append k4).mono (Wd.le.app _ _)⟩
      exact h3 _ _ _ l1 r1 (.ref at_)
end Ro
end
section
set_option Elab.async false
set_option linter.all false
set_option maxRecDepth 100000
set_option maxHeartbeats 4000000
namespace Ro
open PySem PySem.Spec PyProof.Rows L2
variable {T : Tb} {E : XK} {X : Cx} {a b : Expr} {f g : EX} {pos : Pos}
def rReprO (T : Tb) (cn : String) (m : Fn) : List V → Hp → VK → Prop := fun vs H Q => ∃ (w : Wd) (S : Store) (l : List D) (p : Addr), WR T w S H ∧ vs = [.ref p] ∧ Rep T w (.obj cn l) (.ref p) ∧
  RP (m [.obj cn l] S) (fun d S' => (∃ z, d = .str z) ∧ ∀ w' H' v, w.le w' → WR T w' S' H' → Rep T w' d v → Q v H') (fun _ _ _ => False)
theorem call_reprO {cn : String} {m : Fn} {k : Nat} {d : He.DefD} (hK : X.K = T.K) (ok : OkF T X.prog X.w X.mg X.base k d ["self"] m) (hr : RG k X.A.in1) (hu : X.A.in1.units < cLine) (M : Meth T.K (He.ga T.K (cn : Str)) "__repr__" (He.fAd T.K d.at_))
    (hb : ∀ fd, FunD T.K d.name d.qual d.params d.body d.scope (d.dvs T.K) [] (He.fAd T.K d.at_) fd → Binds T.K fd ["self"] []) : CallR X (.builtin "repr") (rReprO T cn m) := by
  intro pins s σ H xs us Q I rv h
  obtain ⟨w, S, l, p, wr, rfl, rp, q⟩ := h
  obtain ⟨u, rfl, ru⟩ := Vals.one rv
  cases ru
  obtain ⟨fd, FD, FG⟩ := ok.ex
  have rp0 := rp
  cases rp with
  | obj hG hn hrs =>
    obtain ⟨mA, J, _⟩ := ins_get I.hok (wr.sub _ _ hG)
    obtain ⟨od, J, _⟩ := J.look
    obtain ⟨mf, hF⟩ := I.fr
    refine PySem.W.repr_K (C := He.ga T.K (cn : Str)) (f := He.fAd T.K d.at_) hu hF I.ok.mod.kin J (by rw [hK]; exact M.at_) (by rw [hK]; exact M.fn) ?_
    have e0 : Env0 X.prog X.w T.K X.mg X.base X.A.in1 X.stack s H := by
      have e := I.env0
      rw [hK] at e
      exact ⟨e.frames, e.mod, e.bs, e.bsz, e.funs, e.frf, e.hok, e.bare⟩
    have hsp : spI T ["self"].length m [.ref p] H (fun v H' => (∃ z : Str, v = .str z) ∧ Q v H') (fun _ _ _ => False) := ⟨rfl, w, [.obj cn l], S, wr, .cons rp0 .nil, q.mono (fun d' S' h => fun w' H' v l' r' p' => by
      obtain ⟨⟨z, rfl⟩, h2⟩ := h
      refine ⟨?_, h2 w' H' v l' r' p'⟩
      cases p'
      exact ⟨z, rfl⟩) fun c fs S' h => h.elim⟩
    have r2 : Vals [V.ref p] [Value.ref p] := .cons rfl .nil
    have hbd : BindsTo s fd ⟨[.ref p], []⟩ ((["self"] : List Str).zip [Value.ref p]) := by
      have := hb fd FD s [.ref p] (by rw [← hK]; exact I.kIn) rfl
      simpa using this
    refine wpAny_call (codeAny_mono (FG.run X.A.in1 X.stack s H ⟨[.ref p], []⟩ [.ref p] [.ref p] _ (fun _ _ _ => False) hr e0 hbd r2 hsp) fun r s' hq => ?_)
    cases r with
    | error e => 
      obtain ⟨_, _, _, _, _, _, _, _, _, _, _, _, z⟩ := hq
      exact z.elim
    | ok fl =>
      cases fl with
      | ret v =>
        obtain ⟨z, H', I', rz, ⟨y, ey⟩, ex⟩ := I.after hq
        subst ey
        obtain ⟨t, rfl⟩ := rz
        exact ⟨V.str y, H', I', ⟨t, rfl⟩, ex⟩
      | next => exact False.elim hq
      | brk => exact False.elim hq
      | cont => exact False.elim hq
def reprM (cn : String) (m : Fn) (x : D) (S1 : Store) : R D := match x with
  | .obj c l => if c = cn then (match m [.obj c l] S1 with
    | .ok (.str z) S2 => .ok (.str z) S2
    | _ => .bad) else .bad
  | _ => .bad
def eReprO (cn : String) (m : Fn) (f : EX) : EX := fun env S => (f env S).bnd (reprM cn m)
theorem ie_reprO {p : Pos} {cn : String} {m : Fn} {k : Nat} {d : He.DefD} (hK : X.K = T.K) (ok : OkF T X.prog X.w X.mg X.base k d ["self"] m) (hr : RG k X.A.in1) (hu : X.A.in1.units < cLine) (M : Meth T.K (He.ga T.K (cn : Str)) "__repr__" (He.fAd T.K d.at_))
    (hb : ∀ fd, FunD T.K d.name d.qual d.params d.body d.scope (d.dvs T.K) [] (He.fAd T.K d.at_) fd → Binds T.K fd ["self"] []) (hg : Gl X "repr") (hn : X.mg "repr" = none) (ha : IA T E X [a] (aCons f aNil))
    (he : starEach [a] X.env = (false, eval a X.env) :: starEach [] X.env := by rfl) (hpl : (backTo pos (starEach [] X.env)).any (·.1) = false := by rfl) : IE T E X (.Call (.Name "repr" p) [a] [] pos) (eReprO cn m f) :=
  PE.mono (pe_callB (call_reprO hK ok hr hu M hb) hg hn (by decide +kernel) ha (by decide +kernel) (by decide +kernel) he hpl) fun σ H Q ⟨w, env, S, r, e, q⟩ => by
    refine ⟨w, env, S, r, e, ?_⟩
    have q := RP.bnd q
    show RP ((f env S).bnd fun x S1 => (aNil env S1).bnd fun xs S2 => .ok (x :: xs) S2) _ _
    cases z : f env S with
    | bad => rw [z] at q; exact q
    | err c fs S1 => rw [z] at q; exact q
    | ok x S1 =>
      rw [z] at q
      rw [bnd_ok]
      show RP (R.ok [x] S1 : R (List D)) _ _
      intro w' H' vs l' r' p'
      have q : RP (reprM cn m x S1) (fun d S' => ∀ w' H' v, w.le w' → WR T w' S' H' → Rep T w' d v → Q v H') (XW T w E) := q
      unfold reprM at q
      cases x with
      | obj c l =>
        dsimp only at q
        by_cases hc : c = cn
        · subst hc
          rw [if_pos rfl] at q
          cases p' with
          | cons p1 p2 =>
            cases p2
            cases y : m [.obj c l] S1 with
            | bad => rw [y] at q; exact q.elim
            | err c' fs' S' => rw [y] at q; exact q.elim
            | ok d' S' =>
              rw [y] at q
              cases d' with
              | str z =>
                have p1' := p1
                cases p1 with
                | obj h1 h2 h3 => exact ⟨w', S1, l, _, r', rfl, p1', by rw [y]; exact ⟨⟨z, rfl⟩, fun w2 H2 v l2 r2 p2 => q w2 H2 v (l'.trans l2) r2 p2⟩⟩
              | _ => exact q.elim
        · rw [if_neg hc] at q
          exact q.elim
      | _ => exact q.elim
end Ro
end
section
set_option Elab.async false
set_option linter.all false
set_option maxRecDepth 100000
set_option maxHeartbeats 4000000
namespace Ro
open PySem PySem.Spec PyProof.Rows L2
section
variable {prog : Program} {w : World} {A : Around} {E : Value → Shared → Prop} {s : Shared} {K : PySem.W.Frag} {x C L f : Addr} {h₀ : Heap} {m : Str → Option Value} {ox : Obj} {od : Option Obj} {b tb : Value}
theorem ifBound_B {M : Model} {name : Str} {id : String} {args : List Value} {Q : Option Value → Shared → Prop} (X : K.In s.heap) (I : PySem.W.InstAt s.heap x ox C od) (hs : PySem.W.findIn K (.ref C) name = some (some (.builtin id)))
    (hb : ∀ self, bindSpecial (.builtin id) self = pure (.builtin id, [self])) (h : wpAny M A (call (.builtin id) (.ref x :: args)) (fun v => Q (some v)) E s) : wpAny M A (callSpecialIfBound? (.ref x) name args) Q E s := by
  simp only [callSpecialIfBound?, bindSpecialIfBound?]
  refine wpAny_holding (wpAny_bind (wpAny_bind (wpAny_bind (I.type.here ((PySem.W.looks_findIn X hs).here ?_)))))
  refine wpAny_bind (wpAny_askSetting (wpAny_ite ?_))
  have fin : wpAny M A (call (.builtin id) ([.ref x] ++ args) >>= fun v => pure (some v)) Q E s := wpAny_bind (wpAny_mono h (fun v s' h' => wpAny_pure h') fun _ _ h' => h')
  split
  · exact wpAny_bind ((PySem.W.Looks.of_pure (hb _)).here (wpAny_pure (by exact fin)))
  · exact wpAny_tryCatch (wpAny_bind ((PySem.W.Looks.of_pure (hb _)).here (wpAny_pure (by exact fin))))
open Builtin in
theorem objNe_K {Q : Value → Shared → Prop} (hu : A.in1.units < cLine) (X : K.In s.heap) (I : PySem.W.InstAt s.heap x ox C od) (hm : PySem.W.mroIn K C (.type "object") = some true) (he : PySem.W.findIn K (.ref C) "__eq__" = some (some (.ref f))) (hf : PySem.W.isFn K (.ref f) = true)
    (h : wpAny (model prog w) A.in1 (call (.ref f) [.ref x, b]) (fun v s' => ∃ c, v = .bool c ∧ Q (.bool (!c)) s') E s) : wpAny (model prog w) A (call (.builtin "object.__ne__") [.ref x, b]) Q E s := by
  refine wpAny_call (codeAny_call_builtin (by decide +kernel) F.cmpEntry_ne (PySem.W.check_slot (i := "object.__ne__") (owner := "object") (n := "__ne__") F.cmpKind_ne F.cmpSplit_ne (I.type.andThen (PySem.W.looks_mroIn X hm)) (F.cmpArgs_ne _ _) ?_))
  unfold Builtin.«object.__ne__»
  refine wpAny_bind (m := slotArgs "__ne__" 1 _) (wpAny_pure ?_)
  refine wpAny_bind (m := cRoomFor _ _) (wpAny_cRoomFor hu ?_)
  refine wpAny_bind (m := callSpecialIfBound? (.ref x) (Str.ofString "__eq__") [b]) (PySem.W.ifBound_K X I he hf (wpAny_mono h (fun r s' hr => ?_) fun _ _ e => e))
  obtain ⟨c, rfl, hq⟩ := hr
  refine wpAny_bind (m := truthy (.bool c)) (wpAny_truthy_bool ?_)
  exact wpAny_pure hq
theorem cmpNe_K {Q : Value → Shared → Prop} (hu : A.in1.units + 1 < cLine) (F : Fr h₀ L s.heap m) (X₀ : K.In h₀) (I : PySem.W.InstAt s.heap x ox C od) (hb : PySem.W.Looks (model prog w) s.heap (typeOf b) tb) (hn : PySem.W.notFirst K C tb = true)
    (hs : PySem.W.findIn K (.ref C) "__ne__" = some (some (.builtin "object.__ne__"))) (hm : PySem.W.mroIn K C (.type "object") = some true) (he : PySem.W.findIn K (.ref C) "__eq__" = some (some (.ref f))) (hf : PySem.W.isFn K (.ref f) = true)
    (hbd : ∀ self, bindSpecial (.builtin "object.__ne__") self = pure (.builtin "object.__ne__", [self]))
    (h : wpAny (model prog w) A.in1 (call (.ref f) [.ref x, b]) (fun v s' => ∃ c, v = .bool c ∧ Q (.bool (!c)) s') E s) : wpAny (model prog w) A (richCompare .NotEq (.ref x) b) Q E s := by
  have hu0 : A.units < cLine := by
    have : A.in1.units = A.units + 1 := rfl
    omega
  have X := X₀.keeps F.keep
  have one : wpAny (model prog w) A (tryCompare (.ref x) (cmpInfo .NotEq).2.1 b) (fun r s' => ∃ v, r = some v ∧ Q v s') E s := by
    unfold tryCompare
    refine wpAny_bind (ifBound_B X I hs hbd (objNe_K (by omega) X I hm he hf (wpAny_mono h (fun v s' hv => ?_) fun _ _ e => e)))
    obtain ⟨c, rfl, hq⟩ := hv
    exact ⟨c, rfl, wpAny_pure ⟨_, rfl, hq⟩⟩
  unfold richCompare
  simp only [oneThing_ref]
  refine wpAny_holding (wpAny_bind (wpAny_cRoomFor hu0 ?_))
  refine wpAny_bind (I.type.here (wpAny_bind (hb.here ?_)))
  split
  · rename_i q
    have e : PySem.W.subIn K tb (.ref C) = some false := by
      rcases Bool.or_eq_true_iff.mp hn with e | e
      · rw [beq_iff_eq.mp e] at q; simp at q
      · exact beq_iff_eq.mp e
    refine wpAny_bind ((PySem.W.looks_subIn X e).here ?_)
    simp only [Bool.false_eq_true, if_false]
    refine wpAny_bind (wpAny_mono one (fun r s' z => ?_) fun _ _ e => e)
    obtain ⟨v, rfl, hq⟩ := z
    exact wpAny_pure hq
  · refine wpAny_bind (wpAny_pure ?_)
    simp only [Bool.false_eq_true, if_false]
    refine wpAny_bind (wpAny_mono one (fun r s' z => ?_) fun _ _ e => e)
    obtain ⟨v, rfl, hq⟩ := z
    exact wpAny_pure hq
end
end Ro
end
section
set_option Elab.async false
set_option linter.all false
set_option maxRecDepth 100000
set_option maxHeartbeats 4000000
namespace Ro
open PySem PySem.Spec PyProof.Rows L2
inductive Zk where
  | l | t
def zSrc (K : PySem.W.Frag) (k : Zk) (H : Hp) (a : Addr) (xs : List V) : Prop := match k with
  | .l => SqL K H a xs
  | .t => SqT K H a xs
def zSt (k : Zk) (h : Heap) (it a : Addr) (i : Nat) : Prop := match k with
  | .l => h.IsListIter it a i
  | .t => h.IsTupleIter it a i
def zIs (k : Zk) (h : Heap) (a : Addr) (items : Array Value) : Prop := match k with
  | .l => h.IsList a items
  | .t => h.IsTuple a items
def zObj (k : Zk) (a : Addr) : Obj := match k with
  | .l => { cls := .type "list_iterator", data := .fields #[.ref a, .int 0 0] }
  | .t => { cls := .type "tuple_iterator", data := .fields #[.ref a, .int 0 0] }
theorem z_begins (k : Zk) (a : Addr) (items : Array Value) : Begins (.ref a) (zObj k a) (fun h => zIs k h a items) := by
  cases k
  · exact begins_list a items
  · exact begins_tuple a items
theorem z_start {k : Zk} {h : Heap} {it a : Addr} (e : h.get? it = some (zObj k a)) : zSt k h it a 0 := by
  cases k
  · exact ⟨_, e, rfl, rfl⟩
  · exact ⟨_, e, rfl, rfl⟩
theorem z_inv {X : Cx} {pins : List (Addr × Obj)} {σ : L2.St} {H : Hp} {s : Shared} {k : Zk} {a : Addr} {xs : List V} (I : Inv X pins σ H s) (h : zSrc X.K k H a xs) : ∃ its : List Value, Vals xs its ∧ zIs k s.heap a its.toArray ∧ a < s.heap.objs.size := by
  cases k
  · obtain ⟨its, rv, p, _⟩ := I.list h
    exact ⟨its, rv, p.isList, p.lt⟩
  · obtain ⟨its, rv, p, _⟩ := I.tuple h
    obtain ⟨o1, ho1, _⟩ := id p
    exact ⟨its, rv, p, Heap.lt_size ho1⟩
theorem z_inj {X : Cx} {pins : List (Addr × Obj)} {σ : L2.St} {H : Hp} {s : Shared} {k : Zk} {a : Addr} {xs ys : List V} (I : Inv X pins σ H s) (h : zSrc X.K k H a xs) (h' : zSrc X.K k H a ys) : xs = ys := by
  cases k
  · exact I.list_inj h h'
  · exact I.tuple_inj h h'
theorem z_live {k : Zk} {h : Heap} {it a : Addr} {i : Nat} (st : zSt k h it a i) : ∃ o, h.get? it = some o ∧ ∀ v, o.data ≠ .cell v := by
  cases k
  · obtain ⟨o, e, _, d⟩ := st
    exact ⟨o, e, fun v q => by rw [d] at q; cases q⟩
  · obtain ⟨o, e, _, d⟩ := st
    exact ⟨o, e, fun v q => by rw [d] at q; cases q⟩
theorem z_keep {k : Zk} {h h' : Heap} {it a : Addr} {i : Nat} (st : zSt k h it a i) (kp : ∀ o, h.get? it = some o → h'.get? it = some o) : zSt k h' it a i := by
  cases k
  · exact Heap.IsListIter.at st kp
  · exact Heap.IsTupleIter.at st kp
section
variable {prog : Program} {w : World} {A : Around}
theorem z_item (k : Zk) (hh : A.handled = none) (it a : Addr) (hne : a ≠ it) (items : Array Value) : Draws prog w A it [it, a] items.size (fun i v => items[i]? = some v) (fun i h => zSt k h it a i ∧ zIs k h a items) := by
  cases k
  · exact Draws.list hh it a hne items
  · exact Draws.tuple hh it a hne items
theorem z_end (k : Zk) (hh : A.handled = none) (it a : Addr) (items : Array Value) (i : Nat) (he : items[i]? = none) : Draws prog w A it [it, a] i (fun _ _ => False) (fun j h => j = i ∧ zSt k h it a i ∧ zIs k h a items) where
  live := fun _ _ st => let ⟨o, e, _⟩ := z_live st.2.1; ⟨o, e⟩
  frame := fun _ h h' st hk => ⟨st.1, z_keep st.2.1 fun o e => hk it (by simp) o e, by
    have := st.2.2
    cases k
    · exact Heap.IsList.at this fun o e => hk a (by simp) o e
    · exact Heap.IsTuple.at this fun o e => hk a (by simp) o e⟩
  item := fun j s Q E hi st hQ => by
    have := st.1
    omega
  done := fun s Q E st hE => by
    obtain ⟨_, h1, h2⟩ := st
    cases k
    · exact wpAny_nextOf_list_end hh h1 h2 he hE
    · exact wpAny_nextOf_tuple_end hh h1 h2 he hE
theorem z_draws (k : Zk) (hh : A.handled = none) (it a : Addr) (hne : a ≠ it) (items : Array Value) (i : Nat) : ∃ (n : Nat) (P : Nat → Value → Prop) (St : Nat → Heap → Prop), Draws prog w A it [it, a] n P St ∧ (∀ h, zSt k h it a i → zIs k h a items → St i h) ∧ i ≤ n ∧ (items[i]? = none → i = n) := by
  cases e : items[i]? with
  | none => exact ⟨i, _, _, z_end k hh it a items i e, fun h h1 h2 => ⟨rfl, h1, h2⟩, Nat.le_refl _, fun _ => rfl⟩
  | some v =>
    refine ⟨items.size, _, _, z_item k hh it a hne items, fun h h1 h2 => ⟨h1, h2⟩, ?_, fun z => by cases z⟩
    have := (Array.getElem?_eq_some_iff.mp e).1
    omega
end
theorem zmem {x y a : Addr} (h1 : x ≠ y) (h2 : x ≠ a) : x ∉ [y, a] := fun h => by
  rcases List.mem_cons.mp h with h | h
  · exact h1 h
  · exact h2 (List.mem_singleton.mp h)
theorem zadd {n : Nat} {i j : Nat} (h : i < j) : ((n + i : Nat) : Addr) ≠ n + j := Nat.ne_of_lt (Nat.add_lt_add_left h n)
theorem zadd0 {n : Nat} {j : Nat} (h : 0 < j) : ((n : Nat) : Addr) ≠ n + j := Nat.ne_of_lt (Nat.lt_add_of_pos_right h)
theorem zlow {n a : Nat} {j : Nat} (h : a < n) : ((n + j : Nat) : Addr) ≠ a := Nat.ne_of_gt (Nat.lt_of_lt_of_le h (Nat.le_add_right _ _))
theorem zlow0 {n a : Nat} (h : a < n) : ((n : Nat) : Addr) ≠ a := Nat.ne_of_gt h
def ItzM3 (K : PySem.W.Frag) (k1 k2 k3 : Zk) (a b c : Addr) : It :=
  ⟨fun i H => ∃ (xs1 xs2 xs3 : List V) (x1 x2 x3 : V), zSrc K k1 H a xs1 ∧ zSrc K k2 H b xs2 ∧ zSrc K k3 H c xs3 ∧ xs1[i]? = some x1 ∧ xs2[i]? = some x2 ∧ xs3[i]? = some x3,
    fun i H v H' => ∃ (T : Addr) (x1 x2 x3 : V), v = .ref T ∧ H T = none ∧ H' = upd H T (.tup [x1, x2, x3]) ∧ (∀ xs, zSrc K k1 H a xs → xs[i]? = some x1) ∧ (∀ xs, zSrc K k2 H b xs → xs[i]? = some x2) ∧ (∀ xs, zSrc K k3 H c xs → xs[i]? = some x3),
    fun i H => ∃ xs1 xs2 xs3 : List V, zSrc K k1 H a xs1 ∧ zSrc K k2 H b xs2 ∧ zSrc K k3 H c xs3 ∧ (xs1.length ≤ i ∨ xs2.length ≤ i ∨ xs3.length ≤ i)⟩
theorem turn_zipM3 {P : Program} {w : World} {K : PySem.W.Frag} {elts : List Expr} {kk : Nat} {tpos : Pos} {k1 k2 k3 : Zk} {a b c z TI TO i1 i2 i3 : Addr} (D : ZipSep3 z TI TO i1 i2 i3 [i1, a] [i2, b] [i3, c]) (n1 : a ≠ i1) (n2 : b ≠ i2) (n3 : c ≠ i3) :
    Turn P w K (.Tuple elts kk tpos) (ItzM3 K k1 k2 k3 a b c) [z, TI, TO, i1, i2, i3] z (fun i h => IsZip h z TI TO .none ∧ IsTupOf3 h TI (.ref i1) (.ref i2) (.ref i3) ∧ (∃ u1 u2 u3, IsTupOf3 h TO u1 u2 u3) ∧ zSt k1 h i1 a i ∧ zSt k2 h i2 b i ∧ zSt k3 h i3 c i) where
  mem := by simp
  obj := fun i h st c hc => by
    obtain ⟨hz, hTI, ⟨u1, u2, u3, hTO⟩, h1, h2, h3⟩ := st
    have e' : c = z ∨ c = TI ∨ c = TO ∨ c = i1 ∨ c = i2 ∨ c = i3 := by simpa using hc
    rcases e' with q | q | q | q | q | q
    · rw [q]; exact ⟨_, hz, fun v q => nomatch q⟩
    · rw [q]; exact ⟨_, hTI, fun v q => nomatch q⟩
    · rw [q]; exact ⟨_, hTO, fun v q => nomatch q⟩
    · rw [q]; exact z_live h1
    · rw [q]; exact z_live h2
    · rw [q]; exact z_live h3
  keep := fun i h h' st k => by
    obtain ⟨hz, hTI, ⟨u1, u2, u3, hTO⟩, h1, h2, h3⟩ := st
    exact ⟨k z (by simp) _ hz, k TI (by simp) _ hTI, ⟨u1, u2, u3, k TO (by simp) _ hTO⟩, z_keep h1 fun o q => k i1 (by simp) o q, z_keep h2 fun o q => k i2 (by simp) o q, z_keep h3 fun o q => k i3 (by simp) o q⟩
  item := by
    intro X hP hw hK hc i pins s σ H E I hf st hg
    subst hP hw hK
    obtain ⟨hz, hTI, ⟨u1, u2, u3, hTO⟩, h1, h2, h3⟩ := st
    obtain ⟨xs1, xs2, xs3, x1, x2, x3, hq1, hq2, hq3, hx1, hx2, hx3⟩ := hg
    obtain ⟨its1, rv1, p1, _⟩ := z_inv I hq1
    obtain ⟨v1, hv1, ru1⟩ := rv1.get hx1
    have hs1 : i < its1.toArray.size := by
      have := (List.getElem?_eq_some_iff.mp hv1).1
      simpa using this
    obtain ⟨its2, rv2, p2, _⟩ := z_inv I hq2
    obtain ⟨v2, hv2, ru2⟩ := rv2.get hx2
    have hs2 : i < its2.toArray.size := by
      have := (List.getElem?_eq_some_iff.mp hv2).1
      simpa using this
    obtain ⟨its3, rv3, p3, _⟩ := z_inv I hq3
    obtain ⟨v3, hv3, ru3⟩ := rv3.get hx3
    have hs3 : i < its3.toArray.size := by
      have := (List.getElem?_eq_some_iff.mp hv3).1
      simpa using this
    have hh : X.A.in1.handled = none := I.ok.hd hc
    have hzl : z < s.heap.objs.size := Heap.lt_size hz
    refine wpAny_pyNext_zipD3_item D (z_item k1 hh i1 a n1 its1.toArray) (z_item k2 hh i2 b n2 its2.toArray) (z_item k3 hh i3 c n3 its3.toArray) hz hTI hTO ⟨h1, p1⟩ ⟨h2, p2⟩ ⟨h3, p3⟩ hs1 hs2 hs3 fun t1 t2 t3 h' tk y1 y2 y3 z' TO' s1' s2' s3' hT hsz hk => ?_
    have et1 : t1 = v1 := by
      have q : its1.toArray[i]? = some v1 := by simpa using hv1
      have y : its1.toArray[i]? = some t1 := y1
      rw [q] at y
      exact (Option.some.inj y).symm
    subst et1
    have et2 : t2 = v2 := by
      have q : its2.toArray[i]? = some v2 := by simpa using hv2
      have y : its2.toArray[i]? = some t2 := y2
      rw [q] at y
      exact (Option.some.inj y).symm
    subst et2
    have et3 : t3 = v3 := by
      have q : its3.toArray[i]? = some v3 := by simpa using hv3
      have y : its3.toArray[i]? = some t3 := y3
      rw [q] at y
      exact (Option.some.inj y).symm
    subst et3
    refine ⟨_, rfl, wpAny_letOwnedTupleGo_zip (s := { s with heap := h', toks := tk }) z' fun h'' z'' sb => ?_⟩
    have hT2 : h''.get? s.heap.objs.size = some { cls := .type "tuple", data := .seq #[t1, t2, t3] } := (sb.2 _ (Nat.ne_of_gt hzl)).trans hT
    have new : ObjOk X.prog X.w (upd H s.heap.objs.size (.tup [x1, x2, x3])) h'' s.heap.objs.size (.tup [x1, x2, x3]) :=
      ⟨by show 3 ≤ sizeLine; decide, [t1, t2, t3], .cons ru1 (.cons ru2 (.cons ru3 .nil)), ⟨_, hT2, rfl, _, rfl⟩⟩
    have I1 : Inv X pins σ (upd H s.heap.objs.size (.tup [x1, x2, x3])) { s with heap := h'', toks := tk } :=
      I.turnedNew (t' := tk) (ch := [z, TI, TO, i1, i2, i3]) (fun c o hb q => (sb.2 c (fun q' => hb (by simp [q']))).trans (hk c o (fun q' => hb (by simp [q'])) (fun q' => hb (by simp [q'])) (fun q' => hb (by simp [q'])) (fun q' => hb (by simp [q'])) (fun q' => hb (by simp [q'])) q)) hf (Nat.le_refl _) new
    refine ⟨.ref s.heap.objs.size, _, I1, rfl, ⟨_, x1, x2, x3, rfl, I.hok.fresh (Nat.le_refl _), rfl, fun l hl => by rw [z_inj I hl hq1]; exact hx1, fun l hl => by rw [z_inj I hl hq2]; exact hx2, fun l hl => by rw [z_inj I hl hq3]; exact hx3⟩, ⟨z'', ?_, ⟨t1, t2, t3, ?_⟩, ?_, ?_, ?_⟩, fun c hcm => ?_⟩
    · exact (sb.2 _ D.TIz).trans (hk _ _ D.TIz D.TITO D.TIi1 D.TIi2 D.TIi3 hTI)
    · exact (sb.2 _ D.TOz).trans TO'
    · exact z_keep s1'.1 fun o q => (sb.2 _ (Ne.symm D.zi1)).trans q
    · exact z_keep s2'.1 fun o q => (sb.2 _ (Ne.symm D.zi2)).trans q
    · exact z_keep s3'.1 fun o q => (sb.2 _ (Ne.symm D.zi3)).trans q
    · have hlt : c < s.heap.objs.size := by
        have e' : c = z ∨ c = TI ∨ c = TO ∨ c = i1 ∨ c = i2 ∨ c = i3 := by simpa using hcm
        rcases e' with q | q | q | q | q | q
        · rw [q]; exact hzl
        · rw [q]; exact Heap.lt_size hTI
        · rw [q]; exact Heap.lt_size hTO
        · rw [q]; obtain ⟨_, e, _⟩ := z_live h1; exact Heap.lt_size e
        · rw [q]; obtain ⟨_, e, _⟩ := z_live h2; exact Heap.lt_size e
        · rw [q]; obtain ⟨_, e, _⟩ := z_live h3; exact Heap.lt_size e
      rw [upd_ne (Nat.ne_of_lt hlt)]
      exact (hf c hcm).1
  done := by
    intro X hP hw hK hc i pins s σ H E I hf st hg
    subst hP hw hK
    obtain ⟨hz, hTI, ⟨u1, u2, u3, hTO⟩, h1, h2, h3⟩ := st
    obtain ⟨xs1, xs2, xs3, hq1, hq2, hq3, hend⟩ := hg
    have hh : X.A.in1.handled = none := I.ok.hd hc
    obtain ⟨its1, rv1, p1, _⟩ := z_inv I hq1
    have l1 := rv1.length
    obtain ⟨m1, Q1, S1, d1, e1, le1, en1⟩ := z_draws (prog := X.prog) (w := X.w) k1 hh i1 a n1 its1.toArray i
    obtain ⟨its2, rv2, p2, _⟩ := z_inv I hq2
    have l2 := rv2.length
    obtain ⟨m2, Q2, S2, d2, e2, le2, en2⟩ := z_draws (prog := X.prog) (w := X.w) k2 hh i2 b n2 its2.toArray i
    obtain ⟨its3, rv3, p3, _⟩ := z_inv I hq3
    have l3 := rv3.length
    obtain ⟨m3, Q3, S3, d3, e3, le3, en3⟩ := z_draws (prog := X.prog) (w := X.w) k3 hh i3 c n3 its3.toArray i
    have he : i = m1 ∨ i = m2 ∨ i = m3 := by
      rcases hend with q | q | q
      · exact .inl (en1 (by simp; omega))
      · exact .inr (.inl (en2 (by simp; omega)))
      · exact .inr (.inr (en3 (by simp; omega)))
    exact wpAny_pyNext_zipD3_end D d1 d2 d3 hz hTI hTO (e1 _ h1 p1) (e2 _ h2 p2) (e3 _ h3 p3) le1 le2 le3 he fun h' tk hk => ⟨rfl, I.turnedL (t' := tk) (ch := [z, TI, TO, i1, i2, i3]) (fun c o hb q =>
      hk c o (fun q' => hb (by simp [q'])) (fun q' => hb (by simp [q'])) (fun q' => hb (by simp [q'])) (fun q' => hb (by simp [q'])) (fun q' => hb (by simp [q'])) q) hf⟩
  self := fun A i s Q E st h => wpAny_pyIter_zip st.1 h
def iZipM3 (K : PySem.W.Frag) (ta : TA) : TI := fun σ H R => ta σ H fun vs H1 => ∃ (k1 k2 k3 : Zk) (a b c : Addr) (xs1 xs2 xs3 : List V), vs = [.ref a, .ref b, .ref c] ∧ zSrc K k1 H1 a xs1 ∧ zSrc K k2 H1 b xs2 ∧ zSrc K k3 H1 c xs3 ∧ R (ItzM3 K k1 k2 k3 a b c) H1
theorem pi_zipM3 {X : Cx} {e e2 e3 : Expr} {ta : TA} {p pos tpos : Pos} {elts : List Expr} {kk : Nat} (hg : Gl X "zip") (hm : X.mg "zip" = none) (ha : PA X [e, e2, e3] ta)
    (hs : starEach [e, e2, e3] X.env = (false, eval e X.env) :: starEach [e2, e3] X.env := by rfl) (hpl : (backTo pos (starEach [e2, e3] X.env)).any (·.1) = false := by rfl) :
    PI X (.Tuple elts kk tpos) (.Call (.Name "zip" p) [e, e2, e3] [] pos) (iZipM3 X.K ta) := by
  refine ⟨fun pins s σ H R I h => ?_⟩
  refine Call_ (ld_blt I hg hm PyProof.Rows.boot_zip (PyProof.Rows.callWith_type1 (thn (ha.run pos pins s σ H _ I h) fun us s1 ⟨vs, H1, I1, r1, q1⟩ => ?_) hs hpl))
  obtain ⟨k1, k2, k3, a, b, c, xs1, xs2, xs3, ex, hq1, hq2, hq3, q⟩ := q1
  subst ex
  cases r1 with
  | cons r r1 =>
    cases r
    cases r1 with
    | cons r r1 =>
      cases r
      cases r1 with
      | cons r r1 =>
        cases r
        cases r1
        have fresh5 : ∀ c, c ∈ [s1.heap.objs.size + 5, s1.heap.objs.size + 3, s1.heap.objs.size + 4, s1.heap.objs.size, s1.heap.objs.size + 1, s1.heap.objs.size + 2] → FpOk X pins H1 c := fun c hcm => by
          have e' : c = s1.heap.objs.size + 5 ∨ c = s1.heap.objs.size + 3 ∨ c = s1.heap.objs.size + 4 ∨ c = s1.heap.objs.size ∨ c = s1.heap.objs.size + 1 ∨ c = s1.heap.objs.size + 2 := by simpa using hcm
          have hle : s1.heap.objs.size ≤ c := by omega
          exact I1.fpOk hle (I1.hok.fresh hle)
        obtain ⟨its1, rv1, p1, a1⟩ := z_inv I1 hq1
        obtain ⟨its2, rv2, p2, a2⟩ := z_inv I1 hq2
        obtain ⟨its3, rv3, p3, a3⟩ := z_inv I1 hq3
        refine zip_begins3 (z_begins k1 a its1.toArray) (z_begins k2 b its2.toArray) (z_begins k3 c its3.toArray) p1 p2 p3 fun h' hz hTI hTO g1 g2 g3 hsz hk => wpAny_pyIter_zip hz ?_
        have I2 : Inv X pins σ H1 { s1 with heap := h' } := I1.kept (t' := s1.toks) hk
        have SP : ZipSep3 (s1.heap.objs.size + 5) (s1.heap.objs.size + 3) (s1.heap.objs.size + 4) (s1.heap.objs.size) (s1.heap.objs.size + 1) (s1.heap.objs.size + 2) [s1.heap.objs.size, a] [s1.heap.objs.size + 1, b] [s1.heap.objs.size + 2, c] := by
          constructor <;> first | exact List.mem_cons_self | exact zadd0 (by decide) | exact Ne.symm (zadd0 (by decide)) | exact zadd (by decide) | exact Ne.symm (zadd (by decide)) | (refine zmem ?_ ?_ <;> first | exact zadd0 (by decide) | exact Ne.symm (zadd0 (by decide)) | exact zadd (by decide) | exact Ne.symm (zadd (by decide)) | exact zlow a1 | exact zlow a2 | exact zlow0 a1 | exact zlow0 a2 | exact zlow a3 | exact zlow0 a3)
        exact ⟨s1.heap.objs.size + 5, [s1.heap.objs.size + 5, s1.heap.objs.size + 3, s1.heap.objs.size + 4, s1.heap.objs.size, s1.heap.objs.size + 1, s1.heap.objs.size + 2], _, _, H1, rfl, I2, turn_zipM3 SP (by first | exact Ne.symm (zlow0 a1) | exact Ne.symm (zlow a1)) (by first | exact Ne.symm (zlow0 a2) | exact Ne.symm (zlow a2)) (by first | exact Ne.symm (zlow0 a3) | exact Ne.symm (zlow a3)), ⟨hz, hTI, ⟨_, _, _, hTO⟩, z_start g1, z_start g2, z_start g3⟩, fresh5, q⟩
end Ro
end
section
set_option Elab.async false
set_option linter.all false
set_option maxRecDepth 100000
set_option maxHeartbeats 4000000
namespace Ro
open PySem PySem.Spec PyProof.Rows L2
variable {T : Tb} {E : XK} {X : Cx} {a b c : Expr} {fa : AX}
def seqL : D → Option (List D)
  | .lst l => some l
  | .tup l => some l
  | _ => none
def zip3L : List D → List D → List D → List D
  | x :: l, y :: m, z :: n => .tup [x, y, z] :: zip3L l m n
  | _, _, _ => []
theorem zip3L_get : ∀ (l m n : List D) (i : Nat), (zip3L l m n)[i]? = (match l[i]?, m[i]?, n[i]? with
    | some x, some y, some z => some (.tup [x, y, z])
    | _, _, _ => none)
  | [], m, n, i => by simp [zip3L]
  | x :: l, [], n, i => by simp [zip3L]
  | x :: l, y :: m, [], i => by
    simp [zip3L]
  | x :: l, y :: m, z :: n, 0 => by simp [zip3L]
  | x :: l, y :: m, z :: n, i + 1 => by simpa [zip3L] using zip3L_get l m n i
theorem zip3L_len : ∀ (l m n : List D), (zip3L l m n).length = min l.length (min m.length n.length)
  | [], m, n => by simp [zip3L]
  | x :: l, [], n => by simp [zip3L]
  | x :: l, y :: m, [] => by simp [zip3L]
  | x :: l, y :: m, z :: n => by
    have := zip3L_len l m n
    simp only [zip3L, List.length_cons, this]
    omega
theorem zsrc_le {K : PySem.W.Frag} {w w' : Wd} (h : w.sb w') {k : Zk} {p : Addr} {xs : List V} (r : zSrc K k w.G p xs) : zSrc K k w'.G p xs := by
  cases k
  · exact sql_le h r
  · exact sqt_le h r
theorem zsrc_sub {w : Wd} {S : Store} {H : Hp} (r : WR T w S H) {k : Zk} {p : Addr} {xs : List V} (h : zSrc T.K k w.G p xs) : zSrc T.K k H p xs := by
  cases k
  · exact sql_sub r h
  · exact sqt_sub r h
theorem zsrc_of {w : Wd} {d : D} {v : V} {l : List D} (h : seqL d = some l) (r : Rep T w d v) : ∃ (k : Zk) (p : Addr) (vs : List V), v = .ref p ∧ zSrc T.K k w.G p vs ∧ Reps T w l vs := by
  cases r with
  | tup q1 q2 => cases h; exact ⟨.t, _, _, rfl, q1, q2⟩
  | lst q1 q2 => cases h; exact ⟨.l, _, _, rfl, .inl (.inl q1), q2⟩
  | _ => cases h
theorem itR_zipM3 {w : Wd} {l m n : List D} {k1 k2 k3 : Zk} {p q o : Addr} {vs us ts : List V} (h1 : zSrc T.K k1 w.G p vs) (r1 : Reps T w l vs) (h2 : zSrc T.K k2 w.G q us) (r2 : Reps T w m us) (h3 : zSrc T.K k3 w.G o ts) (r3 : Reps T w n ts) : ItR T w (zip3L l m n) (ItzM3 T.K k1 k2 k3 p q o) where
  goS := fun i H w' S l1 r hi => by
    rw [zip3L_len] at hi
    obtain ⟨x, e1, _⟩ := r1.get (List.getElem?_eq_getElem (show i < l.length by omega))
    obtain ⟨y, e2, _⟩ := r2.get (List.getElem?_eq_getElem (show i < m.length by omega))
    obtain ⟨z, e3, _⟩ := r3.get (List.getElem?_eq_getElem (show i < n.length by omega))
    exact ⟨vs, us, ts, x, y, z, zsrc_sub r (zsrc_le l1 h1), zsrc_sub r (zsrc_le l1 h2), zsrc_sub r (zsrc_le l1 h3), e1, e2, e3⟩
  stopS := fun i H w' S l1 r hi => by
    rw [zip3L_len, r1.length, r2.length, r3.length] at hi
    exact ⟨vs, us, ts, zsrc_sub r (zsrc_le l1 h1), zsrc_sub r (zsrc_le l1 h2), zsrc_sub r (zsrc_le l1 h3), by omega⟩
  yldS := fun i H v H' w' S d l1 r hd y => by
    obtain ⟨A, x, z, u, rfl, hA, rfl, k1, k2, k3⟩ := y
    rw [zip3L_get] at hd
    have e1 := k1 vs (zsrc_sub r (zsrc_le l1 h1))
    have e2 := k2 us (zsrc_sub r (zsrc_le l1 h2))
    have e3 := k3 ts (zsrc_sub r (zsrc_le l1 h3))
    cases y1 : l[i]? with
    | none => rw [y1] at hd; cases hd
    | some d1 =>
      rw [y1] at hd
      cases y2 : m[i]? with
      | none => rw [y2] at hd; cases hd
      | some d2 =>
        rw [y2] at hd
        cases y3 : n[i]? with
        | none => rw [y3] at hd; cases hd
        | some d3 =>
          rw [y3] at hd
          cases hd
          obtain ⟨x', g1, g2⟩ := r1.get y1
          obtain ⟨z', g3, g4⟩ := r2.get y2
          obtain ⟨u', g5, g6⟩ := r3.get y3
          rw [e1] at g1; cases g1
          rw [e2] at g3; cases g3
          rw [e3] at g5; cases g5
          obtain ⟨l2, r2'⟩ := r.new hA (.tup [x, z, u])
          exact ⟨_, l2, r2', .tup (.inl (.inl upd_same)) (.cons ((g2.monoS l1).mono l2) (.cons ((g4.monoS l1).mono l2) (.cons ((g6.monoS l1).mono l2) .nil)))⟩
def itZipM2 (fa : AX) : AX := fun env S => (fa env S).bnd fun ds S1 => match ds with
  | [x, y] => (match seqL x, seqL y with
    | some l, some m => .ok (zipL l m) S1
    | _, _ => .bad)
  | _ => .bad
def itZipM3 (fa : AX) : AX := fun env S => (fa env S).bnd fun ds S1 => match ds with
  | [x, y, z] => (match seqL x, seqL y, seqL z with
    | some l, some m, some n => .ok (zip3L l m n) S1
    | _, _, _ => .bad)
  | _ => .bad
theorem ii_zipM3 {p tpos : Pos} {elts : List Expr} {kk : Nat} (hK : X.K = T.K) (hg : Gl X "zip") (hm : X.mg "zip" = none) (ha : IA T E X [a, b, c] fa)
    (hs : starEach [a, b, c] X.env = (false, eval a X.env) :: starEach [b, c] X.env := by rfl) (hpl : (backTo pos (starEach [b, c] X.env)).any (·.1) = false := by rfl) : II T E X (.Tuple elts kk tpos) (.Call (.Name "zip" p) [a, b, c] [] pos) (itZipM3 fa) :=
  PI.mono (pi_zipM3 hg hm ha hs hpl) fun σ H R ⟨w, env, S, r, e, q⟩ => ⟨w, env, S, r, e, (RP.bnd q).mono (fun ds S1 h1 w1 H1 vs l1 r1 p1 => by
    split at h1
    · cases p1 with
      | cons p2 p1 =>
      cases p1 with
      | cons p3 p1 =>
      cases p1 with
      | cons p4 p1 =>
      cases p1
      split at h1
      · rename_i e1 e2 e3
        obtain ⟨k1, a1, vs1, rfl, z1, y1⟩ := zsrc_of e1 p2
        obtain ⟨k2, a2, vs2, rfl, z2, y2⟩ := zsrc_of e2 p3
        obtain ⟨k3, a3, vs3, rfl, z3, y3⟩ := zsrc_of e3 p4
        refine ⟨k1, k2, k3, a1, a2, a3, vs1, vs2, vs3, rfl, by rw [hK]; exact zsrc_sub r1 z1, by rw [hK]; exact zsrc_sub r1 z2, by rw [hK]; exact zsrc_sub r1 z3, ?_⟩
        rw [hK]
        exact h1 w1 H1 _ l1 r1 (itR_zipM3 z1 y1 z2 y2 z3 y3)
      · exact (show False from h1).elim
    · exact (show False from h1).elim) fun _ _ _ x => x⟩
@[simp] theorem u_itZipM2 (fa : AX) {env : Env} {S : Store} : itZipM2 fa env S = (fa env S).bnd fun ds S1 => match ds with
  | [x, y] => (match seqL x, seqL y with
    | some l, some m => .ok (zipL l m) S1
    | _, _ => .bad)
  | _ => .bad := rfl
@[simp] theorem u_itZipM3 (fa : AX) {env : Env} {S : Store} : itZipM3 fa env S = (fa env S).bnd fun ds S1 => match ds with
  | [x, y, z] => (match seqL x, seqL y, seqL z with
    | some l, some m, some n => .ok (zip3L l m n) S1
    | _, _, _ => .bad)
  | _ => .bad := rfl
@[simp] theorem seqL_lst (l : List D) : seqL (.lst l) = some l := rfl
@[simp] theorem seqL_tup (l : List D) : seqL (.tup l) = some l := rfl
end Ro
end
section
set_option Elab.async false
set_option linter.all false
set_option maxRecDepth 100000
set_option maxHeartbeats 4000000
namespace GQ
open PySem PySem.SeqAt
open AutoSeq1 (wpAny_loadPart')
open MeetsSeq MeetsSeq2 MeetsSeq3 SeqRoads2
section
variable {prog : Program} {w : World} {A : Around} {R : Result → Shared → Prop} {E : Value → Shared → Prop}
/-- two lists of N items lie there -/
def TwoL (l b : Addr) (N : Nat) (s : Shared) (items items2 : Array Value) : Prop := ∃ n n2 : Nat, s.heap.get? l = some { cls := .type "list", data := .seq items n } ∧ s.heap.get? b = some { cls := .type "list", data := .seq items2 n2 } ∧ items.size = N ∧ items2.size = N
def ListJ (prog : Program) (w : World) (A : Around) (E : Value → Shared → Prop) (l b : Addr) (N : Nat) (I : Nat → Shared → Prop) (Fl : Shared → Prop) : Prop :=
  ∀ i s, I i s → ∃ (items items2 : Array Value), TwoL l b N s items items2 ∧
    ∀ (h1 : i < items.size) (h2 : i < items2.size), wpAny (model prog w) A.in1 (eqBool items[i] items2[i]) (fun r s' => (r = true ∧ I (i + 1) s') ∨ (r = false ∧ Fl s' ∧ ∃ xs ys, TwoL l b N s' xs ys)) E s
theorem eq_loopJ (l b : Addr) (N : Nat) (I : Nat → Shared → Prop) (Fl : Shared → Prop) (hl : ListJ prog w A (fun e s' => R (.error e) s') l b N I Fl)
    (fin : ∀ s, I N s → R (.ok (.ret (.bool true))) s) (finF : ∀ s, Fl s → R (.ok (.ret (.bool false))) s) (k : Nat) :
    ∀ i : Nat, N - i = k → i ≤ N → ∀ s, I i s →
      wpAny (model prog w) A.in1 (Builtin.«list.__eq__.loop» ⟨[.ref l, .ref b, rawInt i, rawInt 2], []⟩) (FinOf prog w A R) (fun e s' => R (.error e) s') s := by
  induction k with
  | zero =>
    intro i hk hi s h
    obtain ⟨items, items2, ⟨n, n2, hl1, hb1, hs1, hs2⟩, _⟩ := hl _ _ h
    have hi' : i = N := by omega
    have hR : R (.ok (.ret (.bool true))) s := fin s (hi' ▸ h)
    obtain ⟨hp, g, d, tk, os⟩ := s
    wp_walk using wpAny_loadPart' hl1, wpAny_loadPart' hb1
    have hi1 : items[((i : Nat) : Int).toNat]? = none := by simp; omega
    have hi2 : items2[((i : Nat) : Int).toNat]? = none := by simp; omega
    rw [hi1, hi2]
    wp_walk using wpAny_loadPart' hl1, wpAny_loadPart' hb1
    show R (.ok (.ret (.bool (items.size == items2.size)))) _
    rw [hs1, hs2]
    simpa using hR
  | succ k ih =>
    intro i hk hi s h
    obtain ⟨items, items2, ⟨n, n2, hl1, hb1, hs1, hs2⟩, turn⟩ := hl _ _ h
    have hlt : i < items.size := by omega
    have hlt2 : i < items2.size := by omega
    have ht := turn hlt hlt2
    obtain ⟨hp, g, d, tk, os⟩ := s
    wp_walk using wpAny_loadPart' hl1, wpAny_loadPart' hb1
    have hi1 : items[((i : Nat) : Int).toNat]? = some items[i] := by simp [hlt]
    have hi2 : items2[((i : Nat) : Int).toNat]? = some items2[i] := by simp [hlt2]
    have hc : ((i : Int) + 1) = ((i + 1 : Nat) : Int) := by omega
    rw [hi1, hi2]
    refine wpAny_bind (wpAny_mono ht (fun r s2 h2 => ?_) fun _ _ x => x)
    rcases h2 with ⟨hr, h2⟩ | ⟨hr, hF, xs, ys, m, m2, hl2, hb2, hs3, hs4⟩
    · subst hr
      have hrec := ih (i + 1) (by omega) (by omega) s2 h2
      obtain ⟨hp2, g2, d2, tk2, os2⟩ := s2
      wp_walk
      rw [hc]
      exact ⟨plainId_quiet plain_eq_loop _, codeAny_builtin entry_eq_loop (by
        rw [Around.under_plainId plain_eq_loop _]
        exact hrec)⟩
    · subst hr
      have hR : R (.ok (.ret (.bool false))) s2 := finF s2 hF
      obtain ⟨hp2, g2, d2, tk2, os2⟩ := s2
      have hj : i < xs.size := by omega
      have hj2 : i < ys.size := by omega
      have hi3 : xs[((i : Nat) : Int).toNat]? = some xs[i] := by simp [hj]
      have hi4 : ys[((i : Nat) : Int).toNat]? = some ys[i] := by simp [hj2]
      wp_walk using wpAny_loadPart' hl2, wpAny_loadPart' hb2
      rw [hi3, hi4]
      wp_walk
      exact hR
theorem list_eqJ (l b : Addr) (N : Nat) (I : Nat → Shared → Prop) (Fl : Shared → Prop) (hl : ListJ prog w A (fun e s' => R (.error e) s') l b N I Fl)
    (fin : ∀ s, I N s → R (.ok (.ret (.bool true))) s) (finF : ∀ s, Fl s → R (.ok (.ret (.bool false))) s) {s : Shared} (h : I 0 s) :
    wpAny (model prog w) A.in1 (Builtin.«list.__eq__» ⟨[.ref l, .ref b], []⟩) (FinOf prog w A R) (fun e s' => R (.error e) s') s := by
  obtain ⟨items, items2, ⟨n, n2, hl1, hb1, hs1, hs2⟩, _⟩ := hl _ _ h
  have hrec := eq_loopJ (A := A) (R := R) l b N I Fl hl fin finF _ 0 rfl (Nat.zero_le _) s h
  obtain ⟨hp, g, d, tk, os⟩ := s
  have f3 := AutoSeq1.sub_list_list
  have hne : ¬ (items.size != items2.size) = true := by simp [hs1, hs2]
  wp_walk using wpAny_loadPart' hl1, wpAny_loadPart' hb1
  exact ⟨plainId_quiet plain_eq_loop _, codeAny_builtin entry_eq_loop (by
    rw [Around.under_plainId plain_eq_loop _]
    exact hrec)⟩
theorem rc_list_eqJ {l b : Addr} {N : Nat} {Q : Value → Shared → Prop} {s : Shared} (hu : A.units < cLine) (I : Nat → Shared → Prop) (Fl : Shared → Prop) (hl : ListJ prog w A E l b N I Fl)
    (fin : ∀ s, I N s → Q (.bool true) s) (finF : ∀ s, Fl s → Q (.bool false) s) (h : I 0 s) : wpAny (model prog w) A (richCompare .Eq (.ref l) (.ref b)) Q E s := by
  obtain ⟨items, items2, ⟨n, n2, hl1, hb1, _, _⟩, _⟩ := hl _ _ h
  refine wpAny_richCompare_same_room (op := .Eq) ⟨_, hl1, rfl⟩ ⟨_, hb1, rfl⟩ F.slot_list_eq (call_here F.slot_list_eq ⟨_, hl1, rfl⟩ F.entry_list_eq (F.args_list_eq_2 _ _) ?_) hu
  exact list_eqJ (R := wants (fun v s' => v ≠ .notImplemented ∧ Q v s') E) l b N I Fl hl (fun s' q => ⟨(fun x => nomatch x), fin s' q⟩) (fun s' q => ⟨(fun x => nomatch x), finF s' q⟩) h
theorem ne_loopJ (l b : Addr) (N : Nat) (I : Nat → Shared → Prop) (Fl : Shared → Prop) (hl : ListJ prog w A (fun e s' => R (.error e) s') l b N I Fl)
    (fin : ∀ s, I N s → R (.ok (.ret (.bool false))) s) (finF : ∀ s, Fl s → R (.ok (.ret (.bool true))) s) (k : Nat) :
    ∀ i : Nat, N - i = k → i ≤ N → ∀ s, I i s →
      wpAny (model prog w) A.in1 (Builtin.«list.__eq__.loop» ⟨[.ref l, .ref b, rawInt i, rawInt 3], []⟩) (FinOf prog w A R) (fun e s' => R (.error e) s') s := by
  induction k with
  | zero =>
    intro i hk hi s h
    obtain ⟨items, items2, ⟨n, n2, hl1, hb1, hs1, hs2⟩, _⟩ := hl _ _ h
    have hi' : i = N := by omega
    have hR : R (.ok (.ret (.bool false))) s := fin s (hi' ▸ h)
    obtain ⟨hp, g, d, tk, os⟩ := s
    wp_walk using wpAny_loadPart' hl1, wpAny_loadPart' hb1
    have hi1 : items[((i : Nat) : Int).toNat]? = none := by simp; omega
    have hi2 : items2[((i : Nat) : Int).toNat]? = none := by simp; omega
    rw [hi1, hi2]
    wp_walk using wpAny_loadPart' hl1, wpAny_loadPart' hb1
    show R (.ok (.ret (.bool (items.size != items2.size)))) _
    rw [hs1, hs2]
    simpa using hR
  | succ k ih =>
    intro i hk hi s h
    obtain ⟨items, items2, ⟨n, n2, hl1, hb1, hs1, hs2⟩, turn⟩ := hl _ _ h
    have hlt : i < items.size := by omega
    have hlt2 : i < items2.size := by omega
    have ht := turn hlt hlt2
    obtain ⟨hp, g, d, tk, os⟩ := s
    wp_walk using wpAny_loadPart' hl1, wpAny_loadPart' hb1
    have hi1 : items[((i : Nat) : Int).toNat]? = some items[i] := by simp [hlt]
    have hi2 : items2[((i : Nat) : Int).toNat]? = some items2[i] := by simp [hlt2]
    have hc : ((i : Int) + 1) = ((i + 1 : Nat) : Int) := by omega
    rw [hi1, hi2]
    refine wpAny_bind (wpAny_mono ht (fun r s2 h2 => ?_) fun _ _ x => x)
    rcases h2 with ⟨hr, h2⟩ | ⟨hr, hF, xs, ys, m, m2, hl2, hb2, hs3, hs4⟩
    · subst hr
      have hrec := ih (i + 1) (by omega) (by omega) s2 h2
      obtain ⟨hp2, g2, d2, tk2, os2⟩ := s2
      wp_walk
      rw [hc]
      exact ⟨plainId_quiet plain_eq_loop _, codeAny_builtin entry_eq_loop (by
        rw [Around.under_plainId plain_eq_loop _]
        exact hrec)⟩
    · subst hr
      have hR : R (.ok (.ret (.bool true))) s2 := finF s2 hF
      obtain ⟨hp2, g2, d2, tk2, os2⟩ := s2
      have hj : i < xs.size := by omega
      have hj2 : i < ys.size := by omega
      have hi3 : xs[((i : Nat) : Int).toNat]? = some xs[i] := by simp [hj]
      have hi4 : ys[((i : Nat) : Int).toNat]? = some ys[i] := by simp [hj2]
      wp_walk using wpAny_loadPart' hl2, wpAny_loadPart' hb2
      rw [hi3, hi4]
      wp_walk
      exact hR
theorem list_neJ (l b : Addr) (N : Nat) (I : Nat → Shared → Prop) (Fl : Shared → Prop) (hl : ListJ prog w A (fun e s' => R (.error e) s') l b N I Fl)
    (fin : ∀ s, I N s → R (.ok (.ret (.bool false))) s) (finF : ∀ s, Fl s → R (.ok (.ret (.bool true))) s) {s : Shared} (h : I 0 s) :
    wpAny (model prog w) A.in1 (Builtin.«list.__ne__» ⟨[.ref l, .ref b], []⟩) (FinOf prog w A R) (fun e s' => R (.error e) s') s := by
  obtain ⟨items, items2, ⟨n, n2, hl1, hb1, hs1, hs2⟩, _⟩ := hl _ _ h
  have hrec := ne_loopJ (A := A) (R := R) l b N I Fl hl fin finF _ 0 rfl (Nat.zero_le _) s h
  obtain ⟨hp, g, d, tk, os⟩ := s
  have f3 := AutoSeq1.sub_list_list
  have hne : ¬ (items.size != items2.size) = true := by simp [hs1, hs2]
  wp_walk using wpAny_loadPart' hl1, wpAny_loadPart' hb1
  exact ⟨plainId_quiet plain_eq_loop _, codeAny_builtin entry_eq_loop (by
    rw [Around.under_plainId plain_eq_loop _]
    exact hrec)⟩
theorem rc_list_neJ {l b : Addr} {N : Nat} {Q : Value → Shared → Prop} {s : Shared} (hu : A.units < cLine) (I : Nat → Shared → Prop) (Fl : Shared → Prop) (hl : ListJ prog w A E l b N I Fl)
    (fin : ∀ s, I N s → Q (.bool false) s) (finF : ∀ s, Fl s → Q (.bool true) s) (h : I 0 s) : wpAny (model prog w) A (richCompare .NotEq (.ref l) (.ref b)) Q E s := by
  obtain ⟨items, items2, ⟨n, n2, hl1, hb1, _, _⟩, _⟩ := hl _ _ h
  refine wpAny_richCompare_same_room (op := .NotEq) ⟨_, hl1, rfl⟩ ⟨_, hb1, rfl⟩ F.slot_list_ne (call_here F.slot_list_ne ⟨_, hl1, rfl⟩ F.entry_list_ne (F.args_list_ne_2 _ _) ?_) hu
  exact list_neJ (R := wants (fun v s' => v ≠ .notImplemented ∧ Q v s') E) l b N I Fl hl (fun s' q => ⟨(fun x => nomatch x), fin s' q⟩) (fun s' q => ⟨(fun x => nomatch x), finF s' q⟩) h
theorem tuple_eqJ (l b : Addr) (items items2 : Array Value) (n n2 : Nat) (dd dd2 : Option Addr) (sl sl2 : Array (Option Value)) (I : Nat → Shared → Prop) (Fl : Shared → Prop)
    (turn : ∀ i (h1 : i < items.size) (h2 : i < items2.size) s, I i s → wpAny (model prog w) A.in1 (eqBool items[i] items2[i]) (fun r s' => (r = true ∧ I (i + 1) s') ∨ (r = false ∧ Fl s')) (fun e s' => R (.error e) s') s)
    (fin : ∀ s, I (min items.size items2.size) s → R (.ok (.ret (.bool (items.size == items2.size)))) s) (finF : ∀ s, Fl s → R (.ok (.ret (.bool false))) s) {s : Shared} (hl1 : s.heap.get? l = some { cls := .type "tuple", dict := dd, data := .seq items n, slots := sl }) (hb1 : s.heap.get? b = some { cls := .type "tuple", dict := dd2, data := .seq items2 n2, slots := sl2 }) (h : I 0 s) :
    wpAny (model prog w) A.in1 (Builtin.«tuple.__eq__» ⟨[.ref l, .ref b], []⟩) (FinOf prog w A R) (fun e s' => R (.error e) s') s := by
  have f2 := AutoSeq1.sub_tuple_tuple
  have hZ : (items.toList.zip items2.toList).length = min items.size items2.size := by simp
  have h0 := h
  obtain ⟨hp, g, d, tk, os⟩ := s
  wp_walk using wpAny_loadPart' hl1, wpAny_loadPart' hb1, wpAny_forIn_list _ (fun rest b s' => b.1 = none ∧ ∃ i, rest = (items.toList.zip items2.toList).drop i ∧ i ≤ min items.size items2.size ∧ I i s') _
  case turn =>
    rintro ⟨y, x⟩ rest b s' ⟨hb', i, hz, hi, hI⟩
    have hlt : i < (items.toList.zip items2.toList).length := by
      rcases Nat.lt_or_ge i (items.toList.zip items2.toList).length with h' | h'
      · exact h'
      · rw [List.drop_of_length_le h'] at hz; cases hz
    have h1 : i < items.size := by omega
    have h2 : i < items2.size := by omega
    rw [List.drop_eq_getElem_cons hlt] at hz
    injection hz with hyx hrest
    have hy : y = items[i] := by have := congrArg Prod.fst hyx; simpa using this
    have hx : x = items2[i] := by have := congrArg Prod.snd hyx; simpa using this
    subst hy hx
    refine wpAny_bind (wpAny_mono (turn i h1 h2 s' hI) (fun r s2 q2 => ?_) fun _ _ x => x)
    rcases q2 with ⟨hr, q2⟩ | ⟨hr, q2⟩
    · subst hr
      wp_walk
      exact ⟨rfl, i + 1, hrest, by omega, q2⟩
    · subst hr
      wp_walk
      exact finF s2 q2
  case fin =>
    rintro ⟨b1, b2⟩ s' ⟨hb', i, hz, hi, hI⟩
    simp only at hb'
    subst hb'
    have hge : min items.size items2.size ≤ i := by
      rcases Nat.lt_or_ge i (items.toList.zip items2.toList).length with h' | h'
      · rw [List.drop_eq_getElem_cons h'] at hz; cases hz
      · exact hZ ▸ h'
    have hi' : i = min items.size items2.size := by omega
    have hR : R (.ok (.ret (.bool (items.size == items2.size)))) s' := fin s' (hi' ▸ hI)
    wp_walk
    simpa [Builtin.Tuple.tupleCompareSizes] using hR
  case h =>
    exact ⟨rfl, 0, rfl, Nat.zero_le _, h0⟩
theorem rc_tup_eqJ {l b : Addr} {items items2 : Array Value} {Q : Value → Shared → Prop} {s : Shared} (hu : A.units < cLine) (I : Nat → Shared → Prop) (Fl : Shared → Prop)
    (hl : s.heap.IsTuple l items) (hb : s.heap.IsTuple b items2)
    (turn : ∀ i (h1 : i < items.size) (h2 : i < items2.size) s, I i s → wpAny (model prog w) A.in1 (eqBool items[i] items2[i]) (fun r s' => (r = true ∧ I (i + 1) s') ∨ (r = false ∧ Fl s')) E s)
    (fin : ∀ s, I (min items.size items2.size) s → Q (.bool (items.size == items2.size)) s) (finF : ∀ s, Fl s → Q (.bool false) s) (h : I 0 s) : wpAny (model prog w) A (richCompare .Eq (.ref l) (.ref b)) Q E s := by
  obtain ⟨⟨cls, dd, data, sl⟩, ho, hc, n, hd⟩ := id hl
  obtain ⟨⟨cls2, dd2, data2, sl2⟩, ho2, hc2, n2, hd2⟩ := id hb
  simp only at hc hd hc2 hd2
  subst hc hd hc2 hd2
  refine wpAny_richCompare_same_room (op := .Eq) ⟨_, ho, rfl⟩ ⟨_, ho2, rfl⟩ F.slot_tuple_eq (call_here F.slot_tuple_eq ⟨_, ho, rfl⟩ F.entry_tuple_eq (F.args_tuple_eq_2 _ _) ?_) hu
  exact tuple_eqJ (R := wants (fun v s' => v ≠ .notImplemented ∧ Q v s') E) l b items items2 n n2 dd dd2 sl sl2 I Fl turn (fun s' q => ⟨(fun x => nomatch x), fin s' q⟩) (fun s' q => ⟨(fun x => nomatch x), finF s' q⟩) ho ho2 h
theorem tuple_neJ (l b : Addr) (items items2 : Array Value) (n n2 : Nat) (dd dd2 : Option Addr) (sl sl2 : Array (Option Value)) (I : Nat → Shared → Prop) (Fl : Shared → Prop)
    (turn : ∀ i (h1 : i < items.size) (h2 : i < items2.size) s, I i s → wpAny (model prog w) A.in1 (eqBool items[i] items2[i]) (fun r s' => (r = true ∧ I (i + 1) s') ∨ (r = false ∧ Fl s')) (fun e s' => R (.error e) s') s)
    (fin : ∀ s, I (min items.size items2.size) s → R (.ok (.ret (.bool (items.size != items2.size)))) s) (finF : ∀ s, Fl s → R (.ok (.ret (.bool true))) s) {s : Shared} (hl1 : s.heap.get? l = some { cls := .type "tuple", dict := dd, data := .seq items n, slots := sl }) (hb1 : s.heap.get? b = some { cls := .type "tuple", dict := dd2, data := .seq items2 n2, slots := sl2 }) (h : I 0 s) :
    wpAny (model prog w) A.in1 (Builtin.«tuple.__ne__» ⟨[.ref l, .ref b], []⟩) (FinOf prog w A R) (fun e s' => R (.error e) s') s := by
  have f2 := AutoSeq1.sub_tuple_tuple
  have hZ : (items.toList.zip items2.toList).length = min items.size items2.size := by simp
  have h0 := h
  obtain ⟨hp, g, d, tk, os⟩ := s
  wp_walk using wpAny_loadPart' hl1, wpAny_loadPart' hb1, wpAny_forIn_list _ (fun rest b s' => b.1 = none ∧ ∃ i, rest = (items.toList.zip items2.toList).drop i ∧ i ≤ min items.size items2.size ∧ I i s') _
  case turn =>
    rintro ⟨y, x⟩ rest b s' ⟨hb', i, hz, hi, hI⟩
    have hlt : i < (items.toList.zip items2.toList).length := by
      rcases Nat.lt_or_ge i (items.toList.zip items2.toList).length with h' | h'
      · exact h'
      · rw [List.drop_of_length_le h'] at hz; cases hz
    have h1 : i < items.size := by omega
    have h2 : i < items2.size := by omega
    rw [List.drop_eq_getElem_cons hlt] at hz
    injection hz with hyx hrest
    have hy : y = items[i] := by have := congrArg Prod.fst hyx; simpa using this
    have hx : x = items2[i] := by have := congrArg Prod.snd hyx; simpa using this
    subst hy hx
    refine wpAny_bind (wpAny_mono (turn i h1 h2 s' hI) (fun r s2 q2 => ?_) fun _ _ x => x)
    rcases q2 with ⟨hr, q2⟩ | ⟨hr, q2⟩
    · subst hr
      wp_walk
      exact ⟨rfl, i + 1, hrest, by omega, q2⟩
    · subst hr
      wp_walk
      exact finF s2 q2
  case fin =>
    rintro ⟨b1, b2⟩ s' ⟨hb', i, hz, hi, hI⟩
    simp only at hb'
    subst hb'
    have hge : min items.size items2.size ≤ i := by
      rcases Nat.lt_or_ge i (items.toList.zip items2.toList).length with h' | h'
      · rw [List.drop_eq_getElem_cons h'] at hz; cases hz
      · exact hZ ▸ h'
    have hi' : i = min items.size items2.size := by omega
    have hR : R (.ok (.ret (.bool (items.size != items2.size)))) s' := fin s' (hi' ▸ hI)
    wp_walk
    simpa [Builtin.Tuple.tupleCompareSizes] using hR
  case h =>
    exact ⟨rfl, 0, rfl, Nat.zero_le _, h0⟩
theorem rc_tup_neJ {l b : Addr} {items items2 : Array Value} {Q : Value → Shared → Prop} {s : Shared} (hu : A.units < cLine) (I : Nat → Shared → Prop) (Fl : Shared → Prop)
    (hl : s.heap.IsTuple l items) (hb : s.heap.IsTuple b items2)
    (turn : ∀ i (h1 : i < items.size) (h2 : i < items2.size) s, I i s → wpAny (model prog w) A.in1 (eqBool items[i] items2[i]) (fun r s' => (r = true ∧ I (i + 1) s') ∨ (r = false ∧ Fl s')) E s)
    (fin : ∀ s, I (min items.size items2.size) s → Q (.bool (items.size != items2.size)) s) (finF : ∀ s, Fl s → Q (.bool true) s) (h : I 0 s) : wpAny (model prog w) A (richCompare .NotEq (.ref l) (.ref b)) Q E s := by
  obtain ⟨⟨cls, dd, data, sl⟩, ho, hc, n, hd⟩ := id hl
  obtain ⟨⟨cls2, dd2, data2, sl2⟩, ho2, hc2, n2, hd2⟩ := id hb
  simp only at hc hd hc2 hd2
  subst hc hd hc2 hd2
  refine wpAny_richCompare_same_room (op := .NotEq) ⟨_, ho, rfl⟩ ⟨_, ho2, rfl⟩ F.slot_tuple_ne (call_here F.slot_tuple_ne ⟨_, ho, rfl⟩ F.entry_tuple_ne (F.args_tuple_ne_2 _ _) ?_) hu
  exact tuple_neJ (R := wants (fun v s' => v ≠ .notImplemented ∧ Q v s') E) l b items items2 n n2 dd dd2 sl sl2 I Fl turn (fun s' q => ⟨(fun x => nomatch x), fin s' q⟩) (fun s' q => ⟨(fun x => nomatch x), finF s' q⟩) ho ho2 h
end
end GQ
end
section
set_option Elab.async false
set_option linter.all false
set_option maxRecDepth 100000
set_option maxHeartbeats 4000000
namespace Ro
open PySem PySem.Spec PyProof.Rows L2
def atomB : D → Bool
  | .non => true
  | .bl _ => true
  | .int _ => true
  | .str _ => true
  | _ => false
def datN (cls : List String) : Nat → D → Bool
  | n + 1, .tup l => l.all (datN cls n)
  | n + 1, .lst l => l.all (datN cls n)
  | n + 1, .obj c l => cls.contains c && l.all (datN cls n)
  | _, d => atomB d
/-- what may stand behind an own == -/
def rhsB (cls : List String) : D → Bool
  | .non => true
  | .bl _ => true
  | .int _ => true
  | .str _ => true
  | .tup _ => true
  | .lst _ => true
  | .dct _ => true
  | .obj c _ => cls.contains c
  | _ => false
def zipA (e : D → D → Option Bool) : List D → List D → Option Bool
  | x :: l, y :: l' => match e x y with
    | some true => zipA e l l'
    | some false => some false
    | none => none
  | _, _ => some true
open Classical in
noncomputable def idA (cls : List String) (x y : D) (r : Option Bool) : Option Bool := match r with
  | some false => if datN cls 8 x = true ∧ datN cls 8 y = true ∧ x ≠ y then some false else none
  | r => r
open Classical in
noncomputable def methB (m : Fn) (x y : D) (S : Store) : Option Bool := match m [x, y] S with
  | .ok (.bl b) S' => if S' = S then some b else none
  | _ => none
abbrev ETab := String → Option Fn
noncomputable def shapeA (e : D → D → Option Bool) (tab : ETab) (cls : List String) (S : Store) (x y : D) : Option Bool := match x, y with
  | .lst l, .lst l' => if l.length = l'.length then zipA e l l' else some false
  | .tup l, .tup l' => (zipA e l l').map fun b => b && decide (l.length = l'.length)
  | .obj c fx, y => if rhsB cls y then (match tab c with
    | some m => methB m (.obj c fx) y S
    | none => none) else none
  | x, .obj c fy => if rhsB cls x then (match tab c with
    | some m => methB m (.obj c fy) x S
    | none => none) else none
  | _, _ => none
mutual
noncomputable def eqA (tab : ETab) (cls : List String) (S : Store) : Nat → D → D → Option Bool
  | 0, _, _ => none
  | n + 1, x, y => if plN 8 x && plN 8 y then some (pyEq x y) else shapeA (eqE tab cls S n) tab cls S x y
noncomputable def eqE (tab : ETab) (cls : List String) (S : Store) : Nat → D → D → Option Bool
  | n, x, y => if plN 8 x && plN 8 y then some (pyEq x y) else match n with
    | 0 => none
    | n + 1 => idA cls x y (eqA tab cls S n x y)
end
structure SubG (X : Cx) (k : Nat) (A : Around) : Prop where
  rg : RG k A
  fr : ∀ s H, Env0 X.prog X.w X.K X.mg X.base X.A X.stack s H → Env0 X.prog X.w X.K X.mg X.base A X.stack s H
theorem SubG.in1 {X : Cx} {k : Nat} {A : Around} (h : SubG X (k + 1) A) : SubG X k A.in1 := ⟨h.rg.in1, fun s H e0 => by
  have e := h.fr s H e0
  exact ⟨e.frames, e.mod, e.bs, e.bsz, e.funs, e.frf, e.hok, e.bare⟩⟩
theorem SubG.mono {X : Cx} {k j : Nat} {A : Around} (h : SubG X k A) (l : j ≤ k) : SubG X j A := ⟨h.rg.mono l, h.fr⟩
theorem SubG.here {X : Cx} {k : Nat} (h : RG k X.A) : SubG X k X.A := ⟨h, fun _ _ e => e⟩
def tyNs : List String := ["NoneType", "bool", "int", "str", "tuple", "list", "dict"]
structure EqCl (T : Tb) (X : Cx) (kk : Nat) (cn : String) (m : Fn) : Prop where
  ex : ∃ (k : Nat) (d : He.DefD), k ≤ kk ∧ OkF T X.prog X.w X.mg X.base k d ["self", "other"] m ∧ Meth T.K (He.ga T.K (cn : Str)) "__eq__" (He.fAd T.K d.at_) ∧
    ∀ fd, FunD T.K d.name d.qual d.params d.body d.scope (d.dvs T.K) [] (He.fAd T.K d.at_) fd → Binds T.K fd ["self", "other"] []
  ne : PySem.W.findIn T.K (.ref (He.ga T.K (cn : Str))) "__ne__" = some (some (.builtin "object.__ne__"))
  mo : PySem.W.mroIn T.K (He.ga T.K (cn : Str)) (.type "object") = some true
structure EqH (T : Tb) (X : Cx) (tab : ETab) (cls : List String) (kk : Nat) : Prop where
  K : X.K = T.K
  cl : ∀ c m, tab c = some m → EqCl T X kk c m
  inj : ∀ c ∈ cls, ∀ c' ∈ cls, He.ga T.K (c : Str) = He.ga T.K (c' : Str) → c = c'
  nf : ∀ c m, tab c = some m → ∀ t ∈ tyNs, PySem.W.notFirst T.K (He.ga T.K (c : Str)) (.type t) = true
  sub : ∀ c m, tab c = some m → ∀ t ∈ tyNs, PySem.W.subIn T.K (.ref (He.ga T.K (c : Str))) (.type t) = some false
  nfo : ∀ c m, tab c = some m → ∀ c' ∈ cls, PySem.W.notFirst T.K (He.ga T.K (c : Str)) (.ref (He.ga T.K (c' : Str))) = true
def Post (X : Cx) (T : Tb) (pins : List (Addr × Obj)) (σ : L2.St) (w : Wd) (S : Store) (s' : Shared) : Prop := ∃ H' w', Inv X pins σ H' s' ∧ w.le w' ∧ WR T w' S H'
section
variable {T : Tb} {X : Cx} {tab : ETab} {cls : List String} {kk : Nat} {pins : List (Addr × Obj)} {σ : L2.St} {s : Shared} {H : Hp} {w : Wd} {S : Store}
theorem Post.le {w1 : Wd} {s' : Shared} (l : w.le w1) (h : Post X T pins σ w1 S s') : Post X T pins σ w S s' := by
  obtain ⟨H', w', I, l', r⟩ := h
  exact ⟨H', w', I, l.trans l', r⟩
theorem tup_cls (hK : X.K = T.K) (I : Inv X pins σ H s) (wr : WR T w S H) {a : Addr} {vs : List V} (h : SqT T.K w.G a vs) : ∃ o : Obj, s.heap.get? a = some o ∧ o.cls = .type "tuple" := by
  obtain ⟨its, r, ⟨o, e, c, _⟩, _⟩ := I.tuple (by rw [hK]; exact sqt_sub wr h)
  exact ⟨o, e, c⟩
theorem lst_cls (I : Inv X pins σ H s) (wr : WR T w S H) {a : Addr} {vs : List V} (h : w.G a = some (.lst vs)) : ∃ o : Obj, s.heap.get? a = some o ∧ o.cls = .type "list" := by
  obtain ⟨z, its, k, r, e⟩ := I.hok a _ (wr.sub _ _ h)
  exact ⟨_, e, rfl⟩
theorem ins_cls (I : Inv X pins σ H s) (wr : WR T w S H) {a C dx : Addr} {fs : List (Str × V)} (h : w.G a = some (.ins C dx fs)) : ∃ o : Obj, s.heap.get? a = some o ∧ o.cls = .ref C := by
  obtain ⟨mA, J, _⟩ := ins_get I.hok (wr.sub _ _ h)
  obtain ⟨od, J, _⟩ := J.look
  exact ⟨_, J.at_, J.cls⟩
theorem reps_inj {l l' : List D} {vs : List V} (h : ∀ x ∈ l, ∀ y ∈ l', ∀ v, Rep T w x v → Rep T w y v → x = y) (r : Reps T w l vs) (r' : Reps T w l' vs) : l = l' := by
  induction l generalizing l' vs with
  | nil => cases r; cases r'; rfl
  | cons x l ih =>
    cases r with
    | cons a b =>
      cases r' with
      | cons a' b' =>
        rw [h _ (by simp) _ (by simp) _ a a', ih (fun x hx y hy => h x (by simp [hx]) y (by simp [hy])) b b']
theorem rep_inj (h : EqH T X tab cls kk) (I : Inv X pins σ H s) (wr : WR T w S H) : ∀ (n : Nat) (x y : D) (v : V), datN cls n x = true → datN cls n y = true → Rep T w x v → Rep T w y v → x = y := by
  intro n
  induction n with
  | zero =>
    intro x y v hx hy rx ry
    cases x <;> simp [datN, atomB] at hx <;> cases rx <;> cases y <;> simp [datN, atomB] at hy <;> cases ry <;> rfl
  | succ n ih =>
    intro x y v hx hy rx ry
    cases rx with
    | non => cases ry; rfl
    | bl b => cases ry; rfl
    | int i => cases ry; rfl
    | str z => cases ry; rfl
    | scr => simp [datN, atomB] at hx
    | dct => simp [datN, atomB] at hx
    | ref => simp [datN, atomB] at hx
    | fn => simp [datN, atomB] at hx
    | xc0 => simp [datN, atomB] at hx
    | xc1 => simp [datN, atomB] at hx
    | tup q r =>
      obtain ⟨o, e, c⟩ := tup_cls h.K I wr q
      cases ry with
      | scr => simp [datN, atomB] at hy
      | dct => simp [datN, atomB] at hy
      | ref => simp [datN, atomB] at hy
      | fn => simp [datN, atomB] at hy
      | xc0 => simp [datN, atomB] at hy
      | xc1 => simp [datN, atomB] at hy
      | tup q' r' =>
        have e2 := I.tuple_inj (by rw [h.K]; exact sqt_sub wr q) (by rw [h.K]; exact sqt_sub wr q')
        subst e2
        simp only [datN, List.all_eq_true] at hx hy
        rw [reps_inj (fun x hx' y hy' v => ih x y v (hx x hx') (hy y hy')) r r']
      | lst q' r' =>
        obtain ⟨o', e', c'⟩ := lst_cls I wr q'
        rw [e] at e'
        cases e'
        rw [c] at c'
        exact absurd c' (by decide)
      | obj q' _ r' =>
        obtain ⟨o', e', c'⟩ := ins_cls I wr q'
        rw [e] at e'
        cases e'
        rw [c] at c'
        cases c'
    | lst q r =>
      obtain ⟨o, e, c⟩ := lst_cls I wr q
      cases ry with
      | scr => simp [datN, atomB] at hy
      | dct => simp [datN, atomB] at hy
      | ref => simp [datN, atomB] at hy
      | fn => simp [datN, atomB] at hy
      | xc0 => simp [datN, atomB] at hy
      | xc1 => simp [datN, atomB] at hy
      | lst q' r' =>
        rw [q] at q'
        cases q'
        simp only [datN, List.all_eq_true] at hx hy
        rw [reps_inj (fun x hx' y hy' v => ih x y v (hx x hx') (hy y hy')) r r']
      | tup q' r' =>
        obtain ⟨o', e', c'⟩ := tup_cls h.K I wr q'
        rw [e] at e'
        cases e'
        rw [c] at c'
        exact absurd c' (by decide)
      | obj q' _ r' =>
        rw [q] at q'
        cases q'
    | obj q nm r =>
      obtain ⟨o, e, c⟩ := ins_cls I wr q
      cases ry with
      | scr => simp [datN, atomB] at hy
      | dct => simp [datN, atomB] at hy
      | ref => simp [datN, atomB] at hy
      | fn => simp [datN, atomB] at hy
      | xc0 => simp [datN, atomB] at hy
      | xc1 => simp [datN, atomB] at hy
      | lst q' r' =>
        rw [q] at q'
        cases q'
      | tup q' r' =>
        obtain ⟨o', e', c'⟩ := tup_cls h.K I wr q'
        rw [e] at e'
        cases e'
        rw [c] at c'
        cases c'
      | obj q' nm' r' =>
        rw [q] at q'
        simp only [datN, Bool.and_eq_true, List.all_eq_true, List.contains_iff_mem] at hx hy
        simp only [Option.some.injEq, HO.ins.injEq] at q'
        obtain ⟨h1, h2, h3⟩ := q'
        subst h3
        rw [h.inj _ hx.1 _ hy.1 h1, reps_inj (fun x hx' y hy' v => ih x y v (hx.2 x hx') (hy.2 y hy')) r r']
end
end Ro
end
section
set_option Elab.async false
set_option linter.all false
set_option maxRecDepth 100000
set_option maxHeartbeats 4000000
namespace GQ
open PySem PySem.SeqAt
open AutoSeq1 (wpAny_loadPart')
open MeetsSeq MeetsSeq2 MeetsSeq3 SeqRoads2
section
variable {prog : Program} {w : World} {A : Around} {R : Result → Shared → Prop} {E : Value → Shared → Prop}
theorem int_eq_own (b : Int) (u : Tok) (l C dx : Addr) :
    Meets (Builtin.«int.__eq__» ⟨[.int b u, .ref l], []⟩) (fun _ R s => s.heap.get? l = some (PySem.W.instObj C dx) ∧ R (.ok (.ret .notImplemented)) s) :=
  .of_wp fun prog w A R s h => by obtain ⟨hp, g, d, tk, os⟩ := s; obtain ⟨hl, h⟩ := h; wp_walk using wpAny_loadPart' hl, wpAny_load hl; exact ⟨_, rfl, h⟩
theorem bool_eq_own (b : Bool) (l C dx : Addr) :
    Meets (Builtin.«int.__eq__» ⟨[.bool b, .ref l], []⟩) (fun _ R s => s.heap.get? l = some (PySem.W.instObj C dx) ∧ R (.ok (.ret .notImplemented)) s) :=
  .of_wp fun prog w A R s h => by obtain ⟨hp, g, d, tk, os⟩ := s; obtain ⟨hl, h⟩ := h; wp_walk using wpAny_loadPart' hl, wpAny_load hl; exact ⟨_, rfl, h⟩
theorem str_eq_own (b : Str) (u : Tok) (l C dx : Addr) :
    Meets (Builtin.«str.__eq__» ⟨[.str b u, .ref l], []⟩) (fun _ R s => s.heap.get? l = some (PySem.W.instObj C dx) ∧ R (.ok (.ret .notImplemented)) s) :=
  .of_wp fun prog w A R s h => by obtain ⟨hp, g, d, tk, os⟩ := s; obtain ⟨hl, h⟩ := h; wp_walk using wpAny_loadPart' hl, wpAny_load hl; exact ⟨_, rfl, h⟩
theorem list_eq_own (l p C dx : Addr) (items : Array Value) (n : Nat) (dd : Option Addr) (sl : Array (Option Value)) {s : Shared} (hl : s.heap.get? l = some { cls := .type "list", dict := dd, data := .seq items n, slots := sl }) (hp : s.heap.get? p = some (PySem.W.instObj C dx))
    (hs : PySem.W.Looks (model prog w) s.heap (isSubtype (.ref C) (.type "list")) false) (h : R (.ok (.ret .notImplemented)) s) :
    wpAny (model prog w) A.in1 (Builtin.«list.__eq__» ⟨[.ref l, .ref p], []⟩) (FinOf prog w A R) (fun e s' => R (.error e) s') s := by
  have hi : PySem.W.Looks (model prog w) s.heap (isInstance (.ref p) (.type "list")) false := (PySem.W.Looks.ld hp).andThen hs
  obtain ⟨hp', g, d, tk, os⟩ := s
  wp_walk using wpAny_loadPart' hl
  refine hs.here ?_
  wp_walk
  exact h
theorem tup_eq_own (l p C dx : Addr) (items : Array Value) (n : Nat) (dd : Option Addr) (sl : Array (Option Value)) {s : Shared} (hl : s.heap.get? l = some { cls := .type "tuple", dict := dd, data := .seq items n, slots := sl }) (hp : s.heap.get? p = some (PySem.W.instObj C dx))
    (hs : PySem.W.Looks (model prog w) s.heap (isSubtype (.ref C) (.type "tuple")) false) (h : R (.ok (.ret .notImplemented)) s) :
    wpAny (model prog w) A.in1 (Builtin.«tuple.__eq__» ⟨[.ref l, .ref p], []⟩) (FinOf prog w A R) (fun e s' => R (.error e) s') s := by
  have hi : PySem.W.Looks (model prog w) s.heap (isInstance (.ref p) (.type "tuple")) false := (PySem.W.Looks.ld hp).andThen hs
  obtain ⟨hp', g, d, tk, os⟩ := s
  wp_walk using wpAny_loadPart' hl
  refine hs.here ?_
  wp_walk
  exact h
theorem dict_eq_own (l p C dx : Addr) (o : Obj) (ho : o.cls = .type "dict") {s : Shared} (hl : s.heap.get? l = some o) (hd : ∃ es ep, o.data = .dict es ep) (hp : s.heap.get? p = some (PySem.W.instObj C dx))
    (hs : PySem.W.Looks (model prog w) s.heap (isSubtype (.ref C) (.type "dict")) false) (h : R (.ok (.ret .notImplemented)) s) :
    wpAny (model prog w) A.in1 (Builtin.«dict.__eq__» ⟨[.ref l, .ref p], []⟩) (FinOf prog w A R) (fun e s' => R (.error e) s') s := by
  have hi : PySem.W.Looks (model prog w) s.heap (isInstance (.ref p) (.type "dict")) false := (PySem.W.Looks.ld hp).andThen hs
  obtain ⟨es, ep, hd⟩ := hd
  obtain ⟨cls, dd, data, sl⟩ := o
  simp only at ho hd
  subst ho hd
  obtain ⟨hp', g, d, tk, os⟩ := s
  wp_walk using wpAny_loadPart' hl
  refine hs.here ?_
  wp_walk
  exact h
end
end GQ
namespace Ro
open PySem PySem.Spec PyProof.Rows L2
section
variable {prog : Program} {w : World} {A : Around} {E : Value → Shared → Prop}
theorem rc_right {a : Value} {Ta ida : String} {C p dx L f : Addr} {K : PySem.W.Frag} {h₀ : Heap} {m : Str → Option Value} {od : Option Obj} {s : Shared} {Q : Value → Shared → Prop} (hu : A.units < cLine) (F : Fr h₀ L s.heap m) (X₀ : K.In h₀) (I : PySem.W.InstAt s.heap p (PySem.W.instObj C dx) C od)
    (ha : s.TypeIs a Ta) (hsub : PySem.W.subIn K (.ref C) (.type Ta) = some false) (h1 : Slot Ta "__eq__" ida)
    (hc : ∀ Q' : Value → Shared → Prop, Q' .notImplemented s → wpAny (model prog w) A (call (.builtin ida) [a, .ref p]) Q' E s)
    (hs : PySem.W.findIn K (.ref C) "__eq__" = some (some (.ref f))) (hf : PySem.W.isFn K (.ref f) = true)
    (h : wpAny (model prog w) A (call (.ref f) [.ref p, a]) (PySem.W.CmpBack Q) E s) : wpAny (model prog w) A (richCompare .Eq a (.ref p)) Q E s := by
  have X := X₀.keeps F.keep
  have one : wpAny (model prog w) A (tryCompare (.ref p) (cmpInfo .Eq).2.2 a) (fun r s' => ∃ v, r = some v ∧ Q v s') E s := by
    unfold tryCompare
    refine wpAny_bind (PySem.W.ifBound_K X I hs hf (wpAny_mono h (fun v s' hv => ?_) fun _ _ e => e))
    cases v <;> first | exact hv.elim | exact wpAny_pure ⟨_, rfl, hv⟩
  simp only [richCompare, ha.oneThing_none]
  refine wpAny_holding (wpAny_bind (wpAny_cRoomFor hu ?_))
  refine wpAny_bind (wpAny_typeOf ha (wpAny_bind (I.type.here ?_)))
  have hne : (Value.type Ta != Value.ref C) = true := rfl
  simp only [hne, if_true]
  refine wpAny_bind ((PySem.W.looks_subIn X hsub).here ?_)
  simp only [Bool.false_eq_true, if_false, Bool.not_false, if_true]
  refine wpAny_bind (m := tryCompare a _ (.ref p)) (wpAny_tryCompare_declines ha h1 (hc _ ⟨rfl, ?_⟩))
  refine wpAny_bind (wpAny_mono one (fun r s' z => ?_) fun _ _ e => e)
  obtain ⟨v, rfl, hq⟩ := z
  exact wpAny_pure hq
end
section
variable {T : Tb} {X : Cx} {tab : ETab} {cls : List String} {kk : Nat} {pins : List (Addr × Obj)} {σ : L2.St} {s : Shared} {H : Hp} {w : Wd} {S : Store}
/-- what stands ahead of an own == declines -/
theorem decl_of (hK : X.K = T.K) (I : Inv X pins σ H s) (wr : WR T w S H) {x : D} {vx : V} {v : Value} (rx : Rep T w x vx) (qx : RelV vx v) (hx : rhsB [] x = true) {A : Around} {E : Value → Shared → Prop} :
    ∃ (Ta ida : String), s.TypeIs v Ta ∧ Ta ∈ tyNs ∧ Slot Ta "__eq__" ida ∧ ∀ (p C dx : Addr), s.heap.get? p = some (PySem.W.instObj C dx) → PySem.W.Looks (model X.prog X.w) s.heap (isSubtype (.ref C) (.type Ta)) false →
      ∀ Q' : Value → Shared → Prop, Q' .notImplemented s → wpAny (model X.prog X.w) A (call (.builtin ida) [v, .ref p]) Q' E s := by
  cases rx with
  | non =>
    cases qx
    exact ⟨"NoneType", _, rfl, by decide, F.slot_NoneType_eq, fun p C dx hp _ Q' h => call_gives F.slot_NoneType_eq rfl F.entry_NoneType_eq (F.args_NoneType_eq_2 _ _) (SeqAt.NoneType___eq___none_ref_0 p) h⟩
  | bl b =>
    cases qx
    exact ⟨"bool", _, rfl, by decide, F.slot_bool_eq, fun p C dx hp _ Q' h => call_meets F.slot_bool_eq rfl F.entry_int_eq (F.args_int_eq_2 _ _) (GQ.bool_eq_own b p C dx) ⟨hp, h⟩⟩
  | int i =>
    obtain ⟨t, rfl⟩ := qx
    exact ⟨"int", _, typeIs_int s i t, by decide, F.slot_int_eq, fun p C dx hp _ Q' h => call_meets F.slot_int_eq (typeIs_int s i t) F.entry_int_eq (F.args_int_eq_2 _ _) (GQ.int_eq_own i t p C dx) ⟨hp, h⟩⟩
  | str z =>
    obtain ⟨t, rfl⟩ := qx
    exact ⟨"str", _, typeIs_str s z t, by decide, F.slot_str_eq, fun p C dx hp _ Q' h => call_meets F.slot_str_eq (typeIs_str s z t) F.entry_str_eq (F.args_str_eq_2 _ _) (GQ.str_eq_own z t p C dx) ⟨hp, h⟩⟩
  | tup q r =>
    cases qx
    obtain ⟨its, r', ⟨⟨cl, dd, data, sl⟩, ho, hc, n, hd⟩, _⟩ := I.tuple (by rw [hK]; exact sqt_sub wr q)
    simp only at hc hd
    subst hc hd
    refine ⟨"tuple", _, ⟨_, ho, rfl⟩, by decide, F.slot_tuple_eq, fun p C dx hp hs Q' h => ?_⟩
    exact GQ.call_here F.slot_tuple_eq ⟨_, ho, rfl⟩ F.entry_tuple_eq (F.args_tuple_eq_2 _ _) (GQ.tup_eq_own (R := wants Q' E) _ p C dx _ n dd sl ho hp hs h)
  | lst q r =>
    cases qx
    obtain ⟨z, its, k, r', e⟩ := I.hok _ _ (wr.sub _ _ q)
    refine ⟨"list", _, ⟨_, e, rfl⟩, by decide, F.slot_list_eq, fun p C dx hp hs Q' h => ?_⟩
    exact GQ.call_here F.slot_list_eq ⟨_, e, rfl⟩ F.entry_list_eq (F.args_list_eq_2 _ _) (GQ.list_eq_own (R := wants Q' E) _ p C dx _ _ _ _ e hp hs h)
  | dct q r =>
    cases qx
    obtain ⟨_, _, vs, _, o, es, ep, e, ed, dt, _⟩ := I.hok _ _ (wr.sub _ _ q)
    refine ⟨"dict", _, ⟨_, e, ed.1⟩, by decide, F.slot_dict_eq, fun p C dx hp hs Q' h => ?_⟩
    exact GQ.call_here F.slot_dict_eq ⟨_, e, ed.1⟩ F.entry_dict_eq (F.args_dict_eq_2 _ _) (GQ.dict_eq_own (R := wants Q' E) _ p C dx o ed.1 e ⟨_, _, dt⟩ hp hs h)
  | _ => cases hx
end
end Ro
end
section
set_option Elab.async false
set_option linter.all false
set_option maxRecDepth 100000
set_option maxHeartbeats 4000000
namespace Ro
open PySem PySem.Spec PyProof.Rows L2
section
variable {T : Tb} {X : Cx} {tab : ETab} {cls : List String} {kk : Nat} {pins : List (Addr × Obj)} {σ : L2.St} {s : Shared} {H : Hp} {w : Wd} {S : Store}
def SRep (T : Tb) (w : Wd) (S : Store) (x : D) (v : V) : Prop := ∃ d, x = seeD d S ∧ Rep T w d v
theorem srep_of {d : D} {v : V} (h : Rep T w d v) (hd : ∀ n, d ≠ .ref n) : SRep T w S d v := ⟨d, by cases d <;> first | rfl | exact absurd rfl (hd _), h⟩
theorem SRep.sees {d : D} {v : V} (h : Rep T w d v) : SRep T w S (seeD d S) v := ⟨d, rfl, h⟩
theorem lst_at {l : List D} {v : V} (h : SRep T w S (.lst l) v) : ∃ a, v = .ref a ∧ ∀ w' H', w.le w' → WR T w' S H' → ∃ vs, H' a = some (.lst vs) ∧ Reps T w' l vs := by
  obtain ⟨d, e, r⟩ := h
  cases r with
  | lst q r =>
    cases e
    exact ⟨_, rfl, fun w' H' le wr => ⟨_, wr.sub _ _ (le.tosb.G _ _ q), r.monoS le.tosb⟩⟩
  | ref hn =>
    rename_i n a
    unfold seeD at e
    dsimp only at e
    cases z : S[n]? with
    | none => rw [z] at e; cases e
    | some c =>
      rw [z] at e
      cases c with
      | lst m =>
        cases e
        refine ⟨_, rfl, fun w' H' le wr => ?_⟩
        obtain ⟨vs, h1, h2⟩ := wr.cell n _ _ z (le.tosb.at hn)
        exact ⟨vs, h1, h2⟩
      | _ => cases e
  | _ => cases e
theorem tup_at {l : List D} {v : V} (h : SRep T w S (.tup l) v) : ∃ a vs, v = .ref a ∧ SqT T.K w.G a vs ∧ Reps T w l vs := by
  obtain ⟨d, e, r⟩ := h
  cases r with
  | tup q r => cases e; exact ⟨_, _, rfl, q, r⟩
  | ref hn =>
    rename_i n a
    unfold seeD at e
    dsimp only at e
    cases z : S[n]? with
    | none => rw [z] at e; cases e
    | some c => rw [z] at e; cases c <;> cases e
  | _ => cases e
theorem obj_at {c : String} {l : List D} {v : V} (h : SRep T w S (.obj c l) v) : Rep T w (.obj c l) v := by
  obtain ⟨d, e, r⟩ := h
  cases r with
  | obj q n r => cases e; exact .obj q n r
  | ref hn =>
    rename_i n a
    unfold seeD at e
    dsimp only at e
    cases z : S[n]? with
    | none => rw [z] at e; cases e
    | some c => rw [z] at e; cases c <;> cases e
  | _ => cases e
theorem dp_s (wr : WR T w S H) {x : D} {v : V} (h : plN 8 x = true) (q : SRep T w S x v) : Dp T.K H v (toPy x) := by
  obtain ⟨d, rfl, r⟩ := q
  exact dp_see wr h r
/-- elements within a builtin -/
def ElR (T : Tb) (X : Cx) (tab : ETab) (cls : List String) (n : Nat) (A : Around) : Prop := ∀ (pins : List (Addr × Obj)) (σ : L2.St) (s : Shared) (H : Hp) (w : Wd) (S : Store) (x y : D) (vx vy : V) (v u : Value) (b : Bool),
  Inv X pins σ H s → WR T w S H → Rep T w x vx → RelV vx v → Rep T w y vy → RelV vy u → eqE tab cls S n x y = some b → ∀ E, wpAny (model X.prog X.w) A (eqBool v u) (fun r s' => r = b ∧ Post X T pins σ w S s') E s
theorem reps_get {l : List D} {vs : List V} (r : Reps T w l vs) {its : List Value} (q : Vals vs its) {i : Nat} (h : i < l.length) (hi : i < its.toArray.size) : ∃ vx, Rep T w l[i] vx ∧ RelV vx its.toArray[i] := by
  induction l generalizing vs its i with
  | nil => simp at h
  | cons x l ih =>
    cases r with
    | cons a b =>
    cases q with
    | cons p q =>
      cases i with
      | zero => exact ⟨_, a, by simpa using p⟩
      | succ i =>
        obtain ⟨vx, h1, h2⟩ := ih b q (i := i) (by simpa using h) (by simpa using hi)
        exact ⟨vx, by simpa using h1, by simpa using h2⟩
theorem seq_turn {n : Nat} {A : Around} (he : ElR T X tab cls n A) (I : Inv X pins σ H s) (wr : WR T w S H) {l l' : List D} {vs vs' : List V} {its its' : List Value} (r : Reps T w l vs) (r' : Reps T w l' vs') (q : Vals vs its) (q' : Vals vs' its') {i : Nat} {b : Bool}
    (h1 : i < its.toArray.size) (h2 : i < its'.toArray.size) (hz : zipA (eqE tab cls S n) (l.drop i) (l'.drop i) = some b) (E : Value → Shared → Prop) :
    wpAny (model X.prog X.w) A (eqBool its.toArray[i] its'.toArray[i]) (fun k s' => (k = true ∧ zipA (eqE tab cls S n) (l.drop (i + 1)) (l'.drop (i + 1)) = some b ∧ Post X T pins σ w S s') ∨ (k = false ∧ b = false ∧ Post X T pins σ w S s')) E s := by
  have hl : i < l.length := by rw [r.length, q.length]; simpa using h1
  have hl' : i < l'.length := by rw [r'.length, q'.length]; simpa using h2
  obtain ⟨vx, p1, p2⟩ := reps_get r q hl h1
  obtain ⟨vy, p3, p4⟩ := reps_get r' q' hl' h2
  rw [List.drop_eq_getElem_cons hl, List.drop_eq_getElem_cons hl', zipA] at hz
  cases z : eqE tab cls S n l[i] l'[i] with
  | none => rw [z] at hz; cases hz
  | some k =>
    rw [z] at hz
    refine wpAny_mono (he pins σ s H w S _ _ vx vy _ _ k I wr p1 p2 p3 p4 z E) (fun k' s' hk => ?_) fun _ _ e => e
    obtain ⟨rfl, hP⟩ := hk
    cases k' with
    | true => exact .inl ⟨rfl, hz, hP⟩
    | false =>
      have : b = false := by injection hz with e; exact e.symm
      exact .inr ⟨rfl, this, hP⟩
/-- two lists, item by item -/
theorem list_J {n : Nat} {A : Around} (he : ElR T X tab cls n A.in1) (wr0 : WR T w S H) {l l' : List D} {a a' : Addr} (hlen : l.length = l'.length) (h1 : ∀ w' H', w.le w' → WR T w' S H' → ∃ vs, H' a = some (.lst vs) ∧ Reps T w' l vs) (h2 : ∀ w' H', w.le w' → WR T w' S H' → ∃ vs, H' a' = some (.lst vs) ∧ Reps T w' l' vs) {b : Bool} (E : Value → Shared → Prop) :
    GQ.ListJ X.prog X.w A E a a' l.length (fun i s' => zipA (eqE tab cls S n) (l.drop i) (l'.drop i) = some b ∧ Post X T pins σ w S s') (fun s' => b = false ∧ Post X T pins σ w S s') := by
  have rd : ∀ s', Post X T pins σ w S s' → ∃ (w' : Wd) (H' : Hp) (vs vs' : List V) (its its' : List Value), Inv X pins σ H' s' ∧ w.le w' ∧ WR T w' S H' ∧ Reps T w' l vs ∧ Reps T w' l' vs' ∧ Vals vs its ∧ Vals vs' its' ∧ GQ.TwoL a a' l.length s' its.toArray its'.toArray := by
    intro s' ⟨H', w', I, le, wr⟩
    obtain ⟨vs, e1, r1⟩ := h1 w' H' le wr
    obtain ⟨vs', e2, r2⟩ := h2 w' H' le wr
    obtain ⟨z, its, k, r, e⟩ := I.hok a _ e1
    obtain ⟨z2, its2, k2, r', e'⟩ := I.hok a' _ e2
    exact ⟨w', H', vs, vs', its, its2, I, le, wr, r1, r2, r, r', k, k2, e, e', by rw [List.size_toArray, ← r.length, ← r1.length], by rw [List.size_toArray, ← r'.length, ← r2.length, hlen]⟩
  intro i s' ⟨hz, hP⟩
  obtain ⟨w', H', vs, vs', its, its', I, le, wr, r1, r2, v1, v2, tw⟩ := rd s' hP
  refine ⟨_, _, tw, fun k1 k2 => ?_⟩
  refine wpAny_mono (seq_turn he I wr r1 r2 v1 v2 k1 k2 hz E) (fun k s2 hk => ?_) fun _ _ e => e
  rcases hk with ⟨rfl, hz2, hP2⟩ | ⟨rfl, hb, hP2⟩
  · exact .inl ⟨rfl, hz2, hP2.le le⟩
  · obtain ⟨w2, H2, us, us', ts, ts', I2, le2, wr2, q1, q2, x1, x2, tw2⟩ := rd s2 (hP2.le le)
    exact .inr ⟨rfl, ⟨hb, hP2.le le⟩, _, _, tw2⟩
theorem meth2_runG {cn : String} {m : Fn} {k : Nat} {d : He.DefD} {A : Around} {l : List D} {y : D} {p : Addr} {vy : V} {u : Value} {b : Bool} {E : Value → Shared → Prop} (hK : X.K = T.K) (ok : OkF T X.prog X.w X.mg X.base k d ["self", "other"] m) (hr : RG k A)
    (hb : ∀ fd, FunD T.K d.name d.qual d.params d.body d.scope (d.dvs T.K) [] (He.fAd T.K d.at_) fd → Binds T.K fd ["self", "other"] []) (I : Inv X pins σ H s) (he : Env0 X.prog X.w T.K X.mg X.base A X.stack s H) (wr : WR T w S H) (r1 : Rep T w (.obj cn l) (.ref p)) (r2 : Rep T w y vy) (ru : RelV vy u)
    (q : m [.obj cn l, y] S = .ok (.bl b) S) :
    wpAny (model X.prog X.w) A (call (.ref (He.fAd T.K d.at_)) [.ref p, u]) (fun v s' => v = .bool b ∧ Post X T pins σ w S s') E s := by
  obtain ⟨fd, FD, FG⟩ := ok.ex
  have hsp : spI T ["self", "other"].length m [.ref p, vy] H (fun v H' => v = .bl b ∧ ∃ w', w.le w' ∧ WR T w' S H') (fun _ _ _ => False) := ⟨rfl, w, [.obj cn l, y], S, wr, .cons r1 (.cons r2 .nil), by
    rw [q]
    exact fun w' H' v l' r' p' => by
      cases p'
      exact ⟨rfl, w', l', r'⟩⟩
  have rv : Vals [V.ref p, vy] [Value.ref p, u] := .cons rfl (.cons ru .nil)
  have hbd : BindsTo s fd ⟨[.ref p, u], []⟩ ((["self", "other"] : List Str).zip [Value.ref p, u]) := by
    have := hb fd FD s [.ref p, u] (by rw [← hK]; exact I.kIn) rfl
    simpa using this
  refine wpAny_call (codeAny_mono (FG.run A X.stack s H ⟨[.ref p, u], []⟩ [.ref p, u] [.ref p, vy] _ (fun _ _ _ => False) hr he hbd rv hsp) fun r s' hq => ?_)
  cases r with
  | error e =>
    obtain ⟨_, _, _, _, _, _, _, _, _, _, _, _, z⟩ := hq
    exact z.elim
  | ok fl =>
    cases fl with
    | ret v =>
      obtain ⟨z, H', I', rz, ec, w', le, wr'⟩ := I.after hq
      subst ec
      obtain rfl : v = Value.bool b := rz
      exact ⟨rfl, H', w', I', le, wr'⟩
    | next => exact False.elim hq
    | brk => exact False.elim hq
    | cont => exact False.elim hq
/-- the type of what stands behind -/
theorem ty_rhs (h : EqH T X tab cls kk) (I : Inv X pins σ H s) (wr : WR T w S H) {c : String} {m : Fn} (hm : tab c = some m) {y : D} {vy : V} {u : Value} (ry : Rep T w y vy) (ru : RelV vy u) (hy : rhsB cls y = true) :
    ∃ tb, PySem.W.Looks (model X.prog X.w) s.heap (typeOf u) tb ∧ PySem.W.notFirst T.K (He.ga T.K (c : Str)) tb = true := by
  have ld : ∀ {a : Addr} {tb : Value}, (∃ o : Obj, s.heap.get? a = some o ∧ o.cls = tb) → PySem.W.Looks (model X.prog X.w) s.heap (typeOf (.ref a)) tb := fun ⟨o, e, ec⟩ => ec ▸ (PySem.W.Looks.ld e).andThen .now
  cases ry with
  | non => cases ru; exact ⟨_, PySem.W.Looks.of_pure rfl, h.nf c m hm "NoneType" (by decide)⟩
  | bl b => cases ru; exact ⟨_, PySem.W.Looks.of_pure rfl, h.nf c m hm "bool" (by decide)⟩
  | int i => obtain ⟨t, rfl⟩ := ru; exact ⟨_, PySem.W.Looks.of_pure rfl, h.nf c m hm "int" (by decide)⟩
  | str z => obtain ⟨t, rfl⟩ := ru; exact ⟨_, PySem.W.Looks.of_pure rfl, h.nf c m hm "str" (by decide)⟩
  | tup q r => cases ru; exact ⟨_, ld (tup_cls h.K I wr q), h.nf c m hm "tuple" (by decide)⟩
  | lst q r => cases ru; exact ⟨_, ld (lst_cls I wr q), h.nf c m hm "list" (by decide)⟩
  | obj q n r =>
    rename_i c' _ _ _ _
    cases ru
    refine ⟨_, ld (ins_cls I wr q), h.nfo c m hm c' ?_⟩
    simpa [rhsB] using hy
  | dct q r =>
    cases ru
    obtain ⟨o, e, ec⟩ : ∃ o : Obj, s.heap.get? _ = some o ∧ o.cls = .type "dict" := by
      obtain ⟨_, _, vs, _, o, _, _, e, ed, _⟩ := I.hok _ _ (wr.sub _ _ q)
      exact ⟨o, e, ed.1⟩
    exact ⟨_, ld ⟨o, e, ec⟩, h.nf c m hm "dict" (by decide)⟩
  | _ => cases hy
theorem eqBool_L {prog : Program} {wd : World} {A : Around} {E : Value → Shared → Prop} {a : Addr} {u : Value} {Q : Bool → Shared → Prop} (hne : Value.ref a ≠ u) (h : wpAny (model prog wd) A (richCompare .Eq (.ref a) u) (fun v s' => ∃ r, v = .bool r ∧ Q r s') E s) : wpAny (model prog wd) A (eqBool (.ref a) u) Q E s := by
  unfold eqBool
  refine wpAny_holding ?_
  refine wpAny_ite_split (fun hab => absurd (eq_of_beq hab) hne) (fun _ => ?_)
  refine wpAny_bind (wpAny_mono h (fun v s' hv => ?_) fun _ _ x => x)
  obtain ⟨r, rfl, q⟩ := hv
  exact wpAny_truthy_bool q
theorem eqBool_R {prog : Program} {wd : World} {A : Around} {E : Value → Shared → Prop} {a : Value} {p : Addr} {Q : Bool → Shared → Prop} (hf : ∀ f t, a ≠ .float f t) (hne : a ≠ .ref p) (h : wpAny (model prog wd) A (richCompare .Eq a (.ref p)) (fun v s' => ∃ r, v = .bool r ∧ Q r s') E s) : wpAny (model prog wd) A (eqBool a (.ref p)) Q E s := by
  unfold eqBool
  refine wpAny_holding ?_
  refine wpAny_ite_split (fun hab => absurd (eq_of_beq hab) hne) (fun _ => ?_)
  have fin : wpAny (model prog wd) A (richCompare .Eq a (.ref p) >>= fun v => truthOfDropped v) Q E s := by
    refine wpAny_bind (wpAny_mono h (fun v s' hv => ?_) fun _ _ x => x)
    obtain ⟨r, rfl, q⟩ := hv
    exact wpAny_truthy_bool q
  cases a <;> first | exact fin | exact absurd rfl (hf _ _)
theorem eqBool_S {prog : Program} {wd : World} {A : Around} {E : Value → Shared → Prop} {a : Addr} {Q : Bool → Shared → Prop} (h : Q true s) : wpAny (model prog wd) A (eqBool (.ref a) (.ref a)) Q E s := by
  unfold eqBool
  refine wpAny_holding ?_
  refine wpAny_ite_split (fun _ => ?_) (fun hab => absurd (beq_self_eq_true _) hab)
  exact wpAny_bind (wpAny_rule (wpAny_pure h))
theorem eqE_z {x y : D} : eqE tab cls S 0 x y = if plN 8 x && plN 8 y then some (pyEq x y) else none := by rw [eqE]
theorem eqE_s {n : Nat} {x y : D} : eqE tab cls S (n + 1) x y = if plN 8 x && plN 8 y then some (pyEq x y) else idA cls x y (eqA tab cls S n x y) := by rw [eqE]
theorem eqA_z {x y : D} : eqA tab cls S 0 x y = none := by rw [eqA]
theorem eqA_s {n : Nat} {x y : D} : eqA tab cls S (n + 1) x y = if plN 8 x && plN 8 y then some (pyEq x y) else shapeA (eqE tab cls S n) tab cls S x y := by rw [eqA]
theorem eqA_nref {n : Nat} {x y : D} {b : Bool} (h : eqA tab cls S n x y = some b) : (∀ k, x ≠ .ref k) ∧ ∀ k, y ≠ .ref k := by
  cases n with
  | zero => rw [eqA_z] at h; cases h
  | succ n =>
    rw [eqA_s] at h
    split at h
    · rename_i q
      obtain ⟨q1, q2⟩ := Bool.and_eq_true_iff.mp q
      exact ⟨fun k e => by subst e; simp [plN] at q1, fun k e => by subst e; simp [plN] at q2⟩
    · constructor
      · intro k e
        subst e
        cases y <;> simp [shapeA, rhsB] at h
      · intro k e
        subst e
        cases x <;> simp [shapeA, rhsB] at h
theorem eqE_nref {n : Nat} {x y : D} {b : Bool} (h : eqE tab cls S n x y = some b) : (∀ k, x ≠ .ref k) ∧ ∀ k, y ≠ .ref k := by
  have pl : (plN 8 x && plN 8 y) = true → (∀ k, x ≠ .ref k) ∧ ∀ k, y ≠ .ref k := fun q => by
    obtain ⟨q1, q2⟩ := Bool.and_eq_true_iff.mp q
    exact ⟨fun k e => by subst e; simp [plN] at q1, fun k e => by subst e; simp [plN] at q2⟩
  cases n with
  | zero =>
    rw [eqE_z] at h
    split at h
    · rename_i q; exact pl q
    · cases h
  | succ n =>
    rw [eqE_s] at h
    split at h
    · rename_i q; exact pl q
    · cases z : eqA tab cls S n x y with
      | none => rw [z] at h; cases h
      | some b => exact eqA_nref z
theorem eqA_run (h : EqH T X tab cls kk) : ∀ (n : Nat),
    (∀ A, SubG X (kk + n) A → ElR T X tab cls n A) ∧
    (∀ A, SubG X (kk + n) A → ∀ (pins : List (Addr × Obj)) (σ : L2.St) (s : Shared) (H : Hp) (w : Wd) (S : Store) (x y : D) (vx vy : V) (v u : Value) (b : Bool), Inv X pins σ H s → WR T w S H → SRep T w S x vx → RelV vx v → SRep T w S y vy → RelV vy u → ((∃ c l, x = .obj c l) → Rep T w y vy) → ((∃ c l, y = .obj c l) → Rep T w x vx) → eqA tab cls S n x y = some b →
      ∀ E, wpAny (model X.prog X.w) A (richCompare .Eq v u) (fun r s' => r = .bool b ∧ Post X T pins σ w S s') E s) := by
  have plain : ∀ (A : Around), A.units + 64 < cLine → ∀ (pins : List (Addr × Obj)) (σ : L2.St) (s : Shared) (H : Hp) (w : Wd) (S : Store) (x y : D) (vx vy : V) (v u : Value), Inv X pins σ H s → WR T w S H → SRep T w S x vx → RelV vx v → SRep T w S y vy → RelV vy u → plN 8 x = true → plN 8 y = true →
      (∀ E, wpAny (model X.prog X.w) A (richCompare .Eq v u) (fun r s' => r = .bool (pyEq x y) ∧ Post X T pins σ w S s') E s) ∧ (∀ E, wpAny (model X.prog X.w) A (eqBool v u) (fun r s' => r = pyEq x y ∧ Post X T pins σ w S s') E s) := by
    intro A hu pins σ s H w S x y vx vy v u I wr rx qx ry qy p1 p2
    obtain ⟨as, r1⟩ := Dp.reads I _ vx v (by rw [h.K]; exact dp_s wr p1 rx) qx
    obtain ⟨bs, r2⟩ := Dp.reads I _ vy u (by rw [h.K]; exact dp_s wr p2 ry) qy
    obtain ⟨k1, k2⟩ := toPy_ok 8 _ p1
    obtain ⟨k3, k4⟩ := toPy_ok 8 _ p2
    have hP : Post X T pins σ w S s := ⟨H, w, I, Wd.le.refl _, wr⟩
    constructor
    · intro E
      refine SeqAt.rcAt_plain r1 r2 k1 k3 (by omega) _ _ E _ ?_
      rw [eqv_py 8 _ _ p1 p2]
      exact ⟨rfl, hP⟩
    · intro E
      refine SeqAt.eqAt_plain _ _ A s _ _ _ _ r1 r2 k1 k3 (by omega) _ _ E _ ?_
      rw [eqv_py 8 _ _ p1 p2]
      exact ⟨rfl, hP⟩
  intro n
  induction n with
  | zero =>
    refine ⟨fun A sb pins σ s H w S x y vx vy v u b I wr rx qx ry qy hz E => ?_, fun A sb pins σ s H w S x y vx vy v u b I wr rx qx ry qy hyr hxr hz E => by rw [eqA_z] at hz; cases hz⟩
    obtain ⟨n1, n2⟩ := eqE_nref hz
    rw [eqE_z] at hz
    split at hz
    · rename_i q
      obtain ⟨q1, q2⟩ := Bool.and_eq_true_iff.mp q
      cases hz
      exact (plain A (by have := hu65 sb.rg; omega) pins σ s H w S x y vx vy v u I wr (srep_of rx n1) qx (srep_of ry n2) qy q1 q2).2 E
    · cases hz
  | succ n ih =>
    constructor
    · intro A sb pins σ s H w S x y vx vy v u b I wr rx qx ry qy hz E
      obtain ⟨n1, n2⟩ := eqE_nref hz
      rw [eqE_s] at hz
      split at hz
      · rename_i q
        obtain ⟨q1, q2⟩ := Bool.and_eq_true_iff.mp q
        cases hz
        exact (plain A (by have := hu65 sb.rg; omega) pins σ s H w S x y vx vy v u I wr (srep_of rx n1) qx (srep_of ry n2) qy q1 q2).2 E
      · rename_i hnp
        cases z : eqA tab cls S n x y with
        | none => rw [z] at hz; cases hz
        | some k =>
          rw [z] at hz
          have run := ih.2 A (sb.mono (by omega)) pins σ s H w S x y vx vy v u k I wr (srep_of rx n1) qx (srep_of ry n2) qy (fun _ => ry) (fun _ => rx) z
          have hb : k = b := by
            cases k with
            | true => injection hz
            | false =>
              unfold idA at hz
              dsimp only at hz
              split at hz
              · injection hz
              · cases hz
          subst hb
          -- x is of the heap, or y is
          have side : (∃ a, v = .ref a) ∨ ((∃ p, u = .ref p) ∧ (∀ f t, v ≠ .float f t) ∧ ∀ a, v ≠ .ref a) := by
            cases n with
            | zero => rw [eqA_z] at z; cases z
            | succ n =>
              rw [eqA_s, if_neg hnp] at z
              have yo : ∀ {x : D}, shapeA (eqE tab cls S n) tab cls S x y = some k → (∀ l, x ≠ .lst l) → (∀ l, x ≠ .tup l) → (∀ c l, x ≠ .obj c l) → ∃ p, u = .ref p := fun {x} hz h1 h2 h3 => by
                cases y with
                | obj c l => cases ry; cases qy; exact ⟨_, rfl⟩
                | _ => cases x <;> first | cases hz | exact absurd rfl (h1 _) | exact absurd rfl (h2 _) | exact absurd rfl (h3 _ _)
              cases x with
              | lst l => cases rx; cases qx; exact .inl ⟨_, rfl⟩
              | tup l => cases rx; cases qx; exact .inl ⟨_, rfl⟩
              | obj c l => cases rx; cases qx; exact .inl ⟨_, rfl⟩
              | dct l => cases rx; cases qx; exact .inl ⟨_, rfl⟩
              | non => cases rx; cases qx; exact .inr ⟨yo z (by simp) (by simp) (by simp), by simp, by simp⟩
              | bl b => cases rx; cases qx; exact .inr ⟨yo z (by simp) (by simp) (by simp), by simp, by simp⟩
              | int i => cases rx; obtain ⟨t, rfl⟩ := qx; exact .inr ⟨yo z (by simp) (by simp) (by simp), by simp, by simp⟩
              | str i => cases rx; obtain ⟨t, rfl⟩ := qx; exact .inr ⟨yo z (by simp) (by simp) (by simp), by simp, by simp⟩
              | _ => cases y <;> simp [shapeA, rhsB] at z
          rcases side with ⟨a, rfl⟩ | ⟨⟨p, rfl⟩, hfl, hnr⟩
          rotate_left
          · exact eqBool_R hfl (hnr p) (wpAny_mono (run E) (fun r s' q => ⟨k, q.1, rfl, q.2⟩) fun _ _ e => e)
          by_cases hv : Value.ref a = u
          · subst hv
            refine eqBool_S ⟨?_, H, w, I, Wd.le.refl _, wr⟩
            cases k with
            | true => rfl
            | false =>
              exfalso
              unfold idA at hz
              dsimp only at hz
              split at hz
              · rename_i hd
                have e1 : vx = .ref a := by
                  cases vx <;> simp [L2.RelV] at qx
                  rw [qx]
                have e2 : vy = .ref a := by
                  cases vy <;> simp [L2.RelV] at qy
                  rw [qy]
                subst e1 e2
                exact hd.2.2 (rep_inj h I wr 8 x y _ hd.1 hd.2.1 rx ry)
              · cases hz
          · exact eqBool_L hv (wpAny_mono (run E) (fun r s' q => ⟨k, q.1, rfl, q.2⟩) fun _ _ e => e)
    · intro A sb pins σ s H w S x y vx vy v u b I wr rx qx ry qy hyr hxr hz E
      rw [eqA_s] at hz
      split at hz
      · rename_i q
        obtain ⟨q1, q2⟩ := Bool.and_eq_true_iff.mp q
        cases hz
        exact (plain A (by have := hu65 sb.rg; omega) pins σ s H w S x y vx vy v u I wr rx qx ry qy q1 q2).1 E
      · rename_i hnp
        have hu : A.units < cLine := by have := hu65 sb.rg; omega
        unfold shapeA at hz
        split at hz
        · rename_i l l'
          obtain ⟨a, rfl, h1⟩ := lst_at rx
          obtain ⟨a', rfl, h2⟩ := lst_at ry
          cases qx
          cases qy
          split at hz
          · rename_i hlen
            refine GQ.rc_list_eqJ hu _ _ (list_J (ih.1 A.in1 (SubG.in1 (sb.mono (by omega)))) wr hlen h1 h2 E (b := b)) (fun s' q => ?_) (fun s' q => ?_) ⟨by simpa using hz, H, w, I, Wd.le.refl _, wr⟩
            · obtain ⟨q1, q2⟩ := q
              rw [List.drop_of_length_le (Nat.le_refl _), List.drop_of_length_le (by omega), zipA] at q1
              · injection q1 with q1
                exact ⟨by rw [q1], q2⟩
              · intros; simp_all
            · obtain ⟨rfl, q2⟩ := q
              exact ⟨rfl, q2⟩
          · rename_i hlen
            cases hz
            obtain ⟨vs, e1, r1⟩ := h1 w H (Wd.le.refl _) wr
            obtain ⟨vs', e2, r2⟩ := h2 w H (Wd.le.refl _) wr
            obtain ⟨z, its, k, r, e⟩ := I.hok a _ e1
            obtain ⟨z2, its2, k2, r', e'⟩ := I.hok a' _ e2
            refine SeqAt.RcAt.lists_lengths (items := its.toArray) (items2 := its2.toArray) ⟨_, e, rfl, _, rfl⟩ ⟨_, e', rfl, _, rfl⟩ ?_ hu _ _ E _ ⟨rfl, H, w, I, Wd.le.refl _, wr⟩
            rw [List.size_toArray, List.size_toArray, ← r.length, ← r'.length, ← r1.length, ← r2.length]
            simpa using hlen
        · rename_i l l'
          obtain ⟨a, vs, rfl, q1, r1⟩ := tup_at rx
          obtain ⟨a', vs', rfl, q2, r2⟩ := tup_at ry
          cases qx
          cases qy
          obtain ⟨its, v1, e1, _⟩ := I.tuple (by rw [h.K]; exact sqt_sub wr q1)
          obtain ⟨its', v2, e2, _⟩ := I.tuple (by rw [h.K]; exact sqt_sub wr q2)
          cases zz : zipA (eqE tab cls S n) l l' with
          | none => rw [zz] at hz; cases hz
          | some k =>
            rw [zz] at hz
            have hb : (k && decide (l.length = l'.length)) = b := by injection hz
            have s1 : its.toArray.size = l.length := by rw [List.size_toArray, ← v1.length, ← r1.length]
            have s2 : its'.toArray.size = l'.length := by rw [List.size_toArray, ← v2.length, ← r2.length]
            refine GQ.rc_tup_eqJ hu (fun i s' => zipA (eqE tab cls S n) (l.drop i) (l'.drop i) = some k ∧ Post X T pins σ w S s') (fun s' => k = false ∧ Post X T pins σ w S s') e1 e2 (fun i k1 k2 s' q => ?_) (fun s' q => ?_) (fun s' q => ?_) ⟨by simpa using zz, H, w, I, Wd.le.refl _, wr⟩
            · obtain ⟨z1, H', w', I', le, wr'⟩ := q
              refine wpAny_mono (seq_turn (ih.1 A.in1 (SubG.in1 (sb.mono (by omega)))) I' wr' (r1.monoS le.tosb) (r2.monoS le.tosb) v1 v2 k1 k2 z1 E) (fun r s2 hk => ?_) fun _ _ e => e
              rcases hk with ⟨rfl, hz2, hP2⟩ | ⟨rfl, hb, hP2⟩
              · exact .inl ⟨rfl, hz2, hP2.le le⟩
              · exact .inr ⟨rfl, hb, hP2.le le⟩
            · obtain ⟨z1, hP⟩ := q
              have : k = true := by
                rw [s1, s2] at z1
                rcases Nat.le_total l.length l'.length with g | g
                · rw [Nat.min_eq_left g, List.drop_of_length_le (Nat.le_refl _), zipA] at z1
                  · injection z1 with z1; exact z1.symm
                  · intros; simp_all
                · rw [Nat.min_eq_right g, List.drop_of_length_le (l := l') (Nat.le_refl _), zipA] at z1
                  · injection z1 with z1; exact z1.symm
                  · intros; simp_all
              subst this
              rw [s1, s2]
              refine ⟨?_, hP⟩
              rw [← hb]
              congr 1
            · obtain ⟨rfl, hP⟩ := q
              exact ⟨by rw [← hb]; rfl, hP⟩
        · rename_i c fx
          split at hz
          · rename_i hrhs
            split at hz
            · rename_i m hm
              have rx := obj_at rx
              obtain ⟨k, d, hk, ok, M, hbd⟩ := (h.cl c m hm).ex
              have hq : m [.obj c fx, y] S = .ok (.bl b) S := by
                unfold methB at hz
                split at hz
                · split at hz
                  · rename_i b' S' e1 e2
                    injection hz with e3
                    rw [e1, e2, e3]
                  · cases hz
                · cases hz
              have ry' : Rep T w y vy := hyr ⟨_, _, rfl⟩
              obtain ⟨tb, L, nf⟩ := ty_rhs h I wr hm ry' qy hrhs
              have rx0 := rx
              cases rx with
              | obj hG hn hrs =>
                cases qx
                obtain ⟨mA, J, _⟩ := ins_get I.hok (wr.sub _ _ hG)
                obtain ⟨od, J, _⟩ := J.look
                obtain ⟨mf, hF⟩ := I.fr
                have e0 : Env0 X.prog X.w T.K X.mg X.base A X.stack s H := by
                  have e := sb.fr s H I.env0
                  rw [h.K] at e
                  exact e
                refine PySem.W.cmp_K (op := .Eq) (tb := tb) sb.rg.rm.units0 hF I.ok.mod.kin J L (by rw [h.K]; exact nf) (by rw [h.K]; exact M.at_) (by rw [h.K]; exact M.fn) ?_
                refine wpAny_mono (meth2_runG h.K ok (sb.rg.mono (by omega)) hbd I e0 wr rx0 ry' qy hq) (fun r s' q => ?_) fun _ _ e => e
                obtain ⟨rfl, hP⟩ := q
                exact ⟨rfl, hP⟩
            · cases hz
          · cases hz
        · rename_i c fy hno
          split at hz
          · rename_i hrhs
            split at hz
            · rename_i m hm
              have ry := obj_at ry
              obtain ⟨k, d, hk, ok, M, hbd⟩ := (h.cl c m hm).ex
              have hq : m [.obj c fy, x] S = .ok (.bl b) S := by
                unfold methB at hz
                split at hz
                · split at hz
                  · rename_i b' S' e1 e2
                    injection hz with e3
                    rw [e1, e2, e3]
                  · cases hz
                · cases hz
              have rx' : Rep T w x vx := hxr ⟨_, _, rfl⟩
              have hrhs2 : rhsB [] x = true := by
                cases x <;> first | rfl | cases hrhs | exact absurd rfl (fun e => hno _ _ e)
              have ry0 := ry
              cases ry with
              | obj hG hn hrs =>
                cases qy
                obtain ⟨mA, J, _⟩ := ins_get I.hok (wr.sub _ _ hG)
                have hge := J.1
                obtain ⟨od, J, _⟩ := J.look
                obtain ⟨mf, hF⟩ := I.fr
                obtain ⟨Ta, ida, ha, hTa, h1, hdec⟩ := decl_of h.K I wr rx' qx hrhs2 (A := A) (E := E)
                have e0 : Env0 X.prog X.w T.K X.mg X.base A X.stack s H := by
                  have e := sb.fr s H I.env0
                  rw [h.K] at e
                  exact e
                have hsub := h.sub c m hm Ta hTa
                refine rc_right (ida := ida) sb.rg.rm.units0 hF I.ok.mod.kin J ha (by rw [h.K]; exact hsub) h1 (fun Q' hQ => hdec _ _ _ hge (PySem.W.looks_subIn (I.ok.mod.kin.keeps hF.keep) (by rw [h.K]; exact hsub)) Q' hQ) (by rw [h.K]; exact M.at_) (by rw [h.K]; exact M.fn) ?_
                refine wpAny_mono (meth2_runG h.K ok (sb.rg.mono (by omega)) hbd I e0 wr ry0 rx' qx hq) (fun r s' q => ?_) fun _ _ e => e
                obtain ⟨rfl, hP⟩ := q
                exact ⟨rfl, hP⟩
            · cases hz
          · cases hz
        · cases hz
end
end Ro
end
section
set_option Elab.async false
set_option linter.all false
set_option maxRecDepth 100000
set_option maxHeartbeats 4000000
namespace Ro
open PySem PySem.Spec PyProof.Rows L2
section
variable {T : Tb} {E : XK} {X : Cx} {tab : ETab} {cls : List String} {kk : Nat} {a b : Expr} {f g : EX} {pos : Pos}
theorem neA_run (h : EqH T X tab cls kk) (n : Nat) (A : Around) (sb : SubG X (kk + n + 2) A) (pins : List (Addr × Obj)) (σ : L2.St) (s : Shared) (H : Hp) (w : Wd) (S : Store) (x y : D) (vx vy : V) (v u : Value) (b : Bool) (I : Inv X pins σ H s) (wr : WR T w S H) (rx : SRep T w S x vx) (qx : RelV vx v) (ry : SRep T w S y vy) (qy : RelV vy u) (hyr : (∃ c l, x = .obj c l) → Rep T w y vy) (hno : (∃ c l, y = .obj c l) → ∃ c l, x = .obj c l)
    (hz : eqA tab cls S n x y = some b) (E : Value → Shared → Prop) : wpAny (model X.prog X.w) A (richCompare .NotEq v u) (fun r s' => r = .bool (!b) ∧ Post X T pins σ w S s') E s := by
  have hu : A.units < cLine := by have := hu65 sb.rg; omega
  cases n with
  | zero => rw [eqA_z] at hz; cases hz
  | succ n =>
    have el := (eqA_run h n).1 A.in1 (SubG.in1 (sb.mono (by omega)))
    rw [eqA_s] at hz
    split at hz
    · rename_i q
      obtain ⟨p1, p2⟩ := Bool.and_eq_true_iff.mp q
      cases hz
      obtain ⟨as, r1⟩ := Dp.reads I _ vx v (by rw [h.K]; exact dp_s wr p1 rx) qx
      obtain ⟨bs, r2⟩ := Dp.reads I _ vy u (by rw [h.K]; exact dp_s wr p2 ry) qy
      obtain ⟨k1, k2⟩ := toPy_ok 8 _ p1
      obtain ⟨k3, k4⟩ := toPy_ok 8 _ p2
      refine SeqAt.rcNe_plain r1 r2 k1 k3 (by have := hu65 sb.rg; omega) _ _ E _ ?_
      rw [eqv_py 8 _ _ p1 p2]
      exact ⟨rfl, H, w, I, Wd.le.refl _, wr⟩
    · rename_i hnp
      unfold shapeA at hz
      split at hz
      · rename_i l l'
        obtain ⟨a, rfl, h1⟩ := lst_at rx
        obtain ⟨a', rfl, h2⟩ := lst_at ry
        cases qx
        cases qy
        split at hz
        · rename_i hlen
          refine GQ.rc_list_neJ hu _ _ (list_J el wr hlen h1 h2 E (b := b)) (fun s' q => ?_) (fun s' q => ?_) ⟨by simpa using hz, H, w, I, Wd.le.refl _, wr⟩
          · obtain ⟨q1, q2⟩ := q
            rw [List.drop_of_length_le (Nat.le_refl _), List.drop_of_length_le (by omega), zipA] at q1
            · injection q1 with q1
              exact ⟨by rw [← q1]; rfl, q2⟩
            · intros; simp_all
          · obtain ⟨rfl, q2⟩ := q
            exact ⟨rfl, q2⟩
        · rename_i hlen
          cases hz
          obtain ⟨vs, e1, r1⟩ := h1 w H (Wd.le.refl _) wr
          obtain ⟨vs', e2, r2⟩ := h2 w H (Wd.le.refl _) wr
          obtain ⟨z, its, k, r, e⟩ := I.hok a _ e1
          obtain ⟨z2, its2, k2, r', e'⟩ := I.hok a' _ e2
          refine SeqAt.RcNeAt.lists_lengths (items := its.toArray) (items2 := its2.toArray) ⟨_, e, rfl, _, rfl⟩ ⟨_, e', rfl, _, rfl⟩ ?_ hu _ _ E _ ⟨rfl, H, w, I, Wd.le.refl _, wr⟩
          rw [List.size_toArray, List.size_toArray, ← r.length, ← r'.length, ← r1.length, ← r2.length]
          simpa using hlen
      · rename_i l l'
        obtain ⟨a, vs, rfl, q1, r1⟩ := tup_at rx
        obtain ⟨a', vs', rfl, q2, r2⟩ := tup_at ry
        cases qx
        cases qy
        obtain ⟨its, v1, e1, _⟩ := I.tuple (by rw [h.K]; exact sqt_sub wr q1)
        obtain ⟨its', v2, e2, _⟩ := I.tuple (by rw [h.K]; exact sqt_sub wr q2)
        cases zz : zipA (eqE tab cls S n) l l' with
        | none => rw [zz] at hz; cases hz
        | some k =>
          rw [zz] at hz
          have hb : (k && decide (l.length = l'.length)) = b := by injection hz
          have s1 : its.toArray.size = l.length := by rw [List.size_toArray, ← v1.length, ← r1.length]
          have s2 : its'.toArray.size = l'.length := by rw [List.size_toArray, ← v2.length, ← r2.length]
          refine GQ.rc_tup_neJ hu (fun i s' => zipA (eqE tab cls S n) (l.drop i) (l'.drop i) = some k ∧ Post X T pins σ w S s') (fun s' => k = false ∧ Post X T pins σ w S s') e1 e2 (fun i k1 k2 s' q => ?_) (fun s' q => ?_) (fun s' q => ?_) ⟨by simpa using zz, H, w, I, Wd.le.refl _, wr⟩
          · obtain ⟨z1, H', w', I', le, wr'⟩ := q
            refine wpAny_mono (seq_turn el I' wr' (r1.monoS le.tosb) (r2.monoS le.tosb) v1 v2 k1 k2 z1 E) (fun r s2 hk => ?_) fun _ _ e => e
            rcases hk with ⟨rfl, hz2, hP2⟩ | ⟨rfl, hb, hP2⟩
            · exact .inl ⟨rfl, hz2, hP2.le le⟩
            · exact .inr ⟨rfl, hb, hP2.le le⟩
          · obtain ⟨z1, hP⟩ := q
            have : k = true := by
              rw [s1, s2] at z1
              rcases Nat.le_total l.length l'.length with g | g
              · rw [Nat.min_eq_left g, List.drop_of_length_le (Nat.le_refl _), zipA] at z1
                · injection z1 with z1; exact z1.symm
                · intros; simp_all
              · rw [Nat.min_eq_right g, List.drop_of_length_le (l := l') (Nat.le_refl _), zipA] at z1
                · injection z1 with z1; exact z1.symm
                · intros; simp_all
            subst this
            rw [s1, s2]
            refine ⟨?_, hP⟩
            rw [← hb, Bool.true_and]
            congr 1
          · obtain ⟨rfl, hP⟩ := q
            exact ⟨by rw [← hb]; rfl, hP⟩
      · rename_i c fx
        split at hz
        · rename_i hrhs
          split at hz
          · rename_i m hm
            have rx := obj_at rx
            have C := h.cl c m hm
            obtain ⟨k, d, hk, ok, M, hbd⟩ := C.ex
            have hq : m [.obj c fx, y] S = .ok (.bl b) S := by
              unfold methB at hz
              split at hz
              · split at hz
                · rename_i b' S' e1 e2
                  injection hz with e3
                  rw [e1, e2, e3]
                · cases hz
              · cases hz
            have ry' : Rep T w y vy := hyr ⟨_, _, rfl⟩
            obtain ⟨tb, L, nf⟩ := ty_rhs h I wr hm ry' qy hrhs
            have rx0 := rx
            cases rx with
            | obj hG hn hrs =>
              cases qx
              obtain ⟨mA, J, _⟩ := ins_get I.hok (wr.sub _ _ hG)
              obtain ⟨od, J, _⟩ := J.look
              obtain ⟨mf, hF⟩ := I.fr
              have sb1 := SubG.in1 (k := kk + n + 2) (sb.mono (by omega))
              have e0 : Env0 X.prog X.w T.K X.mg X.base A.in1 X.stack s H := by
                have e := sb1.fr s H I.env0
                rw [h.K] at e
                exact e
              have hu1 : A.in1.units + 1 < cLine := by have := hu65 sb1.rg; omega
              refine cmpNe_K (tb := tb) hu1 hF I.ok.mod.kin J L (by rw [h.K]; exact nf) (by rw [h.K]; exact C.ne) (by rw [h.K]; exact C.mo) (by rw [h.K]; exact M.at_) (by rw [h.K]; exact M.fn) (fun _ => rfl) ?_
              refine wpAny_mono (meth2_runG h.K ok (sb1.rg.mono (by omega)) hbd I e0 wr rx0 ry' qy hq) (fun r s' q => ?_) fun _ _ e => e
              obtain ⟨rfl, hP⟩ := q
              exact ⟨b, rfl, rfl, hP⟩
          · cases hz
        · cases hz
      · rename_i c fy hn
        obtain ⟨c', l', e⟩ := hno ⟨_, _, rfl⟩
        exact absurd e (fun e => hn _ _ e)
      · cases hz
def isObj : D → Bool
  | .obj _ _ => true
  | _ => false
/-- what is compared: objects as they are, lists that are being made as they stand -/
noncomputable def eqAP (tab : ETab) (cls : List String) (x y : D) (S : Store) : Option Bool := if isObj x || isObj y then eqA tab cls S 6 x y else eqA tab cls S 6 (seeD x S) (seeD y S)
noncomputable def eqAM (tab : ETab) (cls : List String) (op : Bool → Bool) (x y : D) (S : Store) : R D := if !(op true) && (isObj y && !isObj x) then .bad else match eqAP tab cls x y S with
  | some b => .ok (.bl (op b)) S
  | none => .bad
def rEqA (T : Tb) (tab : ETab) (cls : List String) (op : Bool → Bool) : R2 := fun x y H Q => ∃ w S d e b, WR T w S H ∧ Rep T w d x ∧ Rep T w e y ∧ (!(op true) && (isObj e && !isObj d)) = false ∧ eqAP tab cls d e S = some b ∧ ∀ w' H', w.le w' → WR T w' S H' → Q (.bl (op b)) H'
theorem see_nobj {d : D} {S : Store} (hd : isObj d = false) : ∀ c l, seeD d S ≠ .obj c l := by
  intro c l z
  unfold seeD at z
  split at z
  · split at z <;> cases z
  · rw [z] at hd; cases hd
theorem isObj_of {d : D} (h : isObj d = true) : ∃ c l, d = .obj c l := by
  cases d with
  | obj c l => exact ⟨_, _, rfl⟩
  | _ => cases h
theorem pair_s {w : Wd} {S : Store} {d e : D} {x y : V} (p : Rep T w d x) (q : Rep T w e y) {b : Bool} (h : eqAP tab cls d e S = some b) :
    ∃ d' e', SRep T w S d' x ∧ SRep T w S e' y ∧ ((∃ c l, d' = .obj c l) → Rep T w e' y) ∧ ((∃ c l, e' = .obj c l) → Rep T w d' x) ∧ ((isObj e && !isObj d) = false → (∃ c l, e' = .obj c l) → ∃ c l, d' = .obj c l) ∧ eqA tab cls S 6 d' e' = some b := by
  unfold eqAP at h
  cases hd : isObj d || isObj e with
  | true =>
    rw [hd, if_pos rfl] at h
    obtain ⟨n1, n2⟩ := eqA_nref h
    refine ⟨d, e, srep_of p n1, srep_of q n2, fun _ => q, fun _ => p, fun g ⟨c, l, z⟩ => ?_, h⟩
    subst z
    have : isObj d = true := by simpa [isObj] using g
    exact isObj_of this
  | false =>
    rw [hd, if_neg Bool.false_ne_true] at h
    obtain ⟨h1, h2⟩ := Bool.or_eq_false_iff.mp hd
    exact ⟨_, _, SRep.sees p, SRep.sees q, fun ⟨c, l, z⟩ => absurd z (see_nobj h1 c l), fun ⟨c, l, z⟩ => absurd z (see_nobj h2 c l), fun _ ⟨c, l, z⟩ => absurd z (see_nobj h2 c l), h⟩
theorem oi_eqA (h : EqH T X tab cls kk) (hr : RG (kk + 8) X.A) : OpR X (compareOp .Eq) (rEqA T tab cls id) := by
  intro pins s σ H x y v u Q I rx ry q
  obtain ⟨w, S, d, e, b, wr, p1, p2, hg, hz, hQ⟩ := q
  obtain ⟨d', e', s1, s2, s3, s3', s5, s4⟩ := pair_s p1 p2 hz
  refine wpAny_mono ((eqA_run h 6).2 X.A (SubG.here (hr.mono (by omega))) pins σ s H w S d' e' x y v u b I wr s1 rx s2 ry s3 s3' s4 X.xe) (fun r s' hk => ?_) fun _ _ e => e
  obtain ⟨rfl, H', w', I', le, wr'⟩ := hk
  exact ⟨.bl b, H', I', rfl, hQ w' H' le wr'⟩
theorem oi_neA (h : EqH T X tab cls kk) (hr : RG (kk + 8) X.A) : OpR X (compareOp .NotEq) (rEqA T tab cls not) := by
  intro pins s σ H x y v u Q I rx ry q
  obtain ⟨w, S, d, e, b, wr, p1, p2, hg, hz, hQ⟩ := q
  obtain ⟨d', e', s1, s2, s3, s3', s5, s4⟩ := pair_s p1 p2 hz
  refine wpAny_mono (neA_run h 6 X.A (SubG.here (hr.mono (by omega))) pins σ s H w S d' e' x y v u b I wr s1 rx s2 ry s3 (s5 (by simpa using hg)) s4 X.xe) (fun r s' hk => ?_) fun _ _ e => e
  obtain ⟨rfl, H', w', I', le, wr'⟩ := hk
  exact ⟨.bl (!b), H', I', rfl, hQ w' H' le wr'⟩
noncomputable def eEqA (tab : ETab) (cls : List String) (op : Bool → Bool) (f g : EX) : EX := fun env S => (f env S).bnd fun x S1 => (g env S1).bnd fun y S2 => eqAM tab cls op x y S2
theorem eqAM_of {op : Bool → Bool} {w : Wd} {d e : D} {S : Store} {x y : V} {H : Hp} {Q : VK} (r : WR T w S H) (p : Rep T w d x) (q : Rep T w e y) (h : RP (eqAM tab cls op d e S) (fun d S' => ∀ w' H' v, w.le w' → WR T w' S' H' → Rep T w' d v → Q v H') (XW T w E)) : rEqA T tab cls op x y H Q := by
  unfold eqAM at h
  split at h
  · exact h.elim
  · rename_i hg
    split at h
    · rename_i b hb
      exact ⟨w, S, d, e, b, r, p, q, by simpa using hg, hb, fun w' H' l r' => h w' H' _ l r' (.bl _)⟩
    · exact h.elim
theorem ib_eqA {o : CmpOp} {op : Bool → Bool} (ho : OpR X (compareOp o) (rEqA T tab cls op)) (ha : IE T E X a f) (hb : IE T E X b g) (hm : behindInMarks o b = false) : IB T E X (.Compare a [o] [b] pos) (bVal (eEqA tab cls op f g)) :=
  PT.mono (pt_cmpR ho ha hb hm) fun σ H Q q => by
    have q2 := tI_two (k := fun x y S => eqAM tab cls op x y S) (tI_bVal q)
    obtain ⟨w, env, S, r, e, h⟩ := q2
    refine ⟨w, env, S, r, e, h.mono (fun d S1 h1 w1 H1 x l1 r1 p1 => ?_) fun _ _ _ x => x⟩
    obtain ⟨w2, env2, S2, r2, e2, h2⟩ := h1 w1 H1 x l1 r1 p1
    refine ⟨w2, env2, S2, r2, e2, h2.mono (fun d S1 h1 w1 H1 x l1 r1 p1 => ?_) fun _ _ _ x => x⟩
    obtain ⟨w3, d3, e3, S3, r3, p3, q3, h3⟩ := h1 w1 H1 x l1 r1 p1
    exact eqAM_of r3 p3 q3 h3
end
end Ro
end
section
set_option Elab.async false
set_option linter.all false
set_option maxRecDepth 100000
set_option maxHeartbeats 4000000
namespace GQ
open PySem PySem.SeqAt
open AutoSeq1 (wpAny_loadPart')
open MeetsSeq MeetsSeq2 MeetsSeq3 SeqRoads2
section
variable {prog : Program} {w : World} {A : Around} {R : Result → Shared → Prop} {E : Value → Shared → Prop}
def OneL (l : Addr) (N : Nat) (s : Shared) (items : Array Value) : Prop := ∃ n : Nat, s.heap.get? l = some { cls := .type "list", data := .seq items n } ∧ items.size = N
def InJ (prog : Program) (w : World) (A : Around) (E : Value → Shared → Prop) (l : Addr) (x : Value) (N : Nat) (I : Nat → Shared → Prop) (Fl : Shared → Prop) : Prop :=
  ∀ i s, I i s → ∃ items, OneL l N s items ∧ ∀ (h1 : i < items.size), wpAny (model prog w) A.in1 (eqBool items[i] x) (fun r s' => (r = false ∧ I (i + 1) s') ∨ (r = true ∧ Fl s')) E s
theorem in_loopJ (l : Addr) (x : Value) (N : Nat) (I : Nat → Shared → Prop) (Fl : Shared → Prop) (hl : InJ prog w A (fun e s' => R (.error e) s') l x N I Fl)
    (fin : ∀ s, I N s → R (.ok (.ret (.bool false))) s) (finF : ∀ s, Fl s → R (.ok (.ret (.bool true))) s) (k : Nat) :
    ∀ i : Nat, N - i = k → i ≤ N → ∀ s, I i s →
      wpAny (model prog w) A.in1 (Builtin.«list.__contains__.loop» ⟨[.ref l, x, rawInt i], []⟩) (FinOf prog w A R) (fun e s' => R (.error e) s') s := by
  induction k with
  | zero =>
    intro i hk hi s h
    obtain ⟨items, ⟨n, hl1, hs1⟩, _⟩ := hl _ _ h
    have hi' : i = N := by omega
    have hR : R (.ok (.ret (.bool false))) s := fin s (hi' ▸ h)
    obtain ⟨hp, g, d, tk, os⟩ := s
    wp_walk using wpAny_loadPart' hl1
    have hi1 : items[((i : Nat) : Int).toNat]? = none := by simp; omega
    rw [hi1]
    wp_walk
    exact hR
  | succ k ih =>
    intro i hk hi s h
    obtain ⟨items, ⟨n, hl1, hs1⟩, turn⟩ := hl _ _ h
    have hlt : i < items.size := by omega
    have ht := turn hlt
    obtain ⟨hp, g, d, tk, os⟩ := s
    wp_walk using wpAny_loadPart' hl1
    have hi1 : items[((i : Nat) : Int).toNat]? = some items[i] := by simp [hlt]
    have hc : ((i : Int) + 1) = ((i + 1 : Nat) : Int) := by omega
    rw [hi1]
    refine wpAny_bind (wpAny_mono ht (fun r s2 h2 => ?_) fun _ _ x => x)
    rcases h2 with ⟨hr, h2⟩ | ⟨hr, hF⟩
    · subst hr
      have hrec := ih (i + 1) (by omega) (by omega) s2 h2
      obtain ⟨hp2, g2, d2, tk2, os2⟩ := s2
      wp_walk
      rw [hc]
      exact ⟨plainId_quiet plain_contains_loop _, codeAny_builtin entry_contains_loop (by
        rw [Around.under_plainId plain_contains_loop _]
        exact hrec)⟩
    · subst hr
      have hR : R (.ok (.ret (.bool true))) s2 := finF s2 hF
      obtain ⟨hp2, g2, d2, tk2, os2⟩ := s2
      wp_walk
      exact hR
theorem list_inJ (l : Addr) (x : Value) (N : Nat) (I : Nat → Shared → Prop) (Fl : Shared → Prop) (hl : InJ prog w A (fun e s' => R (.error e) s') l x N I Fl)
    (fin : ∀ s, I N s → R (.ok (.ret (.bool false))) s) (finF : ∀ s, Fl s → R (.ok (.ret (.bool true))) s) {s : Shared} (h : I 0 s) :
    wpAny (model prog w) A.in1 (Builtin.«list.__contains__» ⟨[.ref l, x], []⟩) (FinOf prog w A R) (fun e s' => R (.error e) s') s := by
  obtain ⟨items, ⟨n, hl1, hs1⟩, _⟩ := hl _ _ h
  have hrec := in_loopJ (A := A) (R := R) l x N I Fl hl fin finF _ 0 rfl (Nat.zero_le _) s h
  obtain ⟨hp, g, d, tk, os⟩ := s
  wp_walk using wpAny_loadPart' hl1
  exact ⟨plainId_quiet plain_contains_loop _, codeAny_builtin entry_contains_loop (by
    rw [Around.under_plainId plain_contains_loop _]
    exact hrec)⟩
theorem op_inJ {l : Addr} {x : Value} {N : Nat} {Q : Value → Shared → Prop} {s : Shared} (I : Nat → Shared → Prop) (Fl : Shared → Prop) (hl : InJ prog w A E l x N I Fl)
    (fin : ∀ s, I N s → Q (.bool false) s) (finF : ∀ s, Fl s → Q (.bool true) s) (h : I 0 s) : wpAny (model prog w) A (compareOp .In x (.ref l)) Q E s := by
  obtain ⟨items, ⟨n, hl1, _⟩, _⟩ := hl _ _ h
  show wpAny _ A (do return .bool (← contains (.ref l) x)) Q E s
  refine wpAny_bind (wpAny_contains_slot ⟨_, hl1, rfl⟩ F.slot_list_contains (wpAny_mono (call_here F.slot_list_contains ⟨_, hl1, rfl⟩ F.entry_list_contains (F.args_list_contains_2 _ _) (list_inJ (R := wants (fun v s' => ∃ b, v = .bool b ∧ Q (.bool b) s') E) l x N I Fl hl (fun s' q => ⟨_, rfl, fin s' q⟩) (fun s' q => ⟨_, rfl, finF s' q⟩) h)) (fun v s' hv => ?_) fun _ _ e => e))
  obtain ⟨b, rfl, hq⟩ := hv
  exact wpAny_truthy_bool (wpAny_pure hq)
theorem op_ninJ {l : Addr} {x : Value} {N : Nat} {Q : Value → Shared → Prop} {s : Shared} (I : Nat → Shared → Prop) (Fl : Shared → Prop) (hl : InJ prog w A E l x N I Fl)
    (fin : ∀ s, I N s → Q (.bool true) s) (finF : ∀ s, Fl s → Q (.bool false) s) (h : I 0 s) : wpAny (model prog w) A (compareOp .NotIn x (.ref l)) Q E s := by
  obtain ⟨items, ⟨n, hl1, _⟩, _⟩ := hl _ _ h
  show wpAny _ A (do return .bool (!(← contains (.ref l) x))) Q E s
  refine wpAny_bind (wpAny_contains_slot ⟨_, hl1, rfl⟩ F.slot_list_contains (wpAny_mono (call_here F.slot_list_contains ⟨_, hl1, rfl⟩ F.entry_list_contains (F.args_list_contains_2 _ _) (list_inJ (R := wants (fun v s' => ∃ b, v = .bool b ∧ Q (.bool (!b)) s') E) l x N I Fl hl (fun s' q => ⟨_, rfl, fin s' q⟩) (fun s' q => ⟨_, rfl, finF s' q⟩) h)) (fun v s' hv => ?_) fun _ _ e => e))
  obtain ⟨b, rfl, hq⟩ := hv
  exact wpAny_truthy_bool (wpAny_pure hq)
end
end GQ
namespace Ro
open PySem PySem.Spec PyProof.Rows L2
section
variable {T : Tb} {E : XK} {X : Cx} {tab : ETab} {cls : List String} {kk : Nat} {a b : Expr} {f g : EX} {pos : Pos} {pins : List (Addr × Obj)} {σ : L2.St} {s : Shared} {H : Hp} {w : Wd} {S : Store}
def anyA (e : D → Option Bool) : List D → Option Bool
  | [] => some false
  | y :: l => match e y with
    | some true => some true
    | some false => anyA e l
    | none => none
noncomputable def inAM (tab : ETab) (cls : List String) (op : Bool → Bool) (x y : D) (S : Store) : R D := match seeD y S with
  | .lst l => match anyA (fun z => eqE tab cls S 6 z x) l with
    | some b => .ok (.bl (op b)) S
    | none => .bad
  | _ => .bad
def rInA (T : Tb) (tab : ETab) (cls : List String) (op : Bool → Bool) : R2 := fun x y H Q => ∃ w S d e l b, WR T w S H ∧ Rep T w d x ∧ Rep T w e y ∧ seeD e S = .lst l ∧ anyA (fun z => eqE tab cls S 6 z d) l = some b ∧ ∀ w' H', w.le w' → WR T w' S H' → Q (.bl (op b)) H'
theorem in_J {A : Around} (he : ElR T X tab cls 6 A.in1) {d : D} {x : V} {v : Value} (rx : Rep T w d x) (qx : RelV x v) {l : List D} {a : Addr} (h1 : ∀ w' H', w.le w' → WR T w' S H' → ∃ vs, H' a = some (.lst vs) ∧ Reps T w' l vs) {b : Bool} (E : Value → Shared → Prop) :
    GQ.InJ X.prog X.w A E a v l.length (fun i s' => anyA (fun z => eqE tab cls S 6 z d) (l.drop i) = some b ∧ Post X T pins σ w S s') (fun s' => b = true ∧ Post X T pins σ w S s') := by
  intro i s' ⟨hz, hP⟩
  obtain ⟨H', w', I, le, wr⟩ := hP
  obtain ⟨vs, e1, r1⟩ := h1 w' H' le wr
  obtain ⟨z, its, k, r, e⟩ := I.hok a _ e1
  refine ⟨its.toArray, ⟨k, e, by rw [List.size_toArray, ← r.length, ← r1.length]⟩, fun hi => ?_⟩
  have hl : i < l.length := by rw [r1.length, r.length]; simpa using hi
  obtain ⟨vx, p1, p2⟩ := reps_get r1 r hl hi
  rw [List.drop_eq_getElem_cons hl, anyA] at hz
  cases y : eqE tab cls S 6 l[i] d with
  | none => rw [y] at hz; cases hz
  | some q =>
    rw [y] at hz
    refine wpAny_mono (he pins σ s' H' w' S _ _ vx x _ v q I wr p1 p2 (rx.monoS le.tosb) qx y E) (fun k' s2 hk => ?_) fun _ _ e => e
    obtain ⟨rfl, hP2⟩ := hk
    cases k' with
    | true =>
      have : b = true := by injection hz with e; exact e.symm
      exact .inr ⟨rfl, this, hP2.le le⟩
    | false => exact .inl ⟨rfl, hz, hP2.le le⟩
theorem oi_inA (h : EqH T X tab cls kk) (hr : RG (kk + 8) X.A) : OpR X (compareOp .In) (rInA T tab cls id) := by
  intro pins s σ H x y v u Q I rx ry q
  obtain ⟨w, S, d, e, l, b, wr, p1, p2, hs, hz, hQ⟩ := q
  obtain ⟨a, rfl, h1⟩ := lst_at (S := S) (l := l) (v := y) ⟨e, hs.symm, p2⟩
  cases ry
  have el := (eqA_run h 6).1 X.A.in1 (SubG.in1 (SubG.here (hr.mono (by omega))))
  refine GQ.op_inJ (N := l.length) _ _ (in_J (pins := pins) (σ := σ) el p1 rx h1 (b := b) X.xe) (fun s' q => ?_) (fun s' q => ?_) ⟨by simpa using hz, H, w, I, Wd.le.refl _, wr⟩
  · obtain ⟨q1, H', w', I', le, wr'⟩ := q
    rw [List.drop_of_length_le (Nat.le_refl _), anyA] at q1
    injection q1 with q1
    subst q1
    exact ⟨.bl false, H', I', rfl, hQ w' H' le wr'⟩
  · obtain ⟨rfl, H', w', I', le, wr'⟩ := q
    exact ⟨.bl true, H', I', rfl, hQ w' H' le wr'⟩
theorem oi_ninA (h : EqH T X tab cls kk) (hr : RG (kk + 8) X.A) : OpR X (compareOp .NotIn) (rInA T tab cls not) := by
  intro pins s σ H x y v u Q I rx ry q
  obtain ⟨w, S, d, e, l, b, wr, p1, p2, hs, hz, hQ⟩ := q
  obtain ⟨a, rfl, h1⟩ := lst_at (S := S) (l := l) (v := y) ⟨e, hs.symm, p2⟩
  cases ry
  have el := (eqA_run h 6).1 X.A.in1 (SubG.in1 (SubG.here (hr.mono (by omega))))
  refine GQ.op_ninJ (N := l.length) _ _ (in_J (pins := pins) (σ := σ) el p1 rx h1 (b := b) X.xe) (fun s' q => ?_) (fun s' q => ?_) ⟨by simpa using hz, H, w, I, Wd.le.refl _, wr⟩
  · obtain ⟨q1, H', w', I', le, wr'⟩ := q
    rw [List.drop_of_length_le (Nat.le_refl _), anyA] at q1
    injection q1 with q1
    subst q1
    exact ⟨.bl true, H', I', rfl, hQ w' H' le wr'⟩
  · obtain ⟨rfl, H', w', I', le, wr'⟩ := q
    exact ⟨.bl false, H', I', rfl, hQ w' H' le wr'⟩
noncomputable def eInA (tab : ETab) (cls : List String) (op : Bool → Bool) (f g : EX) : EX := fun env S => (f env S).bnd fun x S1 => (g env S1).bnd fun y S2 => inAM tab cls op x y S2
theorem inAM_of {op : Bool → Bool} {w : Wd} {d e : D} {S : Store} {x y : V} {H : Hp} {Q : VK} (r : WR T w S H) (p : Rep T w d x) (q : Rep T w e y) (h : RP (inAM tab cls op d e S) (fun d S' => ∀ w' H' v, w.le w' → WR T w' S' H' → Rep T w' d v → Q v H') (XW T w E)) : rInA T tab cls op x y H Q := by
  unfold inAM at h
  split at h
  · rename_i l hl
    split at h
    · rename_i b hb
      exact ⟨w, S, d, e, l, b, r, p, q, hl, hb, fun w' H' l r' => h w' H' _ l r' (.bl _)⟩
    · exact h.elim
  · exact h.elim
theorem ib_inA {o : CmpOp} {op : Bool → Bool} (ho : OpR X (compareOp o) (rInA T tab cls op)) (ha : IE T E X a f) (hb : IE T E X b g) (hm : behindInMarks o b = false) : IB T E X (.Compare a [o] [b] pos) (bVal (eInA tab cls op f g)) :=
  PT.mono (pt_cmpR ho ha hb hm) fun σ H Q q => by
    have q2 := tI_two (k := fun x y S => inAM tab cls op x y S) (tI_bVal q)
    obtain ⟨w, env, S, r, e, h⟩ := q2
    refine ⟨w, env, S, r, e, h.mono (fun d S1 h1 w1 H1 x l1 r1 p1 => ?_) fun _ _ _ x => x⟩
    obtain ⟨w2, env2, S2, r2, e2, h2⟩ := h1 w1 H1 x l1 r1 p1
    refine ⟨w2, env2, S2, r2, e2, h2.mono (fun d S1 h1 w1 H1 x l1 r1 p1 => ?_) fun _ _ _ x => x⟩
    obtain ⟨w3, d3, e3, S3, r3, p3, q3, h3⟩ := h1 w1 H1 x l1 r1 p1
    exact inAM_of r3 p3 q3 h3
end
end Ro
end
section
set_option Elab.async false
set_option linter.all false
set_option maxRecDepth 100000
set_option maxHeartbeats 4000000
namespace Ro
open PySem PySem.Spec PyProof.Rows L2
variable {T : Tb} {E : XK} {X : Cx} {a b : Expr} {f g : EX} {pos : Pos}
def repS (x : Str) (k : Int) : Str := if k = 1 then x else ⟨(List.replicate k.toNat x.cps).foldl (· ++ ·) #[]⟩
def mulS : D → D → Option D
  | .str x, .int k => if (1 ≤ k ∧ k ≤ 100) ∧ 1 ≤ x.length ∧ x.length ≤ 100 then some (.str (repS x k)) else none
  | _, _ => none
theorem oi_mulS : OpR X (binaryOp .Mult) (rOp T mulS) := fun pins s σ H x y v u Q I rx ry q => by
  obtain ⟨w, d, e, r, S, h1, h2, h3, h4, h5⟩ := q
  unfold mulS at h4
  split at h4
  · rename_i z k
    cases h2
    cases h3
    split at h4
    · rename_i hl
      obtain ⟨⟨k1, k2⟩, l1, l2⟩ := hl
      cases h4
      obtain ⟨t, rfl⟩ := rx
      obtain ⟨t2, rfl⟩ := ry
      have q0 := h5 w H _ (Wd.le.refl _) h1 (.str _)
      refine P.mul_str (by rw [decide_eq_false (by omega), decide_eq_false (by omega)]; rfl) (fun _ _ => ?_) (fun _ _ => ?_) ?_
      · have : (z.length : Int) * k ≤ 100 * 100 := Int.mul_le_mul (by omega) k2 (by omega) (by omega)
        have := Int.le_ediv_of_mul_le (a := (z.length : Int)) (b := (2 ^ 63 - 1)) (c := k) (by omega) (by omega)
        omega
      · have : z.length * k.toNat ≤ 100 * 100 := Nat.mul_le_mul l2 (by omega)
        unfold Builtin.Str.tooLong
        exact decide_eq_false (by rw [sizeLine_eq]; omega)
      · rw [if_neg (by omega)]
        unfold repS at q0
        by_cases c : k = 1
        · subst c
          rw [if_pos rfl] at q0
          rw [if_pos (by rfl)]
          exact ⟨.str z, H, I, ⟨t, rfl⟩, q0⟩
        · rw [if_neg c] at q0
          have hn : (k == 1 || z.length == 0) = false := by
            rw [Bool.or_eq_false_iff]
            exact ⟨beq_eq_false_iff_ne.mpr c, beq_eq_false_iff_ne.mpr (by omega)⟩
          rw [hn, if_neg Bool.false_ne_true]
          refine ⟨?_, .str _, H, I.tok _, ⟨_, rfl⟩, q0⟩
          have fl : ∀ (m : Nat) (acc : Array Nat), (List.foldl (fun x1 x2 => x1 ++ x2) acc (List.replicate m z.cps)).size = acc.size + m * z.cps.size := fun m => by
            induction m with
            | zero => intro acc; simp
            | succ m ih =>
              intro acc
              rw [List.replicate_succ, List.foldl_cons, ih, Array.size_append, Nat.add_mul]
              omega
          show (List.foldl (fun x1 x2 => x1 ++ x2) #[] (List.replicate k.toNat z.cps)).size ≤ sizeLine
          rw [fl, sizeLine_eq]
          have e : z.cps.size = z.length := rfl
          have : k.toNat * z.cps.size ≤ 100 * 100 := Nat.mul_le_mul (by omega) (by omega)
          simp
          omega
    · cases h4
  · cases h4
def notBD : D → D → Option D
  | .bl a, .bl b => some (.bl (!(a == b)))
  | .non, .bl _ => some (.bl true)
  | _, _ => none
theorem oi_isnotB : OpR X (compareOp .IsNot) (rOp T notBD) := fun pins s σ H x y v u Q I rx ry q => by
  obtain ⟨w, d, e, r, S, h1, h2, h3, h4, h5⟩ := q
  unfold notBD at h4
  split at h4
  · rename_i a b
    cases h2
    cases h3
    cases rx
    cases ry
    cases h4
    have q0 := h5 w H _ (Wd.le.refl _) h1 (.bl _)
    show wpAny _ _ (do return Value.bool (!(← isSame (Value.bool a) (Value.bool b)))) _ _ _
    have e : isSame (.bool a) (.bool b) = pure (a == b) := by cases a <;> cases b <;> rfl
    rw [e]
    exact wpAny_bind (wpAny_pure (wpAny_pure ⟨.bl _, H, I, rfl, q0⟩))
  · rename_i b
    cases h2
    cases h3
    cases rx
    cases ry
    cases h4
    have q0 := h5 w H _ (Wd.le.refl _) h1 (.bl true)
    show wpAny _ _ (do return Value.bool (!(← isSame Value.none (Value.bool b)))) _ _ _
    have e : isSame .none (.bool b) = pure false := by cases b <;> rfl
    rw [e]
    exact wpAny_bind (wpAny_pure (wpAny_pure ⟨.bl true, H, I, rfl, q0⟩))
  · cases h4
end Ro
end
section
set_option Elab.async false
set_option linter.all false
set_option maxRecDepth 100000
set_option maxHeartbeats 4000000
namespace Ro
open PySem PySem.Spec PyProof.Rows L2 L2H LamX PySem.RoXb
noncomputable section
def cf : String → List String
  | "NoRule" => ["part"]
  | "Rule" => ["name", "deed", "bound", "kind", "town", "first", "last", "over", "paper"]
  | _ => []
def kv_BOUNDS : List (PySem.Str × He.Dv) := [("let", .int 0), ("cut", .int 1000000000000), ("each", .int 1000), ("hundredths", .int 100), ("refuse", .int 0)]
def dcsL : List (String × List String) := [("BOUNDS", ["let", "cut", "each", "hundredths", "refuse"])]
def tysL : List Ty := [.b "NoneType", .b "bool", .b "int", .b "str", .b "tuple", .b "list", .b "dict", .o "Rule"]
def b__law_bound : ES :=
  (sSeq (sSet 2 (eOp powD (eC (.int 10)) (eC (.int 12))))
  (sSeq (sIf (bVal (eOp eqD (eVar 1) (eC (.str "cut")))) (sRet (eIdxB (eLst (aCons (eC (.int 0)) (aCons (eOp addD (eC (.int 1)) (eFn (callM m__law_take 2 0 2 [(0, 0), (0, 1)] []) (aCons (eVar 0) (aCons (eC (.int 300)) aNil)) aNil)) (aCons (eVar 2) (aCons (eFn (callM m__law_take 2 0 2 [(0, 0), (0, 1)] []) (aCons (eVar 0) (aCons (eOp addD (eVar 2) (eC (.int 1))) aNil)) aNil) aNil))))) (eFn (callM m__law_take 2 0 2 [(0, 0), (0, 1)] []) (aCons (eVar 0) (aCons (eC (.int 4)) aNil)) aNil))) sPass)
  (sSeq (sIf (bVal (eOp eqD (eVar 1) (eC (.str "each")))) (sRet (eIdxB (eLst (aCons (eC (.int 0)) (aCons (eC (.int 1)) (aCons (eC (.int 2)) (aCons (eC (.int 1000)) (aCons (eFn (callM m__law_take 2 0 2 [(0, 0), (0, 1)] []) (aCons (eVar 0) (aCons (eC (.int 1001)) aNil)) aNil) aNil)))))) (eFn (callM m__law_take 2 0 2 [(0, 0), (0, 1)] []) (aCons (eVar 0) (aCons (eC (.int 5)) aNil)) aNil))) sPass)
  (sSeq (sIf (bVal (eOp eqD (eVar 1) (eC (.str "hundredths")))) (sRet (eIdxB (eLst (aCons (eC (.int 0)) (aCons (eC (.int 1)) (aCons (eC (.int 50)) (aCons (eC (.int 99)) (aCons (eC (.int 100)) (aCons (eFn (callM m__law_take 2 0 2 [(0, 0), (0, 1)] []) (aCons (eVar 0) (aCons (eC (.int 101)) aNil)) aNil) aNil))))))) (eFn (callM m__law_take 2 0 2 [(0, 0), (0, 1)] []) (aCons (eVar 0) (aCons (eC (.int 6)) aNil)) aNil))) sPass)
  (sRet (eC (.int 0)))))))
def m__law_bound : Fn := fnM 3 b__law_bound
def t__law_bound_8 : ES := (sRet (eC (.int 0)))
def t__law_bound_6 : ES := (sSeq (sIf (bVal (eOp eqD (eVar 1) (eC (.str "hundredths")))) (sRet (eIdxB (eLst (aCons (eC (.int 0)) (aCons (eC (.int 1)) (aCons (eC (.int 50)) (aCons (eC (.int 99)) (aCons (eC (.int 100)) (aCons (eFn (callM m__law_take 2 0 2 [(0, 0), (0, 1)] []) (aCons (eVar 0) (aCons (eC (.int 101)) aNil)) aNil) aNil))))))) (eFn (callM m__law_take 2 0 2 [(0, 0), (0, 1)] []) (aCons (eVar 0) (aCons (eC (.int 6)) aNil)) aNil))) sPass) t__law_bound_8)
def t__law_bound_4 : ES := (sSeq (sIf (bVal (eOp eqD (eVar 1) (eC (.str "each")))) (sRet (eIdxB (eLst (aCons (eC (.int 0)) (aCons (eC (.int 1)) (aCons (eC (.int 2)) (aCons (eC (.int 1000)) (aCons (eFn (callM m__law_take 2 0 2 [(0, 0), (0, 1)] []) (aCons (eVar 0) (aCons (eC (.int 1001)) aNil)) aNil) aNil)))))) (eFn (callM m__law_take 2 0 2 [(0, 0), (0, 1)] []) (aCons (eVar 0) (aCons (eC (.int 5)) aNil)) aNil))) sPass) t__law_bound_6)
def t__law_bound_2 : ES := (sSeq (sIf (bVal (eOp eqD (eVar 1) (eC (.str "cut")))) (sRet (eIdxB (eLst (aCons (eC (.int 0)) (aCons (eOp addD (eC (.int 1)) (eFn (callM m__law_take 2 0 2 [(0, 0), (0, 1)] []) (aCons (eVar 0) (aCons (eC (.int 300)) aNil)) aNil)) (aCons (eVar 2) (aCons (eFn (callM m__law_take 2 0 2 [(0, 0), (0, 1)] []) (aCons (eVar 0) (aCons (eOp addD (eVar 2) (eC (.int 1))) aNil)) aNil) aNil))))) (eFn (callM m__law_take 2 0 2 [(0, 0), (0, 1)] []) (aCons (eVar 0) (aCons (eC (.int 4)) aNil)) aNil))) sPass) t__law_bound_4)
theorem x__law_bound : b__law_bound = (sSeq (sSet 2 (eOp powD (eC (.int 10)) (eC (.int 12)))) t__law_bound_2) := rfl
def b__law_ruled : ES :=
  (sSeq (sSet 2 (eIdxB (eLst (aCons (eC (.str "let")) (aCons (eC (.str "cut")) (aCons (eC (.str "each")) (aCons (eC (.str "hundredths")) (aCons (eC (.str "refuse")) aNil)))))) (eFn (callM m__law_take 2 0 2 [(0, 0), (0, 1)] []) (aCons (eVar 0) (aCons (eC (.int 5)) aNil)) aNil)))
  (sSeq (sSet 3 (eFn (callM m__law_bound 2 0 2 [(0, 0), (0, 1)] []) (aCons (eVar 0) (aCons (eVar 2) aNil)) aNil))
  (sSeq (sSet 4 (eOp mulD (eFn (callM m__law_take 2 0 2 [(0, 0), (0, 1)] []) (aCons (eVar 0) (aCons (eC (.int 6)) aNil)) aNil) (eB bInt (aCons (eOp gtD (eFn (callM m__law_take 2 0 2 [(0, 0), (0, 1)] []) (aCons (eVar 0) (aCons (eC (.int 3)) aNil)) aNil) (eC (.int 0))) aNil))))
  (sSeq (sSet 5 (eIdxB (eLst (aCons (eC .non) (aCons (eC (.str "bed")) (aCons (eC (.str "fee")) (aCons (eC (.str "meal")) (aCons (eC (.str "ride")) (aCons (eC (.str "sundry")) aNil))))))) (eVar 4)))
  (sSeq (sSet 6 (eIdxB (eLst (aCons (eC .non) (aCons (eFn (callM m__law_take 2 0 2 [(0, 0), (0, 1)] []) (aCons (eVar 0) (aCons (eC (.int 4)) aNil)) aNil) aNil))) (eFn (callM m__law_take 2 0 2 [(0, 0), (0, 1)] []) (aCons (eVar 0) (aCons (eC (.int 2)) aNil)) aNil)))
  (sSeq (sSet 7 (eIdxB (eLst (aCons (eC (.int 0)) (aCons (eC (.int 0)) (aCons (eFn (callM m__law_take 2 0 2 [(0, 0), (0, 1)] []) (aCons (eVar 0) (aCons (eC (.int 60)) aNil)) aNil) aNil)))) (eFn (callM m__law_take 2 0 2 [(0, 0), (0, 1)] []) (aCons (eVar 0) (aCons (eC (.int 3)) aNil)) aNil)))
  (sSeq (sSet 8 (eIdxB (eLst (aCons (eC (.int 59)) (aCons (eC (.int 59)) (aCons (eOp addD (eVar 7) (eFn (callM m__law_take 2 0 2 [(0, 0), (0, 1)] []) (aCons (eVar 0) (aCons (eOp subD (eC (.int 60)) (eVar 7)) aNil)) aNil)) aNil)))) (eFn (callM m__law_take 2 0 2 [(0, 0), (0, 1)] []) (aCons (eVar 0) (aCons (eC (.int 3)) aNil)) aNil)))
  (sSeq (sSet 9 (eIdxB (eLst (aCons (eC (.int 0)) (aCons (eC (.int 0)) (aCons (eFn (callM m__law_take 2 0 2 [(0, 0), (0, 1)] []) (aCons (eVar 0) (aCons (eC (.int 400)) aNil)) aNil) (aCons (eOp powD (eC (.int 10)) (eC (.int 12))) (aCons (eFn (callM m__law_take 2 0 2 [(0, 0), (0, 1)] []) (aCons (eVar 0) (aCons (eOp powD (eC (.int 10)) (eC (.int 12))) aNil)) aNil) aNil)))))) (eFn (callM m__law_take 2 0 2 [(0, 0), (0, 1)] []) (aCons (eVar 0) (aCons (eC (.int 5)) aNil)) aNil)))
  (sSeq (sSet 10 (eIdxB (eLst (aCons (eC .non) (aCons (eC .non) (aCons (eC (.bl true)) (aCons (eC (.bl false)) aNil))))) (eFn (callM m__law_take 2 0 2 [(0, 0), (0, 1)] []) (aCons (eVar 0) (aCons (eC (.int 4)) aNil)) aNil)))
  (sRet (eTup (aCons (eVar 1) (aCons (eVar 2) (aCons (eVar 3) (aCons (eVar 5) (aCons (eVar 6) (aCons (eVar 7) (aCons (eVar 8) (aCons (eVar 9) (aCons (eVar 10) aNil))))))))))))))))))))
def m__law_ruled : Fn := fnM 11 b__law_ruled
def t__law_ruled_10 : ES := (sRet (eTup (aCons (eVar 1) (aCons (eVar 2) (aCons (eVar 3) (aCons (eVar 5) (aCons (eVar 6) (aCons (eVar 7) (aCons (eVar 8) (aCons (eVar 9) (aCons (eVar 10) aNil)))))))))))
def t__law_ruled_9 : ES := (sSeq (sSet 10 (eIdxB (eLst (aCons (eC .non) (aCons (eC .non) (aCons (eC (.bl true)) (aCons (eC (.bl false)) aNil))))) (eFn (callM m__law_take 2 0 2 [(0, 0), (0, 1)] []) (aCons (eVar 0) (aCons (eC (.int 4)) aNil)) aNil))) t__law_ruled_10)
def t__law_ruled_8 : ES := (sSeq (sSet 9 (eIdxB (eLst (aCons (eC (.int 0)) (aCons (eC (.int 0)) (aCons (eFn (callM m__law_take 2 0 2 [(0, 0), (0, 1)] []) (aCons (eVar 0) (aCons (eC (.int 400)) aNil)) aNil) (aCons (eOp powD (eC (.int 10)) (eC (.int 12))) (aCons (eFn (callM m__law_take 2 0 2 [(0, 0), (0, 1)] []) (aCons (eVar 0) (aCons (eOp powD (eC (.int 10)) (eC (.int 12))) aNil)) aNil) aNil)))))) (eFn (callM m__law_take 2 0 2 [(0, 0), (0, 1)] []) (aCons (eVar 0) (aCons (eC (.int 5)) aNil)) aNil))) t__law_ruled_9)
def t__law_ruled_7 : ES := (sSeq (sSet 8 (eIdxB (eLst (aCons (eC (.int 59)) (aCons (eC (.int 59)) (aCons (eOp addD (eVar 7) (eFn (callM m__law_take 2 0 2 [(0, 0), (0, 1)] []) (aCons (eVar 0) (aCons (eOp subD (eC (.int 60)) (eVar 7)) aNil)) aNil)) aNil)))) (eFn (callM m__law_take 2 0 2 [(0, 0), (0, 1)] []) (aCons (eVar 0) (aCons (eC (.int 3)) aNil)) aNil))) t__law_ruled_8)
def t__law_ruled_6 : ES := (sSeq (sSet 7 (eIdxB (eLst (aCons (eC (.int 0)) (aCons (eC (.int 0)) (aCons (eFn (callM m__law_take 2 0 2 [(0, 0), (0, 1)] []) (aCons (eVar 0) (aCons (eC (.int 60)) aNil)) aNil) aNil)))) (eFn (callM m__law_take 2 0 2 [(0, 0), (0, 1)] []) (aCons (eVar 0) (aCons (eC (.int 3)) aNil)) aNil))) t__law_ruled_7)
def t__law_ruled_5 : ES := (sSeq (sSet 6 (eIdxB (eLst (aCons (eC .non) (aCons (eFn (callM m__law_take 2 0 2 [(0, 0), (0, 1)] []) (aCons (eVar 0) (aCons (eC (.int 4)) aNil)) aNil) aNil))) (eFn (callM m__law_take 2 0 2 [(0, 0), (0, 1)] []) (aCons (eVar 0) (aCons (eC (.int 2)) aNil)) aNil))) t__law_ruled_6)
def t__law_ruled_4 : ES := (sSeq (sSet 5 (eIdxB (eLst (aCons (eC .non) (aCons (eC (.str "bed")) (aCons (eC (.str "fee")) (aCons (eC (.str "meal")) (aCons (eC (.str "ride")) (aCons (eC (.str "sundry")) aNil))))))) (eVar 4))) t__law_ruled_5)
def t__law_ruled_3 : ES := (sSeq (sSet 4 (eOp mulD (eFn (callM m__law_take 2 0 2 [(0, 0), (0, 1)] []) (aCons (eVar 0) (aCons (eC (.int 6)) aNil)) aNil) (eB bInt (aCons (eOp gtD (eFn (callM m__law_take 2 0 2 [(0, 0), (0, 1)] []) (aCons (eVar 0) (aCons (eC (.int 3)) aNil)) aNil) (eC (.int 0))) aNil)))) t__law_ruled_4)
def t__law_ruled_2 : ES := (sSeq (sSet 3 (eFn (callM m__law_bound 2 0 2 [(0, 0), (0, 1)] []) (aCons (eVar 0) (aCons (eVar 2) aNil)) aNil)) t__law_ruled_3)
theorem x__law_ruled : b__law_ruled = (sSeq (sSet 2 (eIdxB (eLst (aCons (eC (.str "let")) (aCons (eC (.str "cut")) (aCons (eC (.str "each")) (aCons (eC (.str "hundredths")) (aCons (eC (.str "refuse")) aNil)))))) (eFn (callM m__law_take 2 0 2 [(0, 0), (0, 1)] []) (aCons (eVar 0) (aCons (eC (.int 5)) aNil)) aNil))) t__law_ruled_2) := rfl
def b__law_name : ES :=
  (sSeq (sSet 1 (eC (.str "abcdefghijklmnopqrstuvwxyz")))
  (sSeq (sSet 2 (eIdxB (eLst (aCons (eC (.int 1)) (aCons (eC (.int 8)) (aCons (eOp addD (eC (.int 1)) (eFn (callM m__law_take 2 0 2 [(0, 0), (0, 1)] []) (aCons (eVar 0) (aCons (eC (.int 8)) aNil)) aNil)) aNil)))) (eFn (callM m__law_take 2 0 2 [(0, 0), (0, 1)] []) (aCons (eVar 0) (aCons (eC (.int 3)) aNil)) aNil)))
  (sRet (eJoin (eC (.str "")) (eLC [3] (itR1 (aCons (eVar 2) aNil)) (pName 3) bYes (eIdxB (eVar 1) (eFn (callM m__law_take 2 0 2 [(0, 0), (0, 1)] []) (aCons (eVar 0) (aCons (eC (.int 26)) aNil)) aNil)))))))
def m__law_name : Fn := fnM 4 b__law_name
def t__law_name_3 : ES := (sRet (eJoin (eC (.str "")) (eLC [3] (itR1 (aCons (eVar 2) aNil)) (pName 3) bYes (eIdxB (eVar 1) (eFn (callM m__law_take 2 0 2 [(0, 0), (0, 1)] []) (aCons (eVar 0) (aCons (eC (.int 26)) aNil)) aNil)))))
def t__law_name_2 : ES := (sSeq (sSet 2 (eIdxB (eLst (aCons (eC (.int 1)) (aCons (eC (.int 8)) (aCons (eOp addD (eC (.int 1)) (eFn (callM m__law_take 2 0 2 [(0, 0), (0, 1)] []) (aCons (eVar 0) (aCons (eC (.int 8)) aNil)) aNil)) aNil)))) (eFn (callM m__law_take 2 0 2 [(0, 0), (0, 1)] []) (aCons (eVar 0) (aCons (eC (.int 3)) aNil)) aNil))) t__law_name_3)
theorem x__law_name : b__law_name = (sSeq (sSet 1 (eC (.str "abcdefghijklmnopqrstuvwxyz"))) t__law_name_2) := rfl
def b_is_name : ES :=
  (sSeq (sIf (bOr (bNot (bVal (eIsI tysL (.b "str") (eVar 0)))) (bNot (bVal (eChain leD leD (eC (.int 1)) (eB bLenA (aCons (eVar 0) aNil)) (eC (.int 8)))))) (sRet (eC (.bl false))) sPass)
  (sRet (eB bAll (aCons (eLC [1] (itAny (eVar 0)) (pName 1) bYes (eOp inSD (eVar 1) (eC (.str "abcdefghijklmnopqrstuvwxyz")))) aNil))))
def m_is_name : Fn := fnM 2 b_is_name
def b_is_deed : ES :=
  (sRet (eAnd (eIsI tysL (.b "str") (eVar 0)) (eOp (inKD "BOUNDS" kv_BOUNDS) (eVar 0) (eC (.fn "BOUNDS")))))
def m_is_deed : Fn := fnM 1 b_is_deed
def b_is_whole : ES :=
  (sRet (eAnd (eIsI tysL (.b "int") (eVar 0)) (eAnd (eNot (eIsI tysL (.b "bool") (eVar 0))) (eChain leD leD (eVar 1) (eVar 0) (eVar 2)))))
def m_is_whole : Fn := fnM 3 b_is_whole
def b_is_kind : ES :=
  (sRet (eAnd (eIsI tysL (.b "str") (eVar 0)) (eOp inD (eVar 0) (eC (.tup [.str "bed", .str "fee", .str "meal", .str "ride", .str "sundry"])))))
def m_is_kind : Fn := fnM 1 b_is_kind
def b_wrong_part : ES :=
  (sSeq (sSet 9 (eLstM (aCons (eTup (aCons (eC (.str "name")) (aCons (eFn (callM m_is_name 1 0 1 [(0, 0)] []) (aCons (eVar 0) aNil) aNil) aNil))) (aCons (eTup (aCons (eC (.str "deed")) (aCons (eFn (callM m_is_deed 1 0 1 [(0, 0)] []) (aCons (eVar 1) aNil) aNil) aNil))) aNil))))
  (sSeq (sExpr (eApp (eVar 9) (eTup (aCons (eC (.str "bound")) (aCons (eAnd (eFn (callM m_is_deed 1 0 1 [(0, 0)] []) (aCons (eVar 1) aNil) aNil) (eFn (callM m_is_whole 3 0 3 [(0, 0), (0, 1), (0, 2)] []) (aCons (eVar 2) (aCons (eC (.int 0)) (aCons (eOp (itKD "BOUNDS" kv_BOUNDS) (eC (.fn "BOUNDS")) (eVar 1)) aNil))) aNil)) aNil)))))
  (sSeq (sSet 9 (eAddM (eVar 9) (eLst (aCons (eTup (aCons (eC (.str "kind")) (aCons (eOr (eOp isND (eVar 3) (eC .non)) (eFn (callM m_is_kind 1 0 1 [(0, 0)] []) (aCons (eVar 3) aNil) aNil)) aNil))) (aCons (eTup (aCons (eC (.str "town")) (aCons (eOr (eOp isND (eVar 4) (eC .non)) (eFn (callM m_is_whole 3 0 3 [(0, 0), (0, 1), (0, 2)] []) (aCons (eVar 4) (aCons (eC (.int 0)) (aCons (eC (.int 3)) aNil))) aNil)) aNil))) aNil)))))
  (sSeq (sExpr (eApp (eVar 9) (eTup (aCons (eC (.str "first")) (aCons (eFn (callM m_is_whole 3 0 3 [(0, 0), (0, 1), (0, 2)] []) (aCons (eVar 5) (aCons (eC (.int 0)) (aCons (eC (.int 59)) aNil))) aNil) aNil)))))
  (sSeq (sExpr (eApp (eVar 9) (eTup (aCons (eC (.str "last")) (aCons (eAnd (eFn (callM m_is_whole 3 0 3 [(0, 0), (0, 1), (0, 2)] []) (aCons (eVar 5) (aCons (eC (.int 0)) (aCons (eC (.int 59)) aNil))) aNil) (eFn (callM m_is_whole 3 0 3 [(0, 0), (0, 1), (0, 2)] []) (aCons (eVar 6) (aCons (eVar 5) (aCons (eC (.int 59)) aNil))) aNil)) aNil)))))
  (sSeq (sSet 9 (eAddM (eVar 9) (eLst (aCons (eTup (aCons (eC (.str "over")) (aCons (eFn (callM m_is_whole 3 0 3 [(0, 0), (0, 1), (0, 2)] []) (aCons (eVar 7) (aCons (eC (.int 0)) (aCons (eC (.int 1000000000000)) aNil))) aNil) aNil))) (aCons (eTup (aCons (eC (.str "paper")) (aCons (eOr (eOp isND (eVar 8) (eC .non)) (eIsI tysL (.b "bool") (eVar 8))) aNil))) aNil)))))
  (sSeq (sSet 10 (eLC [11, 12] (itAny (eFrzL (eVar 9))) (pTup (pCons (pName 11) (pCons (pName 12) pNil))) (bNot (bOf (eVar 12))) (eVar 11)))
  (sRet (eIf (bVal (eOp neD (eVar 10) (eLst aNil))) (eIdxB (eVar 10) (eC (.int 0))) (eC .non))))))))))
def m_wrong_part : Fn := fnM 13 b_wrong_part
def t_wrong_part_8 : ES := (sRet (eIf (bVal (eOp neD (eVar 10) (eLst aNil))) (eIdxB (eVar 10) (eC (.int 0))) (eC .non)))
def t_wrong_part_7 : ES := (sSeq (sSet 10 (eLC [11, 12] (itAny (eFrzL (eVar 9))) (pTup (pCons (pName 11) (pCons (pName 12) pNil))) (bNot (bOf (eVar 12))) (eVar 11))) t_wrong_part_8)
def t_wrong_part_6 : ES := (sSeq (sSet 9 (eAddM (eVar 9) (eLst (aCons (eTup (aCons (eC (.str "over")) (aCons (eFn (callM m_is_whole 3 0 3 [(0, 0), (0, 1), (0, 2)] []) (aCons (eVar 7) (aCons (eC (.int 0)) (aCons (eC (.int 1000000000000)) aNil))) aNil) aNil))) (aCons (eTup (aCons (eC (.str "paper")) (aCons (eOr (eOp isND (eVar 8) (eC .non)) (eIsI tysL (.b "bool") (eVar 8))) aNil))) aNil))))) t_wrong_part_7)
def t_wrong_part_5 : ES := (sSeq (sExpr (eApp (eVar 9) (eTup (aCons (eC (.str "last")) (aCons (eAnd (eFn (callM m_is_whole 3 0 3 [(0, 0), (0, 1), (0, 2)] []) (aCons (eVar 5) (aCons (eC (.int 0)) (aCons (eC (.int 59)) aNil))) aNil) (eFn (callM m_is_whole 3 0 3 [(0, 0), (0, 1), (0, 2)] []) (aCons (eVar 6) (aCons (eVar 5) (aCons (eC (.int 59)) aNil))) aNil)) aNil))))) t_wrong_part_6)
def t_wrong_part_4 : ES := (sSeq (sExpr (eApp (eVar 9) (eTup (aCons (eC (.str "first")) (aCons (eFn (callM m_is_whole 3 0 3 [(0, 0), (0, 1), (0, 2)] []) (aCons (eVar 5) (aCons (eC (.int 0)) (aCons (eC (.int 59)) aNil))) aNil) aNil))))) t_wrong_part_5)
def t_wrong_part_3 : ES := (sSeq (sSet 9 (eAddM (eVar 9) (eLst (aCons (eTup (aCons (eC (.str "kind")) (aCons (eOr (eOp isND (eVar 3) (eC .non)) (eFn (callM m_is_kind 1 0 1 [(0, 0)] []) (aCons (eVar 3) aNil) aNil)) aNil))) (aCons (eTup (aCons (eC (.str "town")) (aCons (eOr (eOp isND (eVar 4) (eC .non)) (eFn (callM m_is_whole 3 0 3 [(0, 0), (0, 1), (0, 2)] []) (aCons (eVar 4) (aCons (eC (.int 0)) (aCons (eC (.int 3)) aNil))) aNil)) aNil))) aNil))))) t_wrong_part_4)
def t_wrong_part_2 : ES := (sSeq (sExpr (eApp (eVar 9) (eTup (aCons (eC (.str "bound")) (aCons (eAnd (eFn (callM m_is_deed 1 0 1 [(0, 0)] []) (aCons (eVar 1) aNil) aNil) (eFn (callM m_is_whole 3 0 3 [(0, 0), (0, 1), (0, 2)] []) (aCons (eVar 2) (aCons (eC (.int 0)) (aCons (eOp (itKD "BOUNDS" kv_BOUNDS) (eC (.fn "BOUNDS")) (eVar 1)) aNil))) aNil)) aNil))))) t_wrong_part_3)
theorem x_wrong_part : b_wrong_part = (sSeq (sSet 9 (eLstM (aCons (eTup (aCons (eC (.str "name")) (aCons (eFn (callM m_is_name 1 0 1 [(0, 0)] []) (aCons (eVar 0) aNil) aNil) aNil))) (aCons (eTup (aCons (eC (.str "deed")) (aCons (eFn (callM m_is_deed 1 0 1 [(0, 0)] []) (aCons (eVar 1) aNil) aNil) aNil))) aNil)))) t_wrong_part_2) := rfl
def b_Rule_init : ES :=
  (sSeq (sSet 10 (eFn (callM m_wrong_part 9 0 9 [(0, 0), (0, 1), (0, 2), (0, 3), (0, 4), (0, 5), (0, 6), (0, 7), (0, 8)] []) (aCons (eVar 1) (aCons (eVar 2) (aCons (eVar 3) (aCons (eVar 4) (aCons (eVar 5) (aCons (eVar 6) (aCons (eVar 7) (aCons (eVar 8) (aCons (eVar 9) aNil))))))))) aNil))
  (sSeq (sIf (bVal (eOp notND (eVar 10) (eC .non))) sBad sPass)
  (sSeq (sSetAttr ["Rule"] "name" (eVar 0) (eVar 1))
  (sSeq (sSetAttr ["Rule"] "deed" (eVar 0) (eVar 2))
  (sSeq (sSetAttr ["Rule"] "bound" (eVar 0) (eVar 3))
  (sSeq (sSetAttr ["Rule"] "kind" (eVar 0) (eVar 4))
  (sSeq (sSetAttr ["Rule"] "town" (eVar 0) (eVar 5))
  (sSeq (sSetAttr ["Rule"] "first" (eVar 0) (eVar 6))
  (sSeq (sSetAttr ["Rule"] "last" (eVar 0) (eVar 7))
  (sSeq (sSetAttr ["Rule"] "over" (eVar 0) (eVar 8))
  (sSetAttr ["Rule"] "paper" (eVar 0) (eVar 9))))))))))))
def m_Rule_init : Fn := fnM 11 b_Rule_init
def b__law_made : ES :=
  (sRet (eFrz cf (eFn (newM "Rule" (callM m_Rule_init 2 8 10 [(0, 0), (0, 1), (2, 0), (2, 1), (2, 2), (2, 3), (2, 4), (2, 5), (2, 6), (2, 7)] [.str "let", .int 0, .non, .non, .int 0, .int 59, .int 0, .non])) (aCons (eIdxB (eVar 0) (eC (.int 0))) aNil) (aCons (eIdxB (eVar 0) (eC (.int 1))) (aCons (eIdxB (eVar 0) (eC (.int 2))) (aCons (eIdxB (eVar 0) (eC (.int 3))) (aCons (eIdxB (eVar 0) (eC (.int 4))) (aCons (eIdxB (eVar 0) (eC (.int 5))) (aCons (eIdxB (eVar 0) (eC (.int 6))) (aCons (eIdxB (eVar 0) (eC (.int 7))) (aCons (eIdxB (eVar 0) (eC (.int 8))) aNil)))))))))))
def m__law_made : Fn := fnM 1 b__law_made
def b_Rule_all_parts : ES :=
  (sSeq (sSet 1 (eTup (aCons (eAttr cf ["Rule"] "kind" (eVar 0)) (aCons (eAttr cf ["Rule"] "town" (eVar 0)) (aCons (eAttr cf ["Rule"] "first" (eVar 0)) (aCons (eAttr cf ["Rule"] "last" (eVar 0)) (aCons (eAttr cf ["Rule"] "over" (eVar 0)) (aCons (eAttr cf ["Rule"] "paper" (eVar 0)) aNil))))))))
  (sRet (eOp addD (eTup (aCons (eAttr cf ["Rule"] "name" (eVar 0)) (aCons (eAttr cf ["Rule"] "deed" (eVar 0)) (aCons (eAttr cf ["Rule"] "bound" (eVar 0)) aNil)))) (eVar 1))))
def m_Rule_all_parts : Fn := fnM 2 b_Rule_all_parts
def t_Rule_all_parts_2 : ES := (sRet (eOp addD (eTup (aCons (eAttr cf ["Rule"] "name" (eVar 0)) (aCons (eAttr cf ["Rule"] "deed" (eVar 0)) (aCons (eAttr cf ["Rule"] "bound" (eVar 0)) aNil)))) (eVar 1)))
theorem x_Rule_all_parts : b_Rule_all_parts = (sSeq (sSet 1 (eTup (aCons (eAttr cf ["Rule"] "kind" (eVar 0)) (aCons (eAttr cf ["Rule"] "town" (eVar 0)) (aCons (eAttr cf ["Rule"] "first" (eVar 0)) (aCons (eAttr cf ["Rule"] "last" (eVar 0)) (aCons (eAttr cf ["Rule"] "over" (eVar 0)) (aCons (eAttr cf ["Rule"] "paper" (eVar 0)) aNil)))))))) t_Rule_all_parts_2) := rfl
def b_Rule_eq : ES :=
  (sRet (eAnd (eIsI tysL (.o "Rule") (eVar 1)) (eOp eqD (eMeth cf "Rule" "all_parts" (callM m_Rule_all_parts 1 0 1 [(0, 0)] []) (eVar 0) aNil aNil) (eMeth cf "Rule" "all_parts" (callM m_Rule_all_parts 1 0 1 [(0, 0)] []) (eVar 1) aNil aNil))))
def m_Rule_eq : Fn := fnM 2 b_Rule_eq
def cls_0 : List String := ["Rule"]
def tab_0 : ETab := fun c => if c = "Rule" then some m_Rule_eq else none
def b_option : ES :=
  (sRet (eIf (bVal (eOp eqD (eVar 1) (eVar 2))) (eLst aNil) (eLst (aCons (eOp addD (eOp addD (eVar 0) (eC (.str "="))) (eB bReprX (aCons (eVar 1) aNil))) aNil))))
def m_option : Fn := fnM 3 b_option
def b_Rule_repr : ES :=
  (sSeq (sSet 1 (eOp addD (eOp addD (eLst (aCons (eB bReprX (aCons (eAttr cf ["Rule"] "name" (eVar 0)) aNil)) aNil)) (eFn (callM m_option 3 0 3 [(0, 0), (0, 1), (0, 2)] []) (aCons (eC (.str "deed")) (aCons (eAttr cf ["Rule"] "deed" (eVar 0)) (aCons (eC (.str "let")) aNil))) aNil)) (eFn (callM m_option 3 0 3 [(0, 0), (0, 1), (0, 2)] []) (aCons (eC (.str "bound")) (aCons (eAttr cf ["Rule"] "bound" (eVar 0)) (aCons (eC (.int 0)) aNil))) aNil)))
  (sSeq (sSet 1 (eOp addD (eOp addD (eVar 1) (eFn (callM m_option 3 0 3 [(0, 0), (0, 1), (0, 2)] []) (aCons (eC (.str "kind")) (aCons (eAttr cf ["Rule"] "kind" (eVar 0)) (aCons (eC .non) aNil))) aNil)) (eFn (callM m_option 3 0 3 [(0, 0), (0, 1), (0, 2)] []) (aCons (eC (.str "town")) (aCons (eAttr cf ["Rule"] "town" (eVar 0)) (aCons (eC .non) aNil))) aNil)))
  (sSeq (sSet 1 (eOp addD (eOp addD (eVar 1) (eFn (callM m_option 3 0 3 [(0, 0), (0, 1), (0, 2)] []) (aCons (eC (.str "first")) (aCons (eAttr cf ["Rule"] "first" (eVar 0)) (aCons (eC (.int 0)) aNil))) aNil)) (eFn (callM m_option 3 0 3 [(0, 0), (0, 1), (0, 2)] []) (aCons (eC (.str "last")) (aCons (eAttr cf ["Rule"] "last" (eVar 0)) (aCons (eC (.int 59)) aNil))) aNil)))
  (sSeq (sSet 1 (eOp addD (eOp addD (eVar 1) (eFn (callM m_option 3 0 3 [(0, 0), (0, 1), (0, 2)] []) (aCons (eC (.str "over")) (aCons (eAttr cf ["Rule"] "over" (eVar 0)) (aCons (eC (.int 0)) aNil))) aNil)) (eFn (callM m_option 3 0 3 [(0, 0), (0, 1), (0, 2)] []) (aCons (eC (.str "paper")) (aCons (eAttr cf ["Rule"] "paper" (eVar 0)) (aCons (eC .non) aNil))) aNil)))
  (sSeq (sSet 2 (eJoin (eC (.str ", ")) (eVar 1)))
  (sRet (eJs [(eC (.str "Rule(")), (eFmt (eVar 2)), (eC (.str ")"))])))))))
def m_Rule_repr : Fn := fnM 3 b_Rule_repr
def t_Rule_repr_6 : ES := (sRet (eJs [(eC (.str "Rule(")), (eFmt (eVar 2)), (eC (.str ")"))]))
def t_Rule_repr_5 : ES := (sSeq (sSet 2 (eJoin (eC (.str ", ")) (eVar 1))) t_Rule_repr_6)
def t_Rule_repr_4 : ES := (sSeq (sSet 1 (eOp addD (eOp addD (eVar 1) (eFn (callM m_option 3 0 3 [(0, 0), (0, 1), (0, 2)] []) (aCons (eC (.str "over")) (aCons (eAttr cf ["Rule"] "over" (eVar 0)) (aCons (eC (.int 0)) aNil))) aNil)) (eFn (callM m_option 3 0 3 [(0, 0), (0, 1), (0, 2)] []) (aCons (eC (.str "paper")) (aCons (eAttr cf ["Rule"] "paper" (eVar 0)) (aCons (eC .non) aNil))) aNil))) t_Rule_repr_5)
def t_Rule_repr_3 : ES := (sSeq (sSet 1 (eOp addD (eOp addD (eVar 1) (eFn (callM m_option 3 0 3 [(0, 0), (0, 1), (0, 2)] []) (aCons (eC (.str "first")) (aCons (eAttr cf ["Rule"] "first" (eVar 0)) (aCons (eC (.int 0)) aNil))) aNil)) (eFn (callM m_option 3 0 3 [(0, 0), (0, 1), (0, 2)] []) (aCons (eC (.str "last")) (aCons (eAttr cf ["Rule"] "last" (eVar 0)) (aCons (eC (.int 59)) aNil))) aNil))) t_Rule_repr_4)
def t_Rule_repr_2 : ES := (sSeq (sSet 1 (eOp addD (eOp addD (eVar 1) (eFn (callM m_option 3 0 3 [(0, 0), (0, 1), (0, 2)] []) (aCons (eC (.str "kind")) (aCons (eAttr cf ["Rule"] "kind" (eVar 0)) (aCons (eC .non) aNil))) aNil)) (eFn (callM m_option 3 0 3 [(0, 0), (0, 1), (0, 2)] []) (aCons (eC (.str "town")) (aCons (eAttr cf ["Rule"] "town" (eVar 0)) (aCons (eC .non) aNil))) aNil))) t_Rule_repr_3)
theorem x_Rule_repr : b_Rule_repr = (sSeq (sSet 1 (eOp addD (eOp addD (eLst (aCons (eB bReprX (aCons (eAttr cf ["Rule"] "name" (eVar 0)) aNil)) aNil)) (eFn (callM m_option 3 0 3 [(0, 0), (0, 1), (0, 2)] []) (aCons (eC (.str "deed")) (aCons (eAttr cf ["Rule"] "deed" (eVar 0)) (aCons (eC (.str "let")) aNil))) aNil)) (eFn (callM m_option 3 0 3 [(0, 0), (0, 1), (0, 2)] []) (aCons (eC (.str "bound")) (aCons (eAttr cf ["Rule"] "bound" (eVar 0)) (aCons (eC (.int 0)) aNil))) aNil))) t_Rule_repr_2) := rfl
def b__law_rule_shown : ES :=
  (sSeq (sSet 1 (eOp addD (eC (.str "Rule(")) (eB bReprX (aCons (eIdxB (eVar 0) (eC (.int 0))) aNil))))
  (sSeq (sSet 2 (eLst (aCons (eC (.str "deed")) (aCons (eC (.str "bound")) (aCons (eC (.str "kind")) (aCons (eC (.str "town")) (aCons (eC (.str "first")) (aCons (eC (.str "last")) (aCons (eC (.str "over")) (aCons (eC (.str "paper")) aNil))))))))))
  (sSeq (sFor (itZipM3 (aCons (eVar 2) (aCons (eCut (eVar 0) (oSome (eC (.int 1))) oNone) (aCons (eLst (aCons (eC (.str "let")) (aCons (eC (.int 0)) (aCons (eC .non) (aCons (eC .non) (aCons (eC (.int 0)) (aCons (eC (.int 59)) (aCons (eC (.int 0)) (aCons (eC .non) aNil))))))))) aNil)))) (pTup (pCons (pName 3) (pCons (pName 4) (pCons (pName 5) pNil)))) (sIf (bOr (bVal (eOp neD (eVar 4) (eVar 5))) (bVal (eOp neD (eIsI tysL (.b "bool") (eVar 4)) (eIsI tysL (.b "bool") (eVar 5))))) (sSet 1 (eOp addD (eOp addD (eOp addD (eOp addD (eVar 1) (eC (.str ", "))) (eVar 3)) (eC (.str "="))) (eB bReprX (aCons (eVar 4) aNil)))) sPass))
  (sRet (eOp addD (eVar 1) (eC (.str ")")))))))
def m__law_rule_shown : Fn := fnM 6 b__law_rule_shown
def t__law_rule_shown_4 : ES := (sIf (bOr (bVal (eOp neD (eVar 4) (eVar 5))) (bVal (eOp neD (eIsI tysL (.b "bool") (eVar 4)) (eIsI tysL (.b "bool") (eVar 5))))) (sSet 1 (eOp addD (eOp addD (eOp addD (eOp addD (eVar 1) (eC (.str ", "))) (eVar 3)) (eC (.str "="))) (eB bReprX (aCons (eVar 4) aNil)))) sPass)
def t__law_rule_shown_6 : ES := (sRet (eOp addD (eVar 1) (eC (.str ")"))))
def t__law_rule_shown_3 : ES := (sSeq (sFor (itZipM3 (aCons (eVar 2) (aCons (eCut (eVar 0) (oSome (eC (.int 1))) oNone) (aCons (eLst (aCons (eC (.str "let")) (aCons (eC (.int 0)) (aCons (eC .non) (aCons (eC .non) (aCons (eC (.int 0)) (aCons (eC (.int 59)) (aCons (eC (.int 0)) (aCons (eC .non) aNil))))))))) aNil)))) (pTup (pCons (pName 3) (pCons (pName 4) (pCons (pName 5) pNil)))) t__law_rule_shown_4) t__law_rule_shown_6)
def t__law_rule_shown_2 : ES := (sSeq (sSet 2 (eLst (aCons (eC (.str "deed")) (aCons (eC (.str "bound")) (aCons (eC (.str "kind")) (aCons (eC (.str "town")) (aCons (eC (.str "first")) (aCons (eC (.str "last")) (aCons (eC (.str "over")) (aCons (eC (.str "paper")) aNil)))))))))) t__law_rule_shown_3)
theorem x__law_rule_shown : b__law_rule_shown = (sSeq (sSet 1 (eOp addD (eC (.str "Rule(")) (eB bReprX (aCons (eIdxB (eVar 0) (eC (.int 0))) aNil)))) t__law_rule_shown_2) := rfl
def b__law_others : ES :=
  (sSeq (sUnp (pTup (pCons (pName 2) (pCons (pName 3) (pCons (pName 4) pNil)))) (eCut (eVar 0) oNone (oSome (eC (.int 3)))))
  (sSeq (sUnp (pTup (pCons (pName 5) (pCons (pName 6) (pCons (pName 7) (pCons (pName 8) (pCons (pName 9) (pCons (pName 10) pNil))))))) (eCut (eVar 0) (oSome (eC (.int 3))) oNone))
  (sSeq (sSet 1 (eLstM (aCons (eOp addD (eTup (aCons (eOp mulS (eC (.str "z")) (eOp subD (eC (.int 9)) (eB bLenA (aCons (eVar 2) aNil)))) aNil)) (eCut (eVar 0) (oSome (eC (.int 1))) oNone)) (aCons (eOp addD (eTup (aCons (eVar 2) (aCons (eIf (bVal (eOp neD (eVar 3) (eC (.str "refuse")))) (eC (.str "refuse")) (eC (.str "let"))) (aCons (eC (.int 0)) aNil)))) (eCut (eVar 0) (oSome (eC (.int 3))) oNone)) aNil))))
  (sSeq (sExpr (eApp (eVar 1) (eOp addD (eOp addD (eCut (eVar 0) oNone (oSome (eC (.int 3)))) (eTup (aCons (eIf (bVal (eOp neD (eVar 5) (eC (.str "bed")))) (eC (.str "bed")) (eC .non)) aNil))) (eCut (eVar 0) (oSome (eC (.int 4))) oNone))))
  (sSeq (sExpr (eApp (eVar 1) (eOp addD (eOp addD (eCut (eVar 0) oNone (oSome (eC (.int 4)))) (eTup (aCons (eIf (bVal (eOp neD (eVar 6) (eC (.int 2)))) (eC (.int 2)) (eC .non)) aNil))) (eCut (eVar 0) (oSome (eC (.int 5))) oNone))))
  (sSeq (sExpr (eApp (eVar 1) (eOp addD (eOp addD (eCut (eVar 0) oNone (oSome (eC (.int 4)))) (eTup (aCons (eIf (bVal (eOp eqD (eVar 6) (eC (.int 0)))) (eC .non) (eC (.int 0))) aNil))) (eCut (eVar 0) (oSome (eC (.int 5))) oNone))))
  (sSeq (sExpr (eApp (eVar 1) (eOp addD (eCut (eVar 0) oNone (oSome (eC (.int 7)))) (eTup (aCons (eIf (bVal (eOp ltA (eVar 9) (eOp powD (eC (.int 10)) (eC (.int 12))))) (eOp addD (eVar 9) (eC (.int 1))) (eC (.int 0))) (aCons (eVar 10) aNil))))))
  (sSeq (sExpr (eApp (eVar 1) (eOp addD (eCut (eVar 0) oNone (oSome (eC (.int 8)))) (eTup (aCons (eIf (bOf (eVar 10)) (eC .non) (eC (.bl true))) aNil)))))
  (sSeq (sExpr (eApp (eVar 1) (eOp addD (eCut (eVar 0) oNone (oSome (eC (.int 8)))) (eTup (aCons (eIf (bVal (eOp notBD (eVar 10) (eC (.bl false)))) (eC (.bl false)) (eC .non)) aNil)))))
  (sSeq (sIf (bVal (eOp ltA (eVar 7) (eVar 8))) (sSet 1 (eAddM (eVar 1) (eLst (aCons (eOp addD (eOp addD (eCut (eVar 0) oNone (oSome (eC (.int 5)))) (eTup (aCons (eOp addD (eVar 7) (eC (.int 1))) aNil))) (eCut (eVar 0) (oSome (eC (.int 6))) oNone)) (aCons (eOp addD (eOp addD (eCut (eVar 0) oNone (oSome (eC (.int 6)))) (eTup (aCons (eOp subD (eVar 8) (eC (.int 1))) aNil))) (eCut (eVar 0) (oSome (eC (.int 7))) oNone)) aNil))))) sPass)
  (sSeq (sIf (bVal (eOp inD (eVar 3) (eLst (aCons (eC (.str "cut")) (aCons (eC (.str "each")) (aCons (eC (.str "hundredths")) aNil)))))) (sExpr (eApp (eVar 1) (eOp addD (eOp addD (eCut (eVar 0) oNone (oSome (eC (.int 2)))) (eTup (aCons (eIf (bVal (eOp gtD (eVar 4) (eC (.int 0)))) (eOp subD (eVar 4) (eC (.int 1))) (eC (.int 7))) aNil))) (eCut (eVar 0) (oSome (eC (.int 3))) oNone)))) sPass)
  (sRet (eFrzL (eVar 1))))))))))))))
def m__law_others : Fn := fnM 11 b__law_others
def t__law_others_14 : ES := (sRet (eFrzL (eVar 1)))
def t__law_others_12 : ES := (sSeq (sIf (bVal (eOp inD (eVar 3) (eLst (aCons (eC (.str "cut")) (aCons (eC (.str "each")) (aCons (eC (.str "hundredths")) aNil)))))) (sExpr (eApp (eVar 1) (eOp addD (eOp addD (eCut (eVar 0) oNone (oSome (eC (.int 2)))) (eTup (aCons (eIf (bVal (eOp gtD (eVar 4) (eC (.int 0)))) (eOp subD (eVar 4) (eC (.int 1))) (eC (.int 7))) aNil))) (eCut (eVar 0) (oSome (eC (.int 3))) oNone)))) sPass) t__law_others_14)
def t__law_others_10 : ES := (sSeq (sIf (bVal (eOp ltA (eVar 7) (eVar 8))) (sSet 1 (eAddM (eVar 1) (eLst (aCons (eOp addD (eOp addD (eCut (eVar 0) oNone (oSome (eC (.int 5)))) (eTup (aCons (eOp addD (eVar 7) (eC (.int 1))) aNil))) (eCut (eVar 0) (oSome (eC (.int 6))) oNone)) (aCons (eOp addD (eOp addD (eCut (eVar 0) oNone (oSome (eC (.int 6)))) (eTup (aCons (eOp subD (eVar 8) (eC (.int 1))) aNil))) (eCut (eVar 0) (oSome (eC (.int 7))) oNone)) aNil))))) sPass) t__law_others_12)
def t__law_others_9 : ES := (sSeq (sExpr (eApp (eVar 1) (eOp addD (eCut (eVar 0) oNone (oSome (eC (.int 8)))) (eTup (aCons (eIf (bVal (eOp notBD (eVar 10) (eC (.bl false)))) (eC (.bl false)) (eC .non)) aNil))))) t__law_others_10)
def t__law_others_8 : ES := (sSeq (sExpr (eApp (eVar 1) (eOp addD (eCut (eVar 0) oNone (oSome (eC (.int 8)))) (eTup (aCons (eIf (bOf (eVar 10)) (eC .non) (eC (.bl true))) aNil))))) t__law_others_9)
def t__law_others_7 : ES := (sSeq (sExpr (eApp (eVar 1) (eOp addD (eCut (eVar 0) oNone (oSome (eC (.int 7)))) (eTup (aCons (eIf (bVal (eOp ltA (eVar 9) (eOp powD (eC (.int 10)) (eC (.int 12))))) (eOp addD (eVar 9) (eC (.int 1))) (eC (.int 0))) (aCons (eVar 10) aNil)))))) t__law_others_8)
def t__law_others_6 : ES := (sSeq (sExpr (eApp (eVar 1) (eOp addD (eOp addD (eCut (eVar 0) oNone (oSome (eC (.int 4)))) (eTup (aCons (eIf (bVal (eOp eqD (eVar 6) (eC (.int 0)))) (eC .non) (eC (.int 0))) aNil))) (eCut (eVar 0) (oSome (eC (.int 5))) oNone)))) t__law_others_7)
def t__law_others_5 : ES := (sSeq (sExpr (eApp (eVar 1) (eOp addD (eOp addD (eCut (eVar 0) oNone (oSome (eC (.int 4)))) (eTup (aCons (eIf (bVal (eOp neD (eVar 6) (eC (.int 2)))) (eC (.int 2)) (eC .non)) aNil))) (eCut (eVar 0) (oSome (eC (.int 5))) oNone)))) t__law_others_6)
def t__law_others_4 : ES := (sSeq (sExpr (eApp (eVar 1) (eOp addD (eOp addD (eCut (eVar 0) oNone (oSome (eC (.int 3)))) (eTup (aCons (eIf (bVal (eOp neD (eVar 5) (eC (.str "bed")))) (eC (.str "bed")) (eC .non)) aNil))) (eCut (eVar 0) (oSome (eC (.int 4))) oNone)))) t__law_others_5)
def t__law_others_3 : ES := (sSeq (sSet 1 (eLstM (aCons (eOp addD (eTup (aCons (eOp mulS (eC (.str "z")) (eOp subD (eC (.int 9)) (eB bLenA (aCons (eVar 2) aNil)))) aNil)) (eCut (eVar 0) (oSome (eC (.int 1))) oNone)) (aCons (eOp addD (eTup (aCons (eVar 2) (aCons (eIf (bVal (eOp neD (eVar 3) (eC (.str "refuse")))) (eC (.str "refuse")) (eC (.str "let"))) (aCons (eC (.int 0)) aNil)))) (eCut (eVar 0) (oSome (eC (.int 3))) oNone)) aNil)))) t__law_others_4)
def t__law_others_2 : ES := (sSeq (sUnp (pTup (pCons (pName 5) (pCons (pName 6) (pCons (pName 7) (pCons (pName 8) (pCons (pName 9) (pCons (pName 10) pNil))))))) (eCut (eVar 0) (oSome (eC (.int 3))) oNone)) t__law_others_3)
theorem x__law_others : b__law_others = (sSeq (sUnp (pTup (pCons (pName 2) (pCons (pName 3) (pCons (pName 4) pNil)))) (eCut (eVar 0) oNone (oSome (eC (.int 3))))) t__law_others_2) := rfl
def b__law_odd : ES :=
  (sSeq (sSet 1 (eLst (aCons (eC .non) (aCons (eC (.bl true)) (aCons (eC (.bl false)) (aCons (eC (.int 0)) (aCons (eUn negD (eC (.int 1))) (aCons (eC (.int 7)) (aCons (eC (.int 60)) (aCons (eOp addD (eOp powD (eC (.int 10)) (eC (.int 6))) (eC (.int 1))) (aCons (eOp powD (eC (.int 10)) (eC (.int 29))) (aCons (eC (.str "")) (aCons (eC (.str "meal")) (aCons (eC (.str "Meal")) (aCons (eC (.str "let")) (aCons (eTup aNil) (aCons (eLst aNil) (aCons (eC (.dct [])) (aCons (eTup (aCons (eC (.int 0)) aNil)) (aCons (eLst (aCons (eC (.int 0)) aNil)) aNil))))))))))))))))))))
  (sRet (eIdxB (eOp addD (eVar 1) (eLst (aCons (eTup (aCons (eC (.str "meal")) aNil)) (aCons (eC (dctC [(.inl 0, .int 1)])) aNil)))) (eFn (callM m__law_take 2 0 2 [(0, 0), (0, 1)] []) (aCons (eVar 0) (aCons (eC (.int 20)) aNil)) aNil))))
def m__law_odd : Fn := fnM 2 b__law_odd
def t__law_odd_2 : ES := (sRet (eIdxB (eOp addD (eVar 1) (eLst (aCons (eTup (aCons (eC (.str "meal")) aNil)) (aCons (eC (dctC [(.inl 0, .int 1)])) aNil)))) (eFn (callM m__law_take 2 0 2 [(0, 0), (0, 1)] []) (aCons (eVar 0) (aCons (eC (.int 20)) aNil)) aNil)))
theorem x__law_odd : b__law_odd = (sSeq (sSet 1 (eLst (aCons (eC .non) (aCons (eC (.bl true)) (aCons (eC (.bl false)) (aCons (eC (.int 0)) (aCons (eUn negD (eC (.int 1))) (aCons (eC (.int 7)) (aCons (eC (.int 60)) (aCons (eOp addD (eOp powD (eC (.int 10)) (eC (.int 6))) (eC (.int 1))) (aCons (eOp powD (eC (.int 10)) (eC (.int 29))) (aCons (eC (.str "")) (aCons (eC (.str "meal")) (aCons (eC (.str "Meal")) (aCons (eC (.str "let")) (aCons (eTup aNil) (aCons (eLst aNil) (aCons (eC (.dct [])) (aCons (eTup (aCons (eC (.int 0)) aNil)) (aCons (eLst (aCons (eC (.int 0)) aNil)) aNil)))))))))))))))))))) t__law_odd_2) := rfl
def b_law : ES :=
  (sSeq (sFor (itR1 (aCons (eB bMax2 (aCons (eC (.int 1)) (aCons (eB bMin2 (aCons (eB bLenA (aCons (eVar 0) aNil)) (aCons (eC (.int 4)) aNil))) aNil))) aNil)) (pName 1) (sSeq (sSet 2 (eFn (callM m__law_box 2 0 2 [(0, 0), (0, 1)] []) (aCons (eVar 0) (aCons (eVar 1) aNil)) aNil))
  (sFor (itR1 (aCons (eC (.int 4)) aNil)) (pName 3) (sSeq (sSet 4 (eFn (callM m__law_ruled 2 0 2 [(0, 0), (0, 1)] []) (aCons (eVar 2) (aCons (eFn (callM m__law_name 1 0 1 [(0, 0)] []) (aCons (eVar 2) aNil) aNil) aNil)) aNil))
  (sSeq (sPar2 8 9 (aCons (eFn (callM m__law_made 1 0 1 [(0, 0)] []) (aCons (eVar 4) aNil) aNil) (aCons (eFn (callM m__law_made 1 0 1 [(0, 0)] []) (aCons (eVar 4) aNil) aNil) aNil)))
  (sSeq (sIf (bOr (bVal (eEqA tab_0 cls_0 not (eVar 8) (eVar 9))) (bOr (bNot (bVal (eEqA tab_0 cls_0 id (eVar 9) (eVar 8)))) (bOr (bVal (eOp neD (eReprO "Rule" m_Rule_repr (eVar 8)) (eFn (callM m__law_rule_shown 1 0 1 [(0, 0)] []) (aCons (eVar 4) aNil) aNil))) (bVal (eOp neD (eReprO "Rule" m_Rule_repr (eVar 9)) (eReprO "Rule" m_Rule_repr (eVar 8))))))) (sRet (eC (.bl false))) sPass)
  (sSeq (sSet 5 (eLC [6] (itAny (eFn (callM m__law_others 1 0 1 [(0, 0)] []) (aCons (eVar 4) aNil) aNil)) (pName 6) (bVal (eEqA tab_0 cls_0 not (eVar 6) (eVar 4))) (eFn (callM m__law_made 1 0 1 [(0, 0)] []) (aCons (eVar 6) aNil) aNil)))
  (sSeq (sIf (bOr (bVal (eInA tab_0 cls_0 id (eVar 8) (eVar 5))) (bVal (eInA tab_0 cls_0 not (eVar 9) (eOp addD (eVar 5) (eLst (aCons (eVar 8) aNil)))))) (sRet (eC (.bl false))) sPass)
  (sSeq (sFor (itAny (eVar 5)) (pName 6) (sIf (bOr (bVal (eEqA tab_0 cls_0 id (eVar 6) (eVar 8))) (bOr (bNot (bVal (eEqA tab_0 cls_0 not (eVar 8) (eVar 6)))) (bVal (eOp eqD (eReprO "Rule" m_Rule_repr (eVar 6)) (eReprO "Rule" m_Rule_repr (eVar 8)))))) (sRet (eC (.bl false))) sPass))
  (sFor (itAny (eLst (aCons (eVar 4) (aCons (eIdxB (eVar 4) (eC (.int 0))) (aCons (eReprO "Rule" m_Rule_repr (eVar 8)) (aCons (eC .non) (aCons (eC (.bl true)) (aCons (eLst (aCons (eVar 8) aNil)) (aCons (eFn (callM m__law_odd 1 0 1 [(0, 0)] []) (aCons (eVar 2) aNil) aNil) aNil))))))))) (pName 7) (sIf (bOr (bVal (eEqA tab_0 cls_0 id (eVar 8) (eVar 7))) (bOr (bVal (eEqA tab_0 cls_0 id (eVar 7) (eVar 8))) (bNot (bVal (eEqA tab_0 cls_0 not (eVar 8) (eVar 7)))))) (sRet (eC (.bl false))) sPass)))))))))))
  (sRet (eC (.bl true))))
def m_law : Fn := fnM 10 b_law
def t_law_12 : ES := (sIf (bOr (bVal (eEqA tab_0 cls_0 id (eVar 6) (eVar 8))) (bOr (bNot (bVal (eEqA tab_0 cls_0 not (eVar 8) (eVar 6)))) (bVal (eOp eqD (eReprO "Rule" m_Rule_repr (eVar 6)) (eReprO "Rule" m_Rule_repr (eVar 8)))))) (sRet (eC (.bl false))) sPass)
def t_law_15 : ES := (sIf (bOr (bVal (eEqA tab_0 cls_0 id (eVar 8) (eVar 7))) (bOr (bVal (eEqA tab_0 cls_0 id (eVar 7) (eVar 8))) (bNot (bVal (eEqA tab_0 cls_0 not (eVar 8) (eVar 7)))))) (sRet (eC (.bl false))) sPass)
def t_law_14 : ES := (sFor (itAny (eLst (aCons (eVar 4) (aCons (eIdxB (eVar 4) (eC (.int 0))) (aCons (eReprO "Rule" m_Rule_repr (eVar 8)) (aCons (eC .non) (aCons (eC (.bl true)) (aCons (eLst (aCons (eVar 8) aNil)) (aCons (eFn (callM m__law_odd 1 0 1 [(0, 0)] []) (aCons (eVar 2) aNil) aNil) aNil))))))))) (pName 7) t_law_15)
def t_law_11 : ES := (sSeq (sFor (itAny (eVar 5)) (pName 6) t_law_12) t_law_14)
def t_law_9 : ES := (sSeq (sIf (bOr (bVal (eInA tab_0 cls_0 id (eVar 8) (eVar 5))) (bVal (eInA tab_0 cls_0 not (eVar 9) (eOp addD (eVar 5) (eLst (aCons (eVar 8) aNil)))))) (sRet (eC (.bl false))) sPass) t_law_11)
def t_law_8 : ES := (sSeq (sSet 5 (eLC [6] (itAny (eFn (callM m__law_others 1 0 1 [(0, 0)] []) (aCons (eVar 4) aNil) aNil)) (pName 6) (bVal (eEqA tab_0 cls_0 not (eVar 6) (eVar 4))) (eFn (callM m__law_made 1 0 1 [(0, 0)] []) (aCons (eVar 6) aNil) aNil))) t_law_9)
def t_law_6 : ES := (sSeq (sIf (bOr (bVal (eEqA tab_0 cls_0 not (eVar 8) (eVar 9))) (bOr (bNot (bVal (eEqA tab_0 cls_0 id (eVar 9) (eVar 8)))) (bOr (bVal (eOp neD (eReprO "Rule" m_Rule_repr (eVar 8)) (eFn (callM m__law_rule_shown 1 0 1 [(0, 0)] []) (aCons (eVar 4) aNil) aNil))) (bVal (eOp neD (eReprO "Rule" m_Rule_repr (eVar 9)) (eReprO "Rule" m_Rule_repr (eVar 8))))))) (sRet (eC (.bl false))) sPass) t_law_8)
def t_law_5 : ES := (sSeq (sPar2 8 9 (aCons (eFn (callM m__law_made 1 0 1 [(0, 0)] []) (aCons (eVar 4) aNil) aNil) (aCons (eFn (callM m__law_made 1 0 1 [(0, 0)] []) (aCons (eVar 4) aNil) aNil) aNil))) t_law_6)
def t_law_4 : ES := (sSeq (sSet 4 (eFn (callM m__law_ruled 2 0 2 [(0, 0), (0, 1)] []) (aCons (eVar 2) (aCons (eFn (callM m__law_name 1 0 1 [(0, 0)] []) (aCons (eVar 2) aNil) aNil) aNil)) aNil)) t_law_5)
def t_law_3 : ES := (sFor (itR1 (aCons (eC (.int 4)) aNil)) (pName 3) t_law_4)
def t_law_2 : ES := (sSeq (sSet 2 (eFn (callM m__law_box 2 0 2 [(0, 0), (0, 1)] []) (aCons (eVar 0) (aCons (eVar 1) aNil)) aNil)) t_law_3)
def t_law_17 : ES := (sRet (eC (.bl true)))
theorem x_law : b_law = (sSeq (sFor (itR1 (aCons (eB bMax2 (aCons (eC (.int 1)) (aCons (eB bMin2 (aCons (eB bLenA (aCons (eVar 0) aNil)) (aCons (eC (.int 4)) aNil))) aNil))) aNil)) (pName 1) t_law_2) t_law_17) := rfl
def top (i : Nat) : Stmt := (PySem.Challenge.pw_roadpence_k07_rules_alike).main.body.getD i (.Pass ⟨0, 0, 0, 0⟩)
def clsBody : Stmt → List Stmt
  | .ClassDef _ _ _ b _ _ _ _ _ _ _ => b
  | _ => []
abbrev meth (i j : Nat) : Stmt := (clsBody (top i)).getD j (.Pass ⟨0, 0, 0, 0⟩)
def d__law_box : He.DefD := ⟨("_law_box", none), "_law_box", "_law_box", defArgs (top 24), defBody (top 24), defScope (top 24), [], []⟩
def d__law_more : He.DefD := ⟨("_law_more", none), "_law_more", "_law_more", defArgs (top 25), defBody (top 25), defScope (top 25), [], []⟩
def d__law_take : He.DefD := ⟨("_law_take", none), "_law_take", "_law_take", defArgs (top 26), defBody (top 26), defScope (top 26), [], []⟩
def d__law_bound : He.DefD := ⟨("_law_bound", none), "_law_bound", "_law_bound", defArgs (top 27), defBody (top 27), defScope (top 27), [], []⟩
def d__law_ruled : He.DefD := ⟨("_law_ruled", none), "_law_ruled", "_law_ruled", defArgs (top 28), defBody (top 28), defScope (top 28), [], []⟩
def d__law_name : He.DefD := ⟨("_law_name", none), "_law_name", "_law_name", defArgs (top 29), defBody (top 29), defScope (top 29), [], []⟩
def d_is_name : He.DefD := ⟨("is_name", none), "is_name", "is_name", defArgs (top 17), defBody (top 17), defScope (top 17), [], []⟩
def d_is_deed : He.DefD := ⟨("is_deed", none), "is_deed", "is_deed", defArgs (top 18), defBody (top 18), defScope (top 18), [], []⟩
def d_is_whole : He.DefD := ⟨("is_whole", none), "is_whole", "is_whole", defArgs (top 8), defBody (top 8), defScope (top 8), [], []⟩
def d_is_kind : He.DefD := ⟨("is_kind", none), "is_kind", "is_kind", defArgs (top 9), defBody (top 9), defScope (top 9), [], []⟩
def d_wrong_part : He.DefD := ⟨("wrong_part", none), "wrong_part", "wrong_part", defArgs (top 21), defBody (top 21), defScope (top 21), [], []⟩
def d_Rule_init : He.DefD := ⟨("Rule", some "__init__"), "__init__", "Rule.__init__", defArgs (meth 22 0), defBody (meth 22 0), defScope (meth 22 0), [.str "let", .int 0, .non, .non, .int 0, .int 59, .int 0, .non], []⟩
def d__law_made : He.DefD := ⟨("_law_made", none), "_law_made", "_law_made", defArgs (top 30), defBody (top 30), defScope (top 30), [], []⟩
def d_Rule_all_parts : He.DefD := ⟨("Rule", some "all_parts"), "all_parts", "Rule.all_parts", defArgs (meth 22 1), defBody (meth 22 1), defScope (meth 22 1), [], []⟩
def d_Rule_eq : He.DefD := ⟨("Rule", some "__eq__"), "__eq__", "Rule.__eq__", defArgs (meth 22 2), defBody (meth 22 2), defScope (meth 22 2), [], []⟩
def d_option : He.DefD := ⟨("option", none), "option", "option", defArgs (top 10), defBody (top 10), defScope (top 10), [], []⟩
def d_Rule_repr : He.DefD := ⟨("Rule", some "__repr__"), "__repr__", "Rule.__repr__", defArgs (meth 22 3), defBody (meth 22 3), defScope (meth 22 3), [], []⟩
def d__law_rule_shown : He.DefD := ⟨("_law_rule_shown", none), "_law_rule_shown", "_law_rule_shown", defArgs (top 31), defBody (top 31), defScope (top 31), [], []⟩
def d__law_others : He.DefD := ⟨("_law_others", none), "_law_others", "_law_others", defArgs (top 33), defBody (top 33), defScope (top 33), [], []⟩
def d__law_odd : He.DefD := ⟨("_law_odd", none), "_law_odd", "_law_odd", defArgs (top 32), defBody (top 32), defScope (top 32), [], []⟩
def d_law : He.DefD := ⟨("law", none), "law", "law", defArgs (top 34), defBody (top 34), defScope (top 34), [], []⟩
def lw : Lw where
  glo := ["BOUNDS", "KINDS", "Rule", "_law_bound", "_law_box", "_law_made", "_law_more", "_law_name", "_law_odd", "_law_others", "_law_rule_shown", "_law_ruled", "_law_take", "is_deed", "is_kind", "is_name", "is_whole", "law", "option", "wrong_part"]
  free := ["abs", "all", "bool", "divmod", "int", "isinstance", "len", "max", "min", "range", "repr", "str", "zip"]
  gins := [("LAST_DAY", 59), ("LAST_TOWN", 3), ("MOST_LETTERS", 8), ("MOST_SHARE", 1000000000000)]
  cls := ["Rule"]
  noat := [("Rule", "bound"), ("Rule", "deed"), ("Rule", "first"), ("Rule", "kind"), ("Rule", "last"), ("Rule", "name"), ("Rule", "over"), ("Rule", "paper"), ("Rule", "town")]
  meth := [("Rule", "__eq__"), ("Rule", "__repr__"), ("Rule", "all_parts")]
  mkr := ["Rule"]
  isi := ["Rule"]
  kit := [(.b "NoneType", .b "bool"), (.b "NoneType", .b "int"), (.b "NoneType", .b "str"), (.b "NoneType", .o "Rule"), (.b "bool", .b "bool"), (.b "bool", .b "int"), (.b "bool", .b "str"), (.b "bool", .o "Rule"), (.b "dict", .b "bool"), (.b "dict", .b "int"), (.b "dict", .b "str"), (.b "dict", .o "Rule"), (.b "int", .b "bool"), (.b "int", .b "int"), (.b "int", .b "str"), (.b "int", .o "Rule"), (.b "list", .b "bool"), (.b "list", .b "int"), (.b "list", .b "str"), (.b "list", .o "Rule"), (.b "str", .b "bool"), (.b "str", .b "int"), (.b "str", .b "str"), (.b "str", .o "Rule"), (.b "tuple", .b "bool"), (.b "tuple", .b "int"), (.b "tuple", .b "str"), (.b "tuple", .o "Rule"), (.o "Rule", .b "bool"), (.o "Rule", .b "int"), (.o "Rule", .b "str"), (.o "Rule", .o "Rule")]
  tups := [("KINDS", [.str "bed", .str "fee", .str "meal", .str "ride", .str "sundry"])]
  defs := [d__law_box, d__law_more, d__law_take, d__law_bound, d__law_ruled, d__law_name, d_is_name, d_is_deed, d_is_whole, d_is_kind, d_wrong_part, d_Rule_init, d__law_made, d_Rule_all_parts, d_Rule_eq, d_option, d_Rule_repr, d__law_rule_shown, d__law_others, d__law_odd, d_law]
  gstrs := [("LETTERS", "abcdefghijklmnopqrstuvwxyz")]
  bs := [fun K => dcB K ("BOUNDS" : PySem.Str) kv_BOUNDS, fun K => decide (PySem.W.findIn K (.ref (He.ga K ("Rule" : PySem.Str))) "__ne__" = some (some (.builtin "object.__ne__"))), fun K => decide (PySem.W.mroIn K (He.ga K ("Rule" : PySem.Str)) (.type "object") = some true), fun K => decide (∀ c ∈ (["Rule"] : List String), ∀ c' ∈ (["Rule"] : List String), He.ga K (c : PySem.Str) = He.ga K (c' : PySem.Str) → c = c'), fun K => (["Rule"] : List String).all fun c => tyNs.all fun t => PySem.W.notFirst K (He.ga K (c : PySem.Str)) (.type t), fun K => (["Rule"] : List String).all fun c => (["Rule"] : List String).all fun c' => PySem.W.notFirst K (He.ga K (c : PySem.Str)) (.ref (He.ga K (c' : PySem.Str))), fun K => (["Rule"] : List String).all fun c => tyNs.all fun t => decide (PySem.W.subIn K (.ref (He.ga K (c : PySem.Str))) (.type t) = some false)]
section
variable {T : Tb} {P : Program} {w : World} {mg : Str → Option Value} {base : Heap}
theorem nd__law_box : (["_law_script", "_law_k", "_law_here", "_law_number", "_law_j", "_law_piece"] : List Str).Nodup := by decide +kernel
theorem sc__law_box : FnScope ["_law_script", "_law_k", "_law_here", "_law_number", "_law_j", "_law_piece"] ["_law_script", "_law_k"] d__law_box.scope := ⟨rfl, rfl, rfl, nd__law_box, rfl, by decide +kernel, by decide +kernel⟩
theorem ok__law_box (F : Fx T mg lw) (hcf : T.cf = cf) (hD : DictsK T.K w (dcsL.map (·.1))) : OkF T P w mg base 1 d__law_box ["_law_script", "_law_k"] m__law_box := by
  obtain ⟨fd, FD⟩ := F.defs 0 d__law_box rfl
  refine OkF.mk' (N := ["_law_script", "_law_k", "_law_here", "_law_number", "_law_j", "_law_piece"]) FD sc__law_box fun cdv A outer s H E hr => ?_
  show ISs T E _ (defBody (top 24)) b__law_box
  exact (is_cons (is_st 2 nd__law_box (ie_op (oi_add (by rfl)) (ie_op (oi_mul) ie_int (ie_v 1)) ie_int))
  (is_cons (is_if (ib_cmp (oi_ltA (by rfl) (by exact hr.rm.units0)) (ie_v 1) (ie_b (by exact call_len) bo_lenA (by rfl) (by exact F.f "len") (by decide +kernel) (ia_cons (ie_v 0) ia_nil)) (by rfl)) (is_one (is_st 2 nd__law_box (ie_idxB (by rfl) (by exact hu1 hr) (ie_v 0) (ie_v 1)))) is_nil)
  (is_cons (is_if (ib_cmp (oi_eqP (by rfl) (by exact hr.rm.units)) (ie_op (oi_mod) (ie_v 2) ie_int) ie_int (by rfl)) (is_one (is_ret (ie_lstM (ia_cons (ie_op (oi_fdiv) (ie_v 2) ie_int) (ia_cons (ie_op (oi_mod) (ie_b (by exact call_abs) bo_abs (by rfl) (by exact F.f "abs") (by decide +kernel) (ia_cons (ie_v 2) ia_nil)) ie_int) ia_nil))))) is_nil)
  (is_cons (is_st 3 nd__law_box ie_int)
  (is_cons (is_for (vs := allN 6) (by exact passes_of rfl) (by rfl) (ii_r1 (by rfl) (by exact F.f "range") (ia_cons ie_int ia_nil)) (ig_n 4 nd__law_box) (is_cons (is_st 5 nd__law_box (ie_op (oi_mod) (ie_op (oi_add (by rfl)) (ie_op (oi_add (by rfl)) (ie_op (oi_mul) (ie_op (oi_mod) (ie_v 2) ie_int) ie_int) (ie_op (oi_mul) ie_int (ie_v 4))) ie_int) ie_int))
  (is_cons (is_st 5 nd__law_box (ie_op (oi_mod) (ie_op (oi_mul) (ie_v 5) (ie_v 5)) ie_int))
  (is_one (is_st 3 nd__law_box (ie_op (oi_add (by rfl)) (ie_op (oi_mul) (ie_v 3) ie_int) (ie_op (oi_mod) (ie_op (oi_mul) (ie_v 5) (ie_op (oi_add (by rfl)) (ie_v 5) ie_int)) ie_int)))))))
  (is_one (is_ret (ie_lstM (ia_cons (ie_v 3) (ia_cons (ie_op (oi_mod) (ie_b (by exact call_abs) bo_abs (by rfl) (by exact F.f "abs") (by decide +kernel) (ia_cons (ie_v 2) ia_nil)) ie_int) ia_nil))))))))))
theorem kb__law_box_0 (fd : FuncData) (FD : FunD T.K d__law_box.name d__law_box.qual d__law_box.params d__law_box.body d__law_box.scope (d__law_box.dvs T.K) [] (He.fAd T.K d__law_box.at_) fd) : KBD T fd ["_law_script", "_law_k"] 2 [] [(0, 0), (0, 1)] [] :=
  kbd_n FD fun kV doc pm an cdv ct us ws h1 h2 => match us, ws, h1, h2 with | [_, _], [], _, _ => rfl
theorem nd__law_more : (["_law_box_here", "_law_number", "_law_j"] : List Str).Nodup := by decide +kernel
theorem sc__law_more : FnScope ["_law_box_here", "_law_number", "_law_j"] ["_law_box_here"] d__law_more.scope := ⟨rfl, rfl, rfl, nd__law_more, rfl, by decide +kernel, by decide +kernel⟩
theorem ok__law_more (F : Fx T mg lw) (hcf : T.cf = cf) (hD : DictsK T.K w (dcsL.map (·.1))) : OkF T P w mg base 1 d__law_more ["_law_box_here"] m__law_more := by
  obtain ⟨fd, FD⟩ := F.defs 1 d__law_more rfl
  refine OkF.mk' (N := ["_law_box_here", "_law_number", "_law_j"]) FD sc__law_more fun cdv A outer s H E hr => ?_
  show ISs T E _ (defBody (top 25)) b__law_more
  exact (is_cons (is_st 1 nd__law_more ie_int)
  (is_cons (is_for (vs := allN 3) (by exact passes_of rfl) (by rfl) (ii_r1 (by rfl) (by exact F.f "range") (ia_cons ie_int ia_nil)) (ig_n 2 nd__law_more) (is_cons (is_setit (ie_op (oi_mod) (ie_op (oi_add (by rfl)) (ie_op (oi_mul) (ie_idxB (by rfl) (by exact hu1 hr) (ie_v 0) ie_int) ie_int) ie_int) ie_int) (ie_v 0) ie_int)
  (is_one (is_st 1 nd__law_more (ie_op (oi_add (by rfl)) (ie_op (oi_mul) (ie_v 1) ie_int) (ie_op (oi_mod) (ie_op (oi_fdiv) (ie_idxB (by rfl) (by exact hu1 hr) (ie_v 0) ie_int) ie_int) ie_int))))))
  (is_one (is_ret (ie_v 1)))))
theorem kb__law_more_0 (fd : FuncData) (FD : FunD T.K d__law_more.name d__law_more.qual d__law_more.params d__law_more.body d__law_more.scope (d__law_more.dvs T.K) [] (He.fAd T.K d__law_more.at_) fd) : KBD T fd ["_law_box_here"] 1 [] [(0, 0)] [] :=
  kbd_n FD fun kV doc pm an cdv ct us ws h1 h2 => match us, ws, h1, h2 with | [_], [], _, _ => rfl
theorem nd__law_take : (["_law_box_here", "_law_count", "_law_rest_of", "_law_digit"] : List Str).Nodup := by decide +kernel
theorem sc__law_take : FnScope ["_law_box_here", "_law_count", "_law_rest_of", "_law_digit"] ["_law_box_here", "_law_count"] d__law_take.scope := ⟨rfl, rfl, rfl, nd__law_take, rfl, by decide +kernel, by decide +kernel⟩
theorem ok__law_take (F : Fx T mg lw) (hcf : T.cf = cf) (hD : DictsK T.K w (dcsL.map (·.1))) : OkF T P w mg base 2 d__law_take ["_law_box_here", "_law_count"] m__law_take := by
  obtain ⟨fd, FD⟩ := F.defs 2 d__law_take rfl
  refine OkF.mk' (N := ["_law_box_here", "_law_count", "_law_rest_of", "_law_digit"]) FD sc__law_take fun cdv A outer s H E hr => ?_
  show ISs T E _ (defBody (top 26)) b__law_take
  exact (is_cons (is_if (ib_chain (oi_le) (oi_ltA (by rfl) (by exact hr.rm.units0)) ie_int (ie_idxB (by rfl) (by exact hu1 hr) (ie_v 0) ie_int) (ie_v 1)) (is_one (is_setit (ie_op (oi_add (by rfl)) (ie_idxB (by rfl) (by exact hu1 hr) (ie_v 0) ie_int) (ie_op (oi_mul) (ie_v 1) (ie_fnF (by exact ok__law_more F hcf hD) (by rfl) (by exact hr.mono (by decide)) (by rfl) (by exact F.g "_law_more") kb__law_more_0 (by exact tk_cx) (ak_cons (ia_cons (ie_v 0) ia_nil) ik_nil)))) (ie_v 0) ie_int)) is_nil)
  (is_cons (is_unp (vs := allN 4) (ie_b (by exact call_divmodW) bo_divmod (by rfl) (by exact F.f "divmod") (by decide +kernel) (ia_cons (ie_idxB (by rfl) (by exact hu1 hr) (ie_v 0) ie_int) (ia_cons (ie_v 1) ia_nil))) (ig_tup (by rfl) (igs_cons (ig_n 2 nd__law_take) (igs_cons (ig_n 3 nd__law_take) igs_nil)) (len_cons (len_cons len_nil))))
  (is_cons (is_setit (ie_v 2) (ie_v 0) ie_int)
  (is_one (is_ret (ie_v 3))))))
theorem kb__law_take_0 (fd : FuncData) (FD : FunD T.K d__law_take.name d__law_take.qual d__law_take.params d__law_take.body d__law_take.scope (d__law_take.dvs T.K) [] (He.fAd T.K d__law_take.at_) fd) : KBD T fd ["_law_box_here", "_law_count"] 2 [] [(0, 0), (0, 1)] [] :=
  kbd_n FD fun kV doc pm an cdv ct us ws h1 h2 => match us, ws, h1, h2 with | [_, _], [], _, _ => rfl
theorem nd__law_bound : (["_law_box_here", "_law_act", "_law_far"] : List Str).Nodup := by decide +kernel
theorem sc__law_bound : FnScope ["_law_box_here", "_law_act", "_law_far"] ["_law_box_here", "_law_act"] d__law_bound.scope := ⟨rfl, rfl, rfl, nd__law_bound, rfl, by decide +kernel, by decide +kernel⟩
theorem ok__law_bound (F : Fx T mg lw) (hcf : T.cf = cf) (hD : DictsK T.K w (dcsL.map (·.1))) : OkF T P w mg base 3 d__law_bound ["_law_box_here", "_law_act"] m__law_bound := by
  obtain ⟨fd, FD⟩ := F.defs 3 d__law_bound rfl
  refine OkF.mk' (N := ["_law_box_here", "_law_act", "_law_far"]) FD sc__law_bound fun cdv A outer s H E hr => ?_
  show ISs T E _ (defBody (top 27)) b__law_bound
  exact (is_cons (is_st 2 nd__law_bound (ie_op (oi_pow) ie_int ie_int))
  (is_cons (is_if (ib_cmp (oi_eqP (by rfl) (by exact hr.rm.units)) (ie_v 1) ie_str (by rfl)) (is_one (is_ret (ie_idxB (by rfl) (by exact hu1 hr) (ie_lst (ia_cons ie_int (ia_cons (ie_op (oi_add (by rfl)) ie_int (ie_fnF (by exact ok__law_take F hcf hD) (by rfl) (by exact hr.mono (by decide)) (by rfl) (by exact F.g "_law_take") kb__law_take_0 (by exact tk_cx) (ak_cons (ia_cons (ie_v 0) (ia_cons ie_int ia_nil)) ik_nil))) (ia_cons (ie_v 2) (ia_cons (ie_fnF (by exact ok__law_take F hcf hD) (by rfl) (by exact hr.mono (by decide)) (by rfl) (by exact F.g "_law_take") kb__law_take_0 (by exact tk_cx) (ak_cons (ia_cons (ie_v 0) (ia_cons (ie_op (oi_add (by rfl)) (ie_v 2) ie_int) ia_nil)) ik_nil)) ia_nil))))) (ie_fnF (by exact ok__law_take F hcf hD) (by rfl) (by exact hr.mono (by decide)) (by rfl) (by exact F.g "_law_take") kb__law_take_0 (by exact tk_cx) (ak_cons (ia_cons (ie_v 0) (ia_cons ie_int ia_nil)) ik_nil))))) is_nil)
  (is_cons (is_if (ib_cmp (oi_eqP (by rfl) (by exact hr.rm.units)) (ie_v 1) ie_str (by rfl)) (is_one (is_ret (ie_idxB (by rfl) (by exact hu1 hr) (ie_lst (ia_cons ie_int (ia_cons ie_int (ia_cons ie_int (ia_cons ie_int (ia_cons (ie_fnF (by exact ok__law_take F hcf hD) (by rfl) (by exact hr.mono (by decide)) (by rfl) (by exact F.g "_law_take") kb__law_take_0 (by exact tk_cx) (ak_cons (ia_cons (ie_v 0) (ia_cons ie_int ia_nil)) ik_nil)) ia_nil)))))) (ie_fnF (by exact ok__law_take F hcf hD) (by rfl) (by exact hr.mono (by decide)) (by rfl) (by exact F.g "_law_take") kb__law_take_0 (by exact tk_cx) (ak_cons (ia_cons (ie_v 0) (ia_cons ie_int ia_nil)) ik_nil))))) is_nil)
  (is_cons (is_if (ib_cmp (oi_eqP (by rfl) (by exact hr.rm.units)) (ie_v 1) ie_str (by rfl)) (is_one (is_ret (ie_idxB (by rfl) (by exact hu1 hr) (ie_lst (ia_cons ie_int (ia_cons ie_int (ia_cons ie_int (ia_cons ie_int (ia_cons ie_int (ia_cons (ie_fnF (by exact ok__law_take F hcf hD) (by rfl) (by exact hr.mono (by decide)) (by rfl) (by exact F.g "_law_take") kb__law_take_0 (by exact tk_cx) (ak_cons (ia_cons (ie_v 0) (ia_cons ie_int ia_nil)) ik_nil)) ia_nil))))))) (ie_fnF (by exact ok__law_take F hcf hD) (by rfl) (by exact hr.mono (by decide)) (by rfl) (by exact F.g "_law_take") kb__law_take_0 (by exact tk_cx) (ak_cons (ia_cons (ie_v 0) (ia_cons ie_int ia_nil)) ik_nil))))) is_nil)
  (is_one (is_ret ie_int))))))
theorem kb__law_bound_0 (fd : FuncData) (FD : FunD T.K d__law_bound.name d__law_bound.qual d__law_bound.params d__law_bound.body d__law_bound.scope (d__law_bound.dvs T.K) [] (He.fAd T.K d__law_bound.at_) fd) : KBD T fd ["_law_box_here", "_law_act"] 2 [] [(0, 0), (0, 1)] [] :=
  kbd_n FD fun kV doc pm an cdv ct us ws h1 h2 => match us, ws, h1, h2 with | [_, _], [], _, _ => rfl
theorem nd__law_ruled : (["_law_box_here", "_law_name_here", "_law_act", "_law_ending", "_law_pick", "_law_sort", "_law_city", "_law_since", "_law_until", "_law_above", "_law_given"] : List Str).Nodup := by decide +kernel
theorem sc__law_ruled : FnScope ["_law_box_here", "_law_name_here", "_law_act", "_law_ending", "_law_pick", "_law_sort", "_law_city", "_law_since", "_law_until", "_law_above", "_law_given"] ["_law_box_here", "_law_name_here"] d__law_ruled.scope := ⟨rfl, rfl, rfl, nd__law_ruled, rfl, by decide +kernel, by decide +kernel⟩
theorem ok__law_ruled (F : Fx T mg lw) (hcf : T.cf = cf) (hD : DictsK T.K w (dcsL.map (·.1))) : OkF T P w mg base 4 d__law_ruled ["_law_box_here", "_law_name_here"] m__law_ruled := by
  obtain ⟨fd, FD⟩ := F.defs 4 d__law_ruled rfl
  refine OkF.mk' (N := ["_law_box_here", "_law_name_here", "_law_act", "_law_ending", "_law_pick", "_law_sort", "_law_city", "_law_since", "_law_until", "_law_above", "_law_given"]) FD sc__law_ruled fun cdv A outer s H E hr => ?_
  show ISs T E _ (defBody (top 28)) b__law_ruled
  exact (is_cons (is_st 2 nd__law_ruled (ie_idxB (by rfl) (by exact hu1 hr) (ie_lst (ia_cons ie_str (ia_cons ie_str (ia_cons ie_str (ia_cons ie_str (ia_cons ie_str ia_nil)))))) (ie_fnF (by exact ok__law_take F hcf hD) (by rfl) (by exact hr.mono (by decide)) (by rfl) (by exact F.g "_law_take") kb__law_take_0 (by exact tk_cx) (ak_cons (ia_cons (ie_v 0) (ia_cons ie_int ia_nil)) ik_nil))))
  (is_cons (is_st 3 nd__law_ruled (ie_fnF (by exact ok__law_bound F hcf hD) (by rfl) (by exact hr.mono (by decide)) (by rfl) (by exact F.g "_law_bound") kb__law_bound_0 (by exact tk_cx) (ak_cons (ia_cons (ie_v 0) (ia_cons (ie_v 2) ia_nil)) ik_nil)))
  (is_cons (is_st 4 nd__law_ruled (ie_op (oi_mul) (ie_fnF (by exact ok__law_take F hcf hD) (by rfl) (by exact hr.mono (by decide)) (by rfl) (by exact F.g "_law_take") kb__law_take_0 (by exact tk_cx) (ak_cons (ia_cons (ie_v 0) (ia_cons ie_int ia_nil)) ik_nil)) (ie_bt (by exact call_int1) bo_int (by rfl) (by exact F.f "int") (by decide +kernel) (ia_cons (ie_cmp (oi_gt) (ie_fnF (by exact ok__law_take F hcf hD) (by rfl) (by exact hr.mono (by decide)) (by rfl) (by exact F.g "_law_take") kb__law_take_0 (by exact tk_cx) (ak_cons (ia_cons (ie_v 0) (ia_cons ie_int ia_nil)) ik_nil)) ie_int (by rfl)) ia_nil))))
  (is_cons (is_st 5 nd__law_ruled (ie_idxB (by rfl) (by exact hu1 hr) (ie_lst (ia_cons ie_non (ia_cons ie_str (ia_cons ie_str (ia_cons ie_str (ia_cons ie_str (ia_cons ie_str ia_nil))))))) (ie_v 4)))
  (is_cons (is_st 6 nd__law_ruled (ie_idxB (by rfl) (by exact hu1 hr) (ie_lst (ia_cons ie_non (ia_cons (ie_fnF (by exact ok__law_take F hcf hD) (by rfl) (by exact hr.mono (by decide)) (by rfl) (by exact F.g "_law_take") kb__law_take_0 (by exact tk_cx) (ak_cons (ia_cons (ie_v 0) (ia_cons ie_int ia_nil)) ik_nil)) ia_nil))) (ie_fnF (by exact ok__law_take F hcf hD) (by rfl) (by exact hr.mono (by decide)) (by rfl) (by exact F.g "_law_take") kb__law_take_0 (by exact tk_cx) (ak_cons (ia_cons (ie_v 0) (ia_cons ie_int ia_nil)) ik_nil))))
  (is_cons (is_st 7 nd__law_ruled (ie_idxB (by rfl) (by exact hu1 hr) (ie_lst (ia_cons ie_int (ia_cons ie_int (ia_cons (ie_fnF (by exact ok__law_take F hcf hD) (by rfl) (by exact hr.mono (by decide)) (by rfl) (by exact F.g "_law_take") kb__law_take_0 (by exact tk_cx) (ak_cons (ia_cons (ie_v 0) (ia_cons ie_int ia_nil)) ik_nil)) ia_nil)))) (ie_fnF (by exact ok__law_take F hcf hD) (by rfl) (by exact hr.mono (by decide)) (by rfl) (by exact F.g "_law_take") kb__law_take_0 (by exact tk_cx) (ak_cons (ia_cons (ie_v 0) (ia_cons ie_int ia_nil)) ik_nil))))
  (is_cons (is_st 8 nd__law_ruled (ie_idxB (by rfl) (by exact hu1 hr) (ie_lst (ia_cons ie_int (ia_cons ie_int (ia_cons (ie_op (oi_add (by rfl)) (ie_v 7) (ie_fnF (by exact ok__law_take F hcf hD) (by rfl) (by exact hr.mono (by decide)) (by rfl) (by exact F.g "_law_take") kb__law_take_0 (by exact tk_cx) (ak_cons (ia_cons (ie_v 0) (ia_cons (ie_op (oi_sub) ie_int (ie_v 7)) ia_nil)) ik_nil))) ia_nil)))) (ie_fnF (by exact ok__law_take F hcf hD) (by rfl) (by exact hr.mono (by decide)) (by rfl) (by exact F.g "_law_take") kb__law_take_0 (by exact tk_cx) (ak_cons (ia_cons (ie_v 0) (ia_cons ie_int ia_nil)) ik_nil))))
  (is_cons (is_st 9 nd__law_ruled (ie_idxB (by rfl) (by exact hu1 hr) (ie_lst (ia_cons ie_int (ia_cons ie_int (ia_cons (ie_fnF (by exact ok__law_take F hcf hD) (by rfl) (by exact hr.mono (by decide)) (by rfl) (by exact F.g "_law_take") kb__law_take_0 (by exact tk_cx) (ak_cons (ia_cons (ie_v 0) (ia_cons ie_int ia_nil)) ik_nil)) (ia_cons (ie_op (oi_pow) ie_int ie_int) (ia_cons (ie_fnF (by exact ok__law_take F hcf hD) (by rfl) (by exact hr.mono (by decide)) (by rfl) (by exact F.g "_law_take") kb__law_take_0 (by exact tk_cx) (ak_cons (ia_cons (ie_v 0) (ia_cons (ie_op (oi_pow) ie_int ie_int) ia_nil)) ik_nil)) ia_nil)))))) (ie_fnF (by exact ok__law_take F hcf hD) (by rfl) (by exact hr.mono (by decide)) (by rfl) (by exact F.g "_law_take") kb__law_take_0 (by exact tk_cx) (ak_cons (ia_cons (ie_v 0) (ia_cons ie_int ia_nil)) ik_nil))))
  (is_cons (is_st 10 nd__law_ruled (ie_idxB (by rfl) (by exact hu1 hr) (ie_lst (ia_cons ie_non (ia_cons ie_non (ia_cons ie_bl (ia_cons ie_bl ia_nil))))) (ie_fnF (by exact ok__law_take F hcf hD) (by rfl) (by exact hr.mono (by decide)) (by rfl) (by exact F.g "_law_take") kb__law_take_0 (by exact tk_cx) (ak_cons (ia_cons (ie_v 0) (ia_cons ie_int ia_nil)) ik_nil))))
  (is_one (is_ret (ie_tup (ia_cons (ie_v 1) (ia_cons (ie_v 2) (ia_cons (ie_v 3) (ia_cons (ie_v 5) (ia_cons (ie_v 6) (ia_cons (ie_v 7) (ia_cons (ie_v 8) (ia_cons (ie_v 9) (ia_cons (ie_v 10) ia_nil)))))))))))))))))))))
theorem kb__law_ruled_0 (fd : FuncData) (FD : FunD T.K d__law_ruled.name d__law_ruled.qual d__law_ruled.params d__law_ruled.body d__law_ruled.scope (d__law_ruled.dvs T.K) [] (He.fAd T.K d__law_ruled.at_) fd) : KBD T fd ["_law_box_here", "_law_name_here"] 2 [] [(0, 0), (0, 1)] [] :=
  kbd_n FD fun kV doc pm an cdv ct us ws h1 h2 => match us, ws, h1, h2 with | [_, _], [], _, _ => rfl
theorem nd__law_name : (["_law_box_here", "_law_letters", "_law_many", "_law_sign"] : List Str).Nodup := by decide +kernel
theorem sc__law_name : FnScope ["_law_box_here", "_law_letters", "_law_many", "_law_sign"] ["_law_box_here"] d__law_name.scope := ⟨rfl, rfl, rfl, nd__law_name, rfl, by decide +kernel, by decide +kernel⟩
theorem ok__law_name (F : Fx T mg lw) (hcf : T.cf = cf) (hD : DictsK T.K w (dcsL.map (·.1))) : OkF T P w mg base 3 d__law_name ["_law_box_here"] m__law_name := by
  obtain ⟨fd, FD⟩ := F.defs 5 d__law_name rfl
  refine OkF.mk' (N := ["_law_box_here", "_law_letters", "_law_many", "_law_sign"]) FD sc__law_name fun cdv A outer s H E hr => ?_
  show ISs T E _ (defBody (top 29)) b__law_name
  exact (is_cons (is_st 1 nd__law_name ie_str)
  (is_cons (is_st 2 nd__law_name (ie_idxB (by rfl) (by exact hu1 hr) (ie_lst (ia_cons ie_int (ia_cons ie_int (ia_cons (ie_op (oi_add (by rfl)) ie_int (ie_fnF (by exact ok__law_take F hcf hD) (by rfl) (by exact hr.mono (by decide)) (by rfl) (by exact F.g "_law_take") kb__law_take_0 (by exact tk_cx) (ak_cons (ia_cons (ie_v 0) (ia_cons ie_int ia_nil)) ik_nil))) ia_nil)))) (ie_fnF (by exact ok__law_take F hcf hD) (by rfl) (by exact hr.mono (by decide)) (by rfl) (by exact F.g "_law_take") kb__law_take_0 (by exact tk_cx) (ak_cons (ia_cons (ie_v 0) (ia_cons ie_int ia_nil)) ik_nil))))
  (is_one (is_ret (ie_join (by rfl) ie_str (ie_lc (own := [("_law_sign", 3)]) (by rfl) nd__law_name (ii_r1 (by rfl) (by exact F.f "range") (ia_cons (ie_v 2) ia_nil)) (blk_by (by kernel_rfl)) (fun _ _ _ _ _ => (ig_n 3 nd__law_name)) (fun _ _ _ _ _ => its_nil) (fun _ _ _ _ _ => (ie_idxB (by rfl) (by exact hu1 hr) (ie_v 1) (ie_fnF (by exact ok__law_take F hcf hD) (by rfl) (by exact hr.mono (by decide)) (by rfl) (by exact F.g "_law_take") kb__law_take_0 (by exact tk_no) (ak_cons (ia_cons (ie_v 0) (ia_cons ie_int ia_nil)) ik_nil))))))))))
theorem kb__law_name_0 (fd : FuncData) (FD : FunD T.K d__law_name.name d__law_name.qual d__law_name.params d__law_name.body d__law_name.scope (d__law_name.dvs T.K) [] (He.fAd T.K d__law_name.at_) fd) : KBD T fd ["_law_box_here"] 1 [] [(0, 0)] [] :=
  kbd_n FD fun kV doc pm an cdv ct us ws h1 h2 => match us, ws, h1, h2 with | [_], [], _, _ => rfl
theorem nd_is_name : (["thing", "sign"] : List Str).Nodup := by decide +kernel
theorem sc_is_name : FnScope ["thing", "sign"] ["thing"] d_is_name.scope := ⟨rfl, rfl, rfl, nd_is_name, rfl, by decide +kernel, by decide +kernel⟩
theorem ok_is_name (F : Fx T mg lw) (hcf : T.cf = cf) (hD : DictsK T.K w (dcsL.map (·.1))) : OkF T P w mg base 1 d_is_name ["thing"] m_is_name := by
  obtain ⟨fd, FD⟩ := F.defs 6 d_is_name rfl
  refine OkF.mk' (N := ["thing", "sign"]) FD sc_is_name fun cdv A outer s H E hr => ?_
  show ISs T E _ (defBody (top 17)) b_is_name
  exact (is_cons (is_if (iw_pt (iw_or (ib_not (ib_val (ie_isi (tys := tysL) (Tt := .b "str") (by rfl) (by rfl) (by exact F.f "isinstance") (ie_v 0) (isTy_b (by rfl) (by exact F.f "str") (by decide +kernel)) (by exact F.is' tysL) (by exact F.ki tysL (.b "str"))))) (iw_or1 (ib_not (ib_chain (oi_le) (oi_le) ie_int (ie_b (by exact call_len) bo_lenA (by rfl) (by exact F.f "len") (by decide +kernel) (ia_cons (ie_v 0) ia_nil)) (ie_gint (by rfl) (by exact F.i "MOST_LETTERS" 8))))))) (is_one (is_ret ie_bl)) is_nil)
  (is_one (is_ret (ie_b (by exact cr_all rfl) bo_all (by rfl) (by exact F.f "all") (by decide +kernel) (ia_cons (ie_lc (own := [("sign", 1)]) (by rfl) nd_is_name (ii_any (by rfl) (ie_v 0)) (blk_by (by kernel_rfl)) (fun _ _ _ _ _ => (ig_n 1 nd_is_name)) (fun _ _ _ _ _ => its_nil) (fun _ _ _ _ _ => (ie_cmp (oi_inS) (ie_v 1) (ie_gstr (by rfl) (by exact F.s "LETTERS" "abcdefghijklmnopqrstuvwxyz")) (by rfl)))) ia_nil)))))
theorem kb_is_name_0 (fd : FuncData) (FD : FunD T.K d_is_name.name d_is_name.qual d_is_name.params d_is_name.body d_is_name.scope (d_is_name.dvs T.K) [] (He.fAd T.K d_is_name.at_) fd) : KBD T fd ["thing"] 1 [] [(0, 0)] [] :=
  kbd_n FD fun kV doc pm an cdv ct us ws h1 h2 => match us, ws, h1, h2 with | [_], [], _, _ => rfl
theorem nd_is_deed : (["thing"] : List Str).Nodup := by decide +kernel
theorem sc_is_deed : FnScope ["thing"] ["thing"] d_is_deed.scope := ⟨rfl, rfl, rfl, nd_is_deed, rfl, by decide +kernel, by decide +kernel⟩
theorem ok_is_deed (F : Fx T mg lw) (hcf : T.cf = cf) (hD : DictsK T.K w (dcsL.map (·.1))) : OkF T P w mg base 1 d_is_deed ["thing"] m_is_deed := by
  obtain ⟨fd, FD⟩ := F.defs 7 d_is_deed rfl
  refine OkF.mk' (N := ["thing"]) FD sc_is_deed fun cdv A outer s H E hr => ?_
  show ISs T E _ (defBody (top 18)) b_is_deed
  exact (is_one (is_ret (ie_and (ie_isi (tys := tysL) (Tt := .b "str") (by rfl) (by rfl) (by exact F.f "isinstance") (ie_v 0) (isTy_b (by rfl) (by exact F.f "str") (by decide +kernel)) (by exact F.is' tysL) (by exact F.ki tysL (.b "str"))) (ie_one (ie_cmp (oi_inK (x := "BOUNDS") (kvs := kv_BOUNDS) (by rfl) (by exact hD "BOUNDS" (by decide)) (by exact F.b 0)) (ie_v 0) (ie_gfn (x := "BOUNDS") (by rfl) (by exact F.g "BOUNDS")) (by rfl))))))
theorem kb_is_deed_0 (fd : FuncData) (FD : FunD T.K d_is_deed.name d_is_deed.qual d_is_deed.params d_is_deed.body d_is_deed.scope (d_is_deed.dvs T.K) [] (He.fAd T.K d_is_deed.at_) fd) : KBD T fd ["thing"] 1 [] [(0, 0)] [] :=
  kbd_n FD fun kV doc pm an cdv ct us ws h1 h2 => match us, ws, h1, h2 with | [_], [], _, _ => rfl
theorem nd_is_whole : (["thing", "low", "high"] : List Str).Nodup := by decide +kernel
theorem sc_is_whole : FnScope ["thing", "low", "high"] ["thing", "low", "high"] d_is_whole.scope := ⟨rfl, rfl, rfl, nd_is_whole, rfl, by decide +kernel, by decide +kernel⟩
theorem ok_is_whole (F : Fx T mg lw) (hcf : T.cf = cf) (hD : DictsK T.K w (dcsL.map (·.1))) : OkF T P w mg base 1 d_is_whole ["thing", "low", "high"] m_is_whole := by
  obtain ⟨fd, FD⟩ := F.defs 8 d_is_whole rfl
  refine OkF.mk' (N := ["thing", "low", "high"]) FD sc_is_whole fun cdv A outer s H E hr => ?_
  show ISs T E _ (defBody (top 8)) b_is_whole
  exact (is_one (is_ret (ie_and (ie_isi (tys := tysL) (Tt := .b "int") (by rfl) (by rfl) (by exact F.f "isinstance") (ie_v 0) (isTy_b (by rfl) (by exact F.f "int") (by decide +kernel)) (by exact F.is' tysL) (by exact F.ki tysL (.b "int"))) (ie_and (ie_not (ie_isi (tys := tysL) (Tt := .b "bool") (by rfl) (by rfl) (by exact F.f "isinstance") (ie_v 0) (isTy_b (by rfl) (by exact F.f "bool") (by decide +kernel)) (by exact F.is' tysL) (by exact F.ki tysL (.b "bool")))) (ie_one (ie_chain (oi_le) (oi_le) (ie_v 1) (ie_v 0) (ie_v 2)))))))
theorem kb_is_whole_0 (fd : FuncData) (FD : FunD T.K d_is_whole.name d_is_whole.qual d_is_whole.params d_is_whole.body d_is_whole.scope (d_is_whole.dvs T.K) [] (He.fAd T.K d_is_whole.at_) fd) : KBD T fd ["thing", "low", "high"] 3 [] [(0, 0), (0, 1), (0, 2)] [] :=
  kbd_n FD fun kV doc pm an cdv ct us ws h1 h2 => match us, ws, h1, h2 with | [_, _, _], [], _, _ => rfl
theorem nd_is_kind : (["thing"] : List Str).Nodup := by decide +kernel
theorem sc_is_kind : FnScope ["thing"] ["thing"] d_is_kind.scope := ⟨rfl, rfl, rfl, nd_is_kind, rfl, by decide +kernel, by decide +kernel⟩
theorem ok_is_kind (F : Fx T mg lw) (hcf : T.cf = cf) (hD : DictsK T.K w (dcsL.map (·.1))) : OkF T P w mg base 1 d_is_kind ["thing"] m_is_kind := by
  obtain ⟨fd, FD⟩ := F.defs 9 d_is_kind rfl
  refine OkF.mk' (N := ["thing"]) FD sc_is_kind fun cdv A outer s H E hr => ?_
  show ISs T E _ (defBody (top 9)) b_is_kind
  exact (is_one (is_ret (ie_and (ie_isi (tys := tysL) (Tt := .b "str") (by rfl) (by rfl) (by exact F.f "isinstance") (ie_v 0) (isTy_b (by rfl) (by exact F.f "str") (by decide +kernel)) (by exact F.is' tysL) (by exact F.ki tysL (.b "str"))) (ie_one (ie_cmp (oi_in (by rfl) (by exact hr.rm.units)) (ie_v 0) (ie_gtup (l := [.str "bed", .str "fee", .str "meal", .str "ride", .str "sundry"]) (by rfl) (by exact F.g "KINDS") (by exact F.tp 0) rfl) (by rfl))))))
theorem kb_is_kind_0 (fd : FuncData) (FD : FunD T.K d_is_kind.name d_is_kind.qual d_is_kind.params d_is_kind.body d_is_kind.scope (d_is_kind.dvs T.K) [] (He.fAd T.K d_is_kind.at_) fd) : KBD T fd ["thing"] 1 [] [(0, 0)] [] :=
  kbd_n FD fun kV doc pm an cdv ct us ws h1 h2 => match us, ws, h1, h2 with | [_], [], _, _ => rfl
theorem nd_wrong_part : (["name", "deed", "bound", "kind", "town", "first", "last", "over", "paper", "looks", "wrong", "part", "right"] : List Str).Nodup := by decide +kernel
theorem sc_wrong_part : FnScope ["name", "deed", "bound", "kind", "town", "first", "last", "over", "paper", "looks", "wrong", "part", "right"] ["name", "deed", "bound", "kind", "town", "first", "last", "over", "paper"] d_wrong_part.scope := ⟨rfl, rfl, rfl, nd_wrong_part, rfl, by decide +kernel, by decide +kernel⟩
theorem ok_wrong_part (F : Fx T mg lw) (hcf : T.cf = cf) (hD : DictsK T.K w (dcsL.map (·.1))) : OkF T P w mg base 2 d_wrong_part ["name", "deed", "bound", "kind", "town", "first", "last", "over", "paper"] m_wrong_part := by
  obtain ⟨fd, FD⟩ := F.defs 10 d_wrong_part rfl
  refine OkF.mk' (N := ["name", "deed", "bound", "kind", "town", "first", "last", "over", "paper", "looks", "wrong", "part", "right"]) FD sc_wrong_part fun cdv A outer s H E hr => ?_
  show ISs T E _ (defBody (top 21)) b_wrong_part
  exact (is_cons (is_st 9 nd_wrong_part (ie_lstM (ia_cons (ie_tup (ia_cons ie_str (ia_cons (ie_fnF (by exact ok_is_name F hcf hD) (by rfl) (by exact hr.mono (by decide)) (by rfl) (by exact F.g "is_name") kb_is_name_0 (by exact tk_cx) (ak_cons (ia_cons (ie_v 0) ia_nil) ik_nil)) ia_nil))) (ia_cons (ie_tup (ia_cons ie_str (ia_cons (ie_fnF (by exact ok_is_deed F hcf hD) (by rfl) (by exact hr.mono (by decide)) (by rfl) (by exact F.g "is_deed") kb_is_deed_0 (by exact tk_cx) (ak_cons (ia_cons (ie_v 1) ia_nil) ik_nil)) ia_nil))) ia_nil))))
  (is_cons (is_expr (ie_app (by rfl) (ie_v 9) (ie_tup (ia_cons ie_str (ia_cons (ie_and (ie_fnF (by exact ok_is_deed F hcf hD) (by rfl) (by exact hr.mono (by decide)) (by rfl) (by exact F.g "is_deed") kb_is_deed_0 (by exact tk_cx) (ak_cons (ia_cons (ie_v 1) ia_nil) ik_nil)) (ie_one (ie_fnF (by exact ok_is_whole F hcf hD) (by rfl) (by exact hr.mono (by decide)) (by rfl) (by exact F.g "is_whole") kb_is_whole_0 (by exact tk_cx) (ak_cons (ia_cons (ie_v 2) (ia_cons ie_int (ia_cons (ie_itK (x := "BOUNDS") (kvs := kv_BOUNDS) (by rfl) (by exact hD "BOUNDS" (by decide)) (by exact F.b 0) (by decide) (ie_gfn (x := "BOUNDS") (by rfl) (by exact F.g "BOUNDS")) (ie_v 1)) ia_nil))) ik_nil)))) ia_nil)))))
  (is_cons (is_st 9 nd_wrong_part (ie_addM (ie_v 9) (ie_lst (ia_cons (ie_tup (ia_cons ie_str (ia_cons (ie_or (ie_cmp (oi_is) (ie_v 3) ie_non (by rfl)) (ie_one (ie_fnF (by exact ok_is_kind F hcf hD) (by rfl) (by exact hr.mono (by decide)) (by rfl) (by exact F.g "is_kind") kb_is_kind_0 (by exact tk_cx) (ak_cons (ia_cons (ie_v 3) ia_nil) ik_nil)))) ia_nil))) (ia_cons (ie_tup (ia_cons ie_str (ia_cons (ie_or (ie_cmp (oi_is) (ie_v 4) ie_non (by rfl)) (ie_one (ie_fnF (by exact ok_is_whole F hcf hD) (by rfl) (by exact hr.mono (by decide)) (by rfl) (by exact F.g "is_whole") kb_is_whole_0 (by exact tk_cx) (ak_cons (ia_cons (ie_v 4) (ia_cons ie_int (ia_cons (ie_gint (by rfl) (by exact F.i "LAST_TOWN" 3)) ia_nil))) ik_nil)))) ia_nil))) ia_nil)))))
  (is_cons (is_expr (ie_app (by rfl) (ie_v 9) (ie_tup (ia_cons ie_str (ia_cons (ie_fnF (by exact ok_is_whole F hcf hD) (by rfl) (by exact hr.mono (by decide)) (by rfl) (by exact F.g "is_whole") kb_is_whole_0 (by exact tk_cx) (ak_cons (ia_cons (ie_v 5) (ia_cons ie_int (ia_cons (ie_gint (by rfl) (by exact F.i "LAST_DAY" 59)) ia_nil))) ik_nil)) ia_nil)))))
  (is_cons (is_expr (ie_app (by rfl) (ie_v 9) (ie_tup (ia_cons ie_str (ia_cons (ie_and (ie_fnF (by exact ok_is_whole F hcf hD) (by rfl) (by exact hr.mono (by decide)) (by rfl) (by exact F.g "is_whole") kb_is_whole_0 (by exact tk_cx) (ak_cons (ia_cons (ie_v 5) (ia_cons ie_int (ia_cons (ie_gint (by rfl) (by exact F.i "LAST_DAY" 59)) ia_nil))) ik_nil)) (ie_one (ie_fnF (by exact ok_is_whole F hcf hD) (by rfl) (by exact hr.mono (by decide)) (by rfl) (by exact F.g "is_whole") kb_is_whole_0 (by exact tk_cx) (ak_cons (ia_cons (ie_v 6) (ia_cons (ie_v 5) (ia_cons (ie_gint (by rfl) (by exact F.i "LAST_DAY" 59)) ia_nil))) ik_nil)))) ia_nil)))))
  (is_cons (is_st 9 nd_wrong_part (ie_addM (ie_v 9) (ie_lst (ia_cons (ie_tup (ia_cons ie_str (ia_cons (ie_fnF (by exact ok_is_whole F hcf hD) (by rfl) (by exact hr.mono (by decide)) (by rfl) (by exact F.g "is_whole") kb_is_whole_0 (by exact tk_cx) (ak_cons (ia_cons (ie_v 7) (ia_cons ie_int (ia_cons (ie_gint (by rfl) (by exact F.i "MOST_SHARE" 1000000000000)) ia_nil))) ik_nil)) ia_nil))) (ia_cons (ie_tup (ia_cons ie_str (ia_cons (ie_or (ie_cmp (oi_is) (ie_v 8) ie_non (by rfl)) (ie_one (ie_isi (tys := tysL) (Tt := .b "bool") (by rfl) (by rfl) (by exact F.f "isinstance") (ie_v 8) (isTy_b (by rfl) (by exact F.f "bool") (by decide +kernel)) (by exact F.is' tysL) (by exact F.ki tysL (.b "bool"))))) ia_nil))) ia_nil)))))
  (is_cons (by first | exact (is_setLc (own := [("part", 11), ("right", 12)]) (by rfl) nd_wrong_part (by rfl) (by rfl) (by rfl) (ii_any (by rfl) (ie_frzL (ie_v 9))) (blk_by (by kernel_rfl)) (fun _ _ _ _ _ => (ig_tup (by rfl) (igs_cons (ig_n 11 nd_wrong_part) (igs_cons (ig_n 12 nd_wrong_part) igs_nil)) (len_cons (len_cons len_nil)))) (fun _ _ _ _ _ => (its_one (ib_not (ib_of (by rfl) (ie_v 12))))) (fun _ _ _ _ _ => (ie_v 11))) | exact (is_st 10 nd_wrong_part (ie_lc (own := [("part", 11), ("right", 12)]) (by rfl) nd_wrong_part (ii_any (by rfl) (ie_frzL (ie_v 9))) (blk_by (by kernel_rfl)) (fun _ _ _ _ _ => (ig_tup (by rfl) (igs_cons (ig_n 11 nd_wrong_part) (igs_cons (ig_n 12 nd_wrong_part) igs_nil)) (len_cons (len_cons len_nil)))) (fun _ _ _ _ _ => (its_one (ib_not (ib_of (by rfl) (ie_v 12))))) (fun _ _ _ _ _ => (ie_v 11)))))
  (is_one (is_ret (ie_if (ib_cmp (oi_neP (by rfl) (by exact hr.rm.units)) (ie_v 10) (ie_lst ia_nil) (by rfl)) (ie_idxB (by rfl) (by exact hu1 hr) (ie_v 10) ie_int) ie_non))))))))))
theorem kb_wrong_part_0 (fd : FuncData) (FD : FunD T.K d_wrong_part.name d_wrong_part.qual d_wrong_part.params d_wrong_part.body d_wrong_part.scope (d_wrong_part.dvs T.K) [] (He.fAd T.K d_wrong_part.at_) fd) : KBD T fd ["name", "deed", "bound", "kind", "town", "first", "last", "over", "paper"] 9 [] [(0, 0), (0, 1), (0, 2), (0, 3), (0, 4), (0, 5), (0, 6), (0, 7), (0, 8)] [] :=
  kbd_n FD fun kV doc pm an cdv ct us ws h1 h2 => match us, ws, h1, h2 with | [_, _, _, _, _, _, _, _, _], [], _, _ => rfl
theorem nd_Rule_init : (["self", "name", "deed", "bound", "kind", "town", "first", "last", "over", "paper", "wrong"] : List Str).Nodup := by decide +kernel
theorem sc_Rule_init : FnScope ["self", "name", "deed", "bound", "kind", "town", "first", "last", "over", "paper", "wrong"] ["self", "name", "deed", "bound", "kind", "town", "first", "last", "over", "paper"] d_Rule_init.scope := ⟨rfl, rfl, rfl, nd_Rule_init, rfl, by decide +kernel, by decide +kernel⟩
theorem ok_Rule_init (F : Fx T mg lw) (hcf : T.cf = cf) (hD : DictsK T.K w (dcsL.map (·.1))) : OkF T P w mg base 3 d_Rule_init ["self", "name", "deed", "bound", "kind", "town", "first", "last", "over", "paper"] m_Rule_init := by
  obtain ⟨fd, FD⟩ := F.defs 11 d_Rule_init rfl
  refine OkF.mk' (N := ["self", "name", "deed", "bound", "kind", "town", "first", "last", "over", "paper", "wrong"]) FD sc_Rule_init fun cdv A outer s H E hr => ?_
  show ISs T E _ (defBody (meth 22 0)) b_Rule_init
  exact (is_cons (is_st 10 nd_Rule_init (ie_fnF (by exact ok_wrong_part F hcf hD) (by rfl) (by exact hr.mono (by decide)) (by rfl) (by exact F.g "wrong_part") kb_wrong_part_0 (by exact tk_cx) (ak_cons (ia_cons (ie_v 1) (ia_cons (ie_v 2) (ia_cons (ie_v 3) (ia_cons (ie_v 4) (ia_cons (ie_v 5) (ia_cons (ie_v 6) (ia_cons (ie_v 7) (ia_cons (ie_v 8) (ia_cons (ie_v 9) ia_nil))))))))) ik_nil)))
  (is_cons (is_if (ib_cmp (oi_isnot) (ie_v 10) ie_non (by rfl)) (is_one is_bad) is_nil)
  (is_cons (is_setattr (by rfl) (by exact F.at' ["Rule"] "name") (ie_v 0) (ie_v 1))
  (is_cons (is_setattr (by rfl) (by exact F.at' ["Rule"] "deed") (ie_v 0) (ie_v 2))
  (is_cons (is_setattr (by rfl) (by exact F.at' ["Rule"] "bound") (ie_v 0) (ie_v 3))
  (is_cons (is_setattr (by rfl) (by exact F.at' ["Rule"] "kind") (ie_v 0) (ie_v 4))
  (is_cons (is_setattr (by rfl) (by exact F.at' ["Rule"] "town") (ie_v 0) (ie_v 5))
  (is_cons (is_setattr (by rfl) (by exact F.at' ["Rule"] "first") (ie_v 0) (ie_v 6))
  (is_cons (is_setattr (by rfl) (by exact F.at' ["Rule"] "last") (ie_v 0) (ie_v 7))
  (is_cons (is_setattr (by rfl) (by exact F.at' ["Rule"] "over") (ie_v 0) (ie_v 8))
  (is_one (is_setattr (by rfl) (by exact F.at' ["Rule"] "paper") (ie_v 0) (ie_v 9)))))))))))))
theorem kb_Rule_init_0 (fd : FuncData) (FD : FunD T.K d_Rule_init.name d_Rule_init.qual d_Rule_init.params d_Rule_init.body d_Rule_init.scope (d_Rule_init.dvs T.K) [] (He.fAd T.K d_Rule_init.at_) fd) : KBD T fd ["self", "name", "deed", "bound", "kind", "town", "first", "last", "over", "paper"] 2 ["deed", "bound", "kind", "town", "first", "last", "over", "paper"] [(0, 0), (0, 1), (2, 0), (2, 1), (2, 2), (2, 3), (2, 4), (2, 5), (2, 6), (2, 7)] [.str "let", .int 0, .non, .non, .int 0, .int 59, .int 0, .non] :=
  kbd_d (l := [.str "let", .int 0, .non, .non, .int 0, .int 59, .int 0, .non]) FD rfl (by decide) fun Ta kV doc pm an cdv ct us its ws h1 h2 h3 => match us, its, ws, h1, h2, h3 with | [_, _], [_, _, _, _, _, _, _, _], [_, _, _, _, _, _, _, _], _, _, _ => ⟨_, rfl, rfl⟩
theorem nd__law_made : (["_law_row"] : List Str).Nodup := by decide +kernel
theorem sc__law_made : FnScope ["_law_row"] ["_law_row"] d__law_made.scope := ⟨rfl, rfl, rfl, nd__law_made, rfl, by decide +kernel, by decide +kernel⟩
theorem ok__law_made (F : Fx T mg lw) (hcf : T.cf = cf) (hD : DictsK T.K w (dcsL.map (·.1))) : OkF T P w mg base 5 d__law_made ["_law_row"] m__law_made := by
  obtain ⟨fd, FD⟩ := F.defs 12 d__law_made rfl
  refine OkF.mk' (N := ["_law_row"]) FD sc__law_made fun cdv A outer s H E hr => ?_
  show ISs T E _ (defBody (top 30)) b__law_made
  exact (is_one (is_ret (ie_frz (by exact hcf) (ie_newF (cn := "Rule") (by exact ok_Rule_init F hcf hD) (by exact F.mk' "Rule") (by rfl) (by exact hr.mono (by decide)) (by rfl) (by exact F.g "Rule") kb_Rule_init_0 (by exact tk_cx) (ak_cons (ia_cons (ie_idxB (by rfl) (by exact hu1 hr) (ie_v 0) ie_int) ia_nil) (ik_cons (ie_idxB (by rfl) (by exact hu1 hr) (ie_v 0) ie_int) (ik_cons (ie_idxB (by rfl) (by exact hu1 hr) (ie_v 0) ie_int) (ik_cons (ie_idxB (by rfl) (by exact hu1 hr) (ie_v 0) ie_int) (ik_cons (ie_idxB (by rfl) (by exact hu1 hr) (ie_v 0) ie_int) (ik_cons (ie_idxB (by rfl) (by exact hu1 hr) (ie_v 0) ie_int) (ik_cons (ie_idxB (by rfl) (by exact hu1 hr) (ie_v 0) ie_int) (ik_cons (ie_idxB (by rfl) (by exact hu1 hr) (ie_v 0) ie_int) (ik_cons (ie_idxB (by rfl) (by exact hu1 hr) (ie_v 0) ie_int) ik_nil))))))))) rfl))))
theorem kb__law_made_0 (fd : FuncData) (FD : FunD T.K d__law_made.name d__law_made.qual d__law_made.params d__law_made.body d__law_made.scope (d__law_made.dvs T.K) [] (He.fAd T.K d__law_made.at_) fd) : KBD T fd ["_law_row"] 1 [] [(0, 0)] [] :=
  kbd_n FD fun kV doc pm an cdv ct us ws h1 h2 => match us, ws, h1, h2 with | [_], [], _, _ => rfl
theorem nd_Rule_all_parts : (["self", "about"] : List Str).Nodup := by decide +kernel
theorem sc_Rule_all_parts : FnScope ["self", "about"] ["self"] d_Rule_all_parts.scope := ⟨rfl, rfl, rfl, nd_Rule_all_parts, rfl, by decide +kernel, by decide +kernel⟩
theorem ok_Rule_all_parts (F : Fx T mg lw) (hcf : T.cf = cf) (hD : DictsK T.K w (dcsL.map (·.1))) : OkF T P w mg base 1 d_Rule_all_parts ["self"] m_Rule_all_parts := by
  obtain ⟨fd, FD⟩ := F.defs 13 d_Rule_all_parts rfl
  refine OkF.mk' (N := ["self", "about"]) FD sc_Rule_all_parts fun cdv A outer s H E hr => ?_
  show ISs T E _ (defBody (meth 22 1)) b_Rule_all_parts
  exact (is_cons (is_st 1 nd_Rule_all_parts (ie_tup (ia_cons (ie_attr (by exact hcf) (by rfl) (by exact F.at' ["Rule"] "kind") (ie_v 0)) (ia_cons (ie_attr (by exact hcf) (by rfl) (by exact F.at' ["Rule"] "town") (ie_v 0)) (ia_cons (ie_attr (by exact hcf) (by rfl) (by exact F.at' ["Rule"] "first") (ie_v 0)) (ia_cons (ie_attr (by exact hcf) (by rfl) (by exact F.at' ["Rule"] "last") (ie_v 0)) (ia_cons (ie_attr (by exact hcf) (by rfl) (by exact F.at' ["Rule"] "over") (ie_v 0)) (ia_cons (ie_attr (by exact hcf) (by rfl) (by exact F.at' ["Rule"] "paper") (ie_v 0)) ia_nil))))))))
  (is_one (is_ret (ie_op (oi_add (by rfl)) (ie_tup (ia_cons (ie_attr (by exact hcf) (by rfl) (by exact F.at' ["Rule"] "name") (ie_v 0)) (ia_cons (ie_attr (by exact hcf) (by rfl) (by exact F.at' ["Rule"] "deed") (ie_v 0)) (ia_cons (ie_attr (by exact hcf) (by rfl) (by exact F.at' ["Rule"] "bound") (ie_v 0)) ia_nil)))) (ie_v 1)))))
theorem kb_Rule_all_parts_0 (fd : FuncData) (FD : FunD T.K d_Rule_all_parts.name d_Rule_all_parts.qual d_Rule_all_parts.params d_Rule_all_parts.body d_Rule_all_parts.scope (d_Rule_all_parts.dvs T.K) [] (He.fAd T.K d_Rule_all_parts.at_) fd) : KBD T fd ["self"] 1 [] [(0, 0)] [] :=
  kbd_n FD fun kV doc pm an cdv ct us ws h1 h2 => match us, ws, h1, h2 with | [_], [], _, _ => rfl
theorem nd_Rule_eq : (["self", "other"] : List Str).Nodup := by decide +kernel
theorem sc_Rule_eq : FnScope ["self", "other"] ["self", "other"] d_Rule_eq.scope := ⟨rfl, rfl, rfl, nd_Rule_eq, rfl, by decide +kernel, by decide +kernel⟩
theorem at_Rule_eq : d_Rule_eq.at_ = (("Rule" : PySem.Str), some ("__eq__" : PySem.Str)) := rfl
theorem bi_Rule_eq (fd : FuncData) (FD : FunD T.K d_Rule_eq.name d_Rule_eq.qual d_Rule_eq.params d_Rule_eq.body d_Rule_eq.scope (d_Rule_eq.dvs T.K) [] (He.fAd T.K d_Rule_eq.at_) fd) : L2.Binds T.K fd ["self", "other"] [] := FunD.bindsN FD fun _ _ _ _ _ _ us hl => match us, hl with | [_, _], _ => rfl
theorem ok_Rule_eq (F : Fx T mg lw) (hcf : T.cf = cf) (hD : DictsK T.K w (dcsL.map (·.1))) : OkF T P w mg base 2 d_Rule_eq ["self", "other"] m_Rule_eq := by
  obtain ⟨fd, FD⟩ := F.defs 14 d_Rule_eq rfl
  refine OkF.mk' (N := ["self", "other"]) FD sc_Rule_eq fun cdv A outer s H E hr => ?_
  show ISs T E _ (defBody (meth 22 2)) b_Rule_eq
  exact (is_one (is_ret (ie_and (ie_isi (tys := tysL) (Tt := .o "Rule") (by rfl) (by rfl) (by exact F.f "isinstance") (ie_v 1) (isTy_o (by rfl) (by exact F.g "Rule")) (by exact F.is' tysL) (by exact F.ki tysL (.o "Rule"))) (ie_one (ie_cmp (oi_eqP (by rfl) (by exact hr.rm.units)) (ie_methF (cn := "Rule") (mn := "all_parts") (n := 0) (by exact hcf) (by exact ok_Rule_all_parts F hcf hD) (by rfl) (by exact hr.mono (by decide)) (by exact F.c "Rule") (by exact F.m "Rule" "all_parts") kb_Rule_all_parts_0 (by exact tk_cx) (ie_v 0) (ak_nil ik_nil) rfl) (ie_methF (cn := "Rule") (mn := "all_parts") (n := 0) (by exact hcf) (by exact ok_Rule_all_parts F hcf hD) (by rfl) (by exact hr.mono (by decide)) (by exact F.c "Rule") (by exact F.m "Rule" "all_parts") kb_Rule_all_parts_0 (by exact tk_cx) (ie_v 1) (ak_nil ik_nil) rfl) (by rfl))))))
theorem mem_tab_0 {c : String} {m : Fn} (h : tab_0 c = some m) : c ∈ cls_0 := by
  unfold tab_0 at h
  split at h
  · rename_i hc; subst hc; decide
  cases h
theorem eqh_0 (F : Fx T mg lw) (hcf : T.cf = cf) (hD : DictsK T.K w (dcsL.map (·.1))) {X : Cx} (h1 : X.K = T.K) (h2 : X.prog = P) (h3 : X.w = w) (h4 : X.mg = mg) (h5 : X.base = base) : EqH T X tab_0 cls_0 2 where
  K := h1
  cl := fun c m h => by
    unfold tab_0 at h
    split at h
    · rename_i hc; subst hc; cases h
      exact ⟨⟨2, d_Rule_eq, by decide, by rw [h2, h3, h4, h5]; exact ok_Rule_eq F hcf hD, by rw [at_Rule_eq]; exact F.m "Rule" "__eq__", bi_Rule_eq⟩, of_decide_eq_true (F.b 1), of_decide_eq_true (F.b 2)⟩
    cases h
  inj := of_decide_eq_true (F.b 3)
  nf := fun c m h t ht => List.all_eq_true.mp (List.all_eq_true.mp (F.b 4) c (mem_tab_0 h)) t ht
  sub := fun c m h t ht => of_decide_eq_true (List.all_eq_true.mp (List.all_eq_true.mp (F.b 6) c (mem_tab_0 h)) t ht)
  nfo := fun c m h c2 hc => List.all_eq_true.mp (List.all_eq_true.mp (F.b 5) c (mem_tab_0 h)) c2 hc
theorem nd_option : (["name", "thing", "plain"] : List Str).Nodup := by decide +kernel
theorem sc_option : FnScope ["name", "thing", "plain"] ["name", "thing", "plain"] d_option.scope := ⟨rfl, rfl, rfl, nd_option, rfl, by decide +kernel, by decide +kernel⟩
theorem ok_option (F : Fx T mg lw) (hcf : T.cf = cf) (hD : DictsK T.K w (dcsL.map (·.1))) : OkF T P w mg base 1 d_option ["name", "thing", "plain"] m_option := by
  obtain ⟨fd, FD⟩ := F.defs 15 d_option rfl
  refine OkF.mk' (N := ["name", "thing", "plain"]) FD sc_option fun cdv A outer s H E hr => ?_
  show ISs T E _ (defBody (top 10)) b_option
  exact (is_one (is_ret (ie_if (ib_cmp (oi_eqP (by rfl) (by exact hr.rm.units)) (ie_v 1) (ie_v 2) (by rfl)) (ie_lst ia_nil) (ie_lst (ia_cons (ie_op (oi_add (by rfl)) (ie_op (oi_add (by rfl)) (ie_v 0) ie_str) (ie_b (by exact call_reprX rfl hr.gd hr.rm.units) bo_reprX (by rfl) (by exact F.f "repr") (by decide +kernel) (ia_cons (ie_v 1) ia_nil))) ia_nil)))))
theorem kb_option_0 (fd : FuncData) (FD : FunD T.K d_option.name d_option.qual d_option.params d_option.body d_option.scope (d_option.dvs T.K) [] (He.fAd T.K d_option.at_) fd) : KBD T fd ["name", "thing", "plain"] 3 [] [(0, 0), (0, 1), (0, 2)] [] :=
  kbd_n FD fun kV doc pm an cdv ct us ws h1 h2 => match us, ws, h1, h2 with | [_, _, _], [], _, _ => rfl
theorem nd_Rule_repr : (["self", "words", "inner"] : List Str).Nodup := by decide +kernel
theorem sc_Rule_repr : FnScope ["self", "words", "inner"] ["self"] d_Rule_repr.scope := ⟨rfl, rfl, rfl, nd_Rule_repr, rfl, by decide +kernel, by decide +kernel⟩
theorem at_Rule_repr : d_Rule_repr.at_ = (("Rule" : PySem.Str), some ("__repr__" : PySem.Str)) := rfl
theorem bi_Rule_repr (fd : FuncData) (FD : FunD T.K d_Rule_repr.name d_Rule_repr.qual d_Rule_repr.params d_Rule_repr.body d_Rule_repr.scope (d_Rule_repr.dvs T.K) [] (He.fAd T.K d_Rule_repr.at_) fd) : L2.Binds T.K fd ["self"] [] := FunD.bindsN FD fun _ _ _ _ _ _ us hl => match us, hl with | [_], _ => rfl
theorem ok_Rule_repr (F : Fx T mg lw) (hcf : T.cf = cf) (hD : DictsK T.K w (dcsL.map (·.1))) : OkF T P w mg base 2 d_Rule_repr ["self"] m_Rule_repr := by
  obtain ⟨fd, FD⟩ := F.defs 16 d_Rule_repr rfl
  refine OkF.mk' (N := ["self", "words", "inner"]) FD sc_Rule_repr fun cdv A outer s H E hr => ?_
  show ISs T E _ (defBody (meth 22 3)) b_Rule_repr
  exact (is_cons (is_st 1 nd_Rule_repr (ie_op (oi_add (by rfl)) (ie_op (oi_add (by rfl)) (ie_lst (ia_cons (ie_b (by exact call_reprX rfl hr.gd hr.rm.units) bo_reprX (by rfl) (by exact F.f "repr") (by decide +kernel) (ia_cons (ie_attr (by exact hcf) (by rfl) (by exact F.at' ["Rule"] "name") (ie_v 0)) ia_nil)) ia_nil)) (ie_fnF (by exact ok_option F hcf hD) (by rfl) (by exact hr.mono (by decide)) (by rfl) (by exact F.g "option") kb_option_0 (by exact tk_cx) (ak_cons (ia_cons ie_str (ia_cons (ie_attr (by exact hcf) (by rfl) (by exact F.at' ["Rule"] "deed") (ie_v 0)) (ia_cons ie_str ia_nil))) ik_nil))) (ie_fnF (by exact ok_option F hcf hD) (by rfl) (by exact hr.mono (by decide)) (by rfl) (by exact F.g "option") kb_option_0 (by exact tk_cx) (ak_cons (ia_cons ie_str (ia_cons (ie_attr (by exact hcf) (by rfl) (by exact F.at' ["Rule"] "bound") (ie_v 0)) (ia_cons ie_int ia_nil))) ik_nil))))
  (is_cons (is_st 1 nd_Rule_repr (ie_op (oi_add (by rfl)) (ie_op (oi_add (by rfl)) (ie_v 1) (ie_fnF (by exact ok_option F hcf hD) (by rfl) (by exact hr.mono (by decide)) (by rfl) (by exact F.g "option") kb_option_0 (by exact tk_cx) (ak_cons (ia_cons ie_str (ia_cons (ie_attr (by exact hcf) (by rfl) (by exact F.at' ["Rule"] "kind") (ie_v 0)) (ia_cons ie_non ia_nil))) ik_nil))) (ie_fnF (by exact ok_option F hcf hD) (by rfl) (by exact hr.mono (by decide)) (by rfl) (by exact F.g "option") kb_option_0 (by exact tk_cx) (ak_cons (ia_cons ie_str (ia_cons (ie_attr (by exact hcf) (by rfl) (by exact F.at' ["Rule"] "town") (ie_v 0)) (ia_cons ie_non ia_nil))) ik_nil))))
  (is_cons (is_st 1 nd_Rule_repr (ie_op (oi_add (by rfl)) (ie_op (oi_add (by rfl)) (ie_v 1) (ie_fnF (by exact ok_option F hcf hD) (by rfl) (by exact hr.mono (by decide)) (by rfl) (by exact F.g "option") kb_option_0 (by exact tk_cx) (ak_cons (ia_cons ie_str (ia_cons (ie_attr (by exact hcf) (by rfl) (by exact F.at' ["Rule"] "first") (ie_v 0)) (ia_cons ie_int ia_nil))) ik_nil))) (ie_fnF (by exact ok_option F hcf hD) (by rfl) (by exact hr.mono (by decide)) (by rfl) (by exact F.g "option") kb_option_0 (by exact tk_cx) (ak_cons (ia_cons ie_str (ia_cons (ie_attr (by exact hcf) (by rfl) (by exact F.at' ["Rule"] "last") (ie_v 0)) (ia_cons (ie_gint (by rfl) (by exact F.i "LAST_DAY" 59)) ia_nil))) ik_nil))))
  (is_cons (is_st 1 nd_Rule_repr (ie_op (oi_add (by rfl)) (ie_op (oi_add (by rfl)) (ie_v 1) (ie_fnF (by exact ok_option F hcf hD) (by rfl) (by exact hr.mono (by decide)) (by rfl) (by exact F.g "option") kb_option_0 (by exact tk_cx) (ak_cons (ia_cons ie_str (ia_cons (ie_attr (by exact hcf) (by rfl) (by exact F.at' ["Rule"] "over") (ie_v 0)) (ia_cons ie_int ia_nil))) ik_nil))) (ie_fnF (by exact ok_option F hcf hD) (by rfl) (by exact hr.mono (by decide)) (by rfl) (by exact F.g "option") kb_option_0 (by exact tk_cx) (ak_cons (ia_cons ie_str (ia_cons (ie_attr (by exact hcf) (by rfl) (by exact F.at' ["Rule"] "paper") (ie_v 0)) (ia_cons ie_non ia_nil))) ik_nil))))
  (is_cons (is_st 2 nd_Rule_repr (ie_join (by rfl) ie_str (ie_v 1)))
  (is_one (is_ret (ie_js (.cons ie_str (.cons (ie_fmt (ie_v 2)) (.cons ie_str .nil)))))))))))
theorem nd__law_rule_shown : (["_law_row", "_law_text", "_law_names", "_law_name_here", "_law_thing", "_law_plain"] : List Str).Nodup := by decide +kernel
theorem sc__law_rule_shown : FnScope ["_law_row", "_law_text", "_law_names", "_law_name_here", "_law_thing", "_law_plain"] ["_law_row"] d__law_rule_shown.scope := ⟨rfl, rfl, rfl, nd__law_rule_shown, rfl, by decide +kernel, by decide +kernel⟩
theorem ok__law_rule_shown (F : Fx T mg lw) (hcf : T.cf = cf) (hD : DictsK T.K w (dcsL.map (·.1))) : OkF T P w mg base 1 d__law_rule_shown ["_law_row"] m__law_rule_shown := by
  obtain ⟨fd, FD⟩ := F.defs 17 d__law_rule_shown rfl
  refine OkF.mk' (N := ["_law_row", "_law_text", "_law_names", "_law_name_here", "_law_thing", "_law_plain"]) FD sc__law_rule_shown fun cdv A outer s H E hr => ?_
  show ISs T E _ (defBody (top 31)) b__law_rule_shown
  exact (is_cons (is_st 1 nd__law_rule_shown (ie_op (oi_add (by rfl)) ie_str (ie_b (by exact call_reprX rfl hr.gd hr.rm.units) bo_reprX (by rfl) (by exact F.f "repr") (by decide +kernel) (ia_cons (ie_idxB (by rfl) (by exact hu1 hr) (ie_v 0) ie_int) ia_nil))))
  (is_cons (is_st 2 nd__law_rule_shown (ie_lst (ia_cons ie_str (ia_cons ie_str (ia_cons ie_str (ia_cons ie_str (ia_cons ie_str (ia_cons ie_str (ia_cons ie_str (ia_cons ie_str ia_nil))))))))))
  (is_cons (is_for (vs := allN 6) (by exact passes_of rfl) (by rfl) (ii_zipM3 (by rfl) (by rfl) (by exact F.f "zip") (ia_cons (ie_v 2) (ia_cons (ie_cut (by rfl) (ie_v 0) (io_some ie_int) io_none) (ia_cons (ie_lst (ia_cons ie_str (ia_cons ie_int (ia_cons ie_non (ia_cons ie_non (ia_cons ie_int (ia_cons ie_int (ia_cons ie_int (ia_cons ie_non ia_nil))))))))) ia_nil)))) (ig_tup (by rfl) (igs_cons (ig_n 3 nd__law_rule_shown) (igs_cons (ig_n 4 nd__law_rule_shown) (igs_cons (ig_n 5 nd__law_rule_shown) igs_nil))) (len_cons (len_cons (len_cons len_nil)))) (is_one (is_if (iw_pt (iw_or (ib_cmp (oi_neP (by rfl) (by exact hr.rm.units)) (ie_v 4) (ie_v 5) (by rfl)) (iw_or1 (ib_cmp (oi_neP (by rfl) (by exact hr.rm.units)) (ie_isi (tys := tysL) (Tt := .b "bool") (by rfl) (by rfl) (by exact F.f "isinstance") (ie_v 4) (isTy_b (by rfl) (by exact F.f "bool") (by decide +kernel)) (by exact F.is' tysL) (by exact F.ki tysL (.b "bool"))) (ie_isi (tys := tysL) (Tt := .b "bool") (by rfl) (by rfl) (by exact F.f "isinstance") (ie_v 5) (isTy_b (by rfl) (by exact F.f "bool") (by decide +kernel)) (by exact F.is' tysL) (by exact F.ki tysL (.b "bool"))) (by rfl))))) (is_one (is_st 1 nd__law_rule_shown (ie_op (oi_add (by rfl)) (ie_op (oi_add (by rfl)) (ie_op (oi_add (by rfl)) (ie_op (oi_add (by rfl)) (ie_v 1) ie_str) (ie_v 3)) ie_str) (ie_b (by exact call_reprX rfl hr.gd hr.rm.units) bo_reprX (by rfl) (by exact F.f "repr") (by decide +kernel) (ia_cons (ie_v 4) ia_nil))))) is_nil)))
  (is_one (is_ret (ie_op (oi_add (by rfl)) (ie_v 1) ie_str))))))
theorem kb__law_rule_shown_0 (fd : FuncData) (FD : FunD T.K d__law_rule_shown.name d__law_rule_shown.qual d__law_rule_shown.params d__law_rule_shown.body d__law_rule_shown.scope (d__law_rule_shown.dvs T.K) [] (He.fAd T.K d__law_rule_shown.at_) fd) : KBD T fd ["_law_row"] 1 [] [(0, 0)] [] :=
  kbd_n FD fun kV doc pm an cdv ct us ws h1 h2 => match us, ws, h1, h2 with | [_], [], _, _ => rfl
theorem nd__law_others : (["_law_row", "_law_found", "_law_name_here", "_law_act", "_law_ending", "_law_sort", "_law_city", "_law_since", "_law_until", "_law_above", "_law_slip"] : List Str).Nodup := by decide +kernel
theorem sc__law_others : FnScope ["_law_row", "_law_found", "_law_name_here", "_law_act", "_law_ending", "_law_sort", "_law_city", "_law_since", "_law_until", "_law_above", "_law_slip"] ["_law_row"] d__law_others.scope := ⟨rfl, rfl, rfl, nd__law_others, rfl, by decide +kernel, by decide +kernel⟩
theorem ok__law_others (F : Fx T mg lw) (hcf : T.cf = cf) (hD : DictsK T.K w (dcsL.map (·.1))) : OkF T P w mg base 1 d__law_others ["_law_row"] m__law_others := by
  obtain ⟨fd, FD⟩ := F.defs 18 d__law_others rfl
  refine OkF.mk' (N := ["_law_row", "_law_found", "_law_name_here", "_law_act", "_law_ending", "_law_sort", "_law_city", "_law_since", "_law_until", "_law_above", "_law_slip"]) FD sc__law_others fun cdv A outer s H E hr => ?_
  show ISs T E _ (defBody (top 33)) b__law_others
  exact (is_cons (is_unp (vs := allN 11) (ie_cut (by rfl) (ie_v 0) io_none (io_some ie_int)) (ig_tup (by rfl) (igs_cons (ig_n 2 nd__law_others) (igs_cons (ig_n 3 nd__law_others) (igs_cons (ig_n 4 nd__law_others) igs_nil))) (len_cons (len_cons (len_cons len_nil)))))
  (is_cons (is_unp (vs := allN 11) (ie_cut (by rfl) (ie_v 0) (io_some ie_int) io_none) (ig_tup (by rfl) (igs_cons (ig_n 5 nd__law_others) (igs_cons (ig_n 6 nd__law_others) (igs_cons (ig_n 7 nd__law_others) (igs_cons (ig_n 8 nd__law_others) (igs_cons (ig_n 9 nd__law_others) (igs_cons (ig_n 10 nd__law_others) igs_nil)))))) (len_cons (len_cons (len_cons (len_cons (len_cons (len_cons len_nil))))))))
  (is_cons (is_st 1 nd__law_others (ie_lstM (ia_cons (ie_op (oi_add (by rfl)) (ie_tup (ia_cons (ie_op (oi_mulS) ie_str (ie_op (oi_sub) ie_int (ie_b (by exact call_len) bo_lenA (by rfl) (by exact F.f "len") (by decide +kernel) (ia_cons (ie_v 2) ia_nil)))) ia_nil)) (ie_cut (by rfl) (ie_v 0) (io_some ie_int) io_none)) (ia_cons (ie_op (oi_add (by rfl)) (ie_tup (ia_cons (ie_v 2) (ia_cons (ie_if (ib_cmp (oi_neP (by rfl) (by exact hr.rm.units)) (ie_v 3) ie_str (by rfl)) ie_str ie_str) (ia_cons ie_int ia_nil)))) (ie_cut (by rfl) (ie_v 0) (io_some ie_int) io_none)) ia_nil))))
  (is_cons (is_expr (ie_app (by rfl) (ie_v 1) (ie_op (oi_add (by rfl)) (ie_op (oi_add (by rfl)) (ie_cut (by rfl) (ie_v 0) io_none (io_some ie_int)) (ie_tup (ia_cons (ie_if (ib_cmp (oi_neP (by rfl) (by exact hr.rm.units)) (ie_v 5) ie_str (by rfl)) ie_str ie_non) ia_nil))) (ie_cut (by rfl) (ie_v 0) (io_some ie_int) io_none))))
  (is_cons (is_expr (ie_app (by rfl) (ie_v 1) (ie_op (oi_add (by rfl)) (ie_op (oi_add (by rfl)) (ie_cut (by rfl) (ie_v 0) io_none (io_some ie_int)) (ie_tup (ia_cons (ie_if (ib_cmp (oi_neP (by rfl) (by exact hr.rm.units)) (ie_v 6) ie_int (by rfl)) ie_int ie_non) ia_nil))) (ie_cut (by rfl) (ie_v 0) (io_some ie_int) io_none))))
  (is_cons (is_expr (ie_app (by rfl) (ie_v 1) (ie_op (oi_add (by rfl)) (ie_op (oi_add (by rfl)) (ie_cut (by rfl) (ie_v 0) io_none (io_some ie_int)) (ie_tup (ia_cons (ie_if (ib_cmp (oi_eqP (by rfl) (by exact hr.rm.units)) (ie_v 6) ie_int (by rfl)) ie_non ie_int) ia_nil))) (ie_cut (by rfl) (ie_v 0) (io_some ie_int) io_none))))
  (is_cons (is_expr (ie_app (by rfl) (ie_v 1) (ie_op (oi_add (by rfl)) (ie_cut (by rfl) (ie_v 0) io_none (io_some ie_int)) (ie_tup (ia_cons (ie_if (ib_cmp (oi_ltA (by rfl) (by exact hr.rm.units0)) (ie_v 9) (ie_op (oi_pow) ie_int ie_int) (by rfl)) (ie_op (oi_add (by rfl)) (ie_v 9) ie_int) ie_int) (ia_cons (ie_v 10) ia_nil))))))
  (is_cons (is_expr (ie_app (by rfl) (ie_v 1) (ie_op (oi_add (by rfl)) (ie_cut (by rfl) (ie_v 0) io_none (io_some ie_int)) (ie_tup (ia_cons (ie_if (ib_of (by rfl) (ie_v 10)) ie_non ie_bl) ia_nil)))))
  (is_cons (is_expr (ie_app (by rfl) (ie_v 1) (ie_op (oi_add (by rfl)) (ie_cut (by rfl) (ie_v 0) io_none (io_some ie_int)) (ie_tup (ia_cons (ie_if (ib_cmp (oi_isnotB) (ie_v 10) ie_bl (by rfl)) ie_bl ie_non) ia_nil)))))
  (is_cons (is_if (ib_cmp (oi_ltA (by rfl) (by exact hr.rm.units0)) (ie_v 7) (ie_v 8) (by rfl)) (is_one (is_st 1 nd__law_others (ie_addM (ie_v 1) (ie_lst (ia_cons (ie_op (oi_add (by rfl)) (ie_op (oi_add (by rfl)) (ie_cut (by rfl) (ie_v 0) io_none (io_some ie_int)) (ie_tup (ia_cons (ie_op (oi_add (by rfl)) (ie_v 7) ie_int) ia_nil))) (ie_cut (by rfl) (ie_v 0) (io_some ie_int) io_none)) (ia_cons (ie_op (oi_add (by rfl)) (ie_op (oi_add (by rfl)) (ie_cut (by rfl) (ie_v 0) io_none (io_some ie_int)) (ie_tup (ia_cons (ie_op (oi_sub) (ie_v 8) ie_int) ia_nil))) (ie_cut (by rfl) (ie_v 0) (io_some ie_int) io_none)) ia_nil)))))) is_nil)
  (is_cons (is_if (ib_cmp (oi_in (by rfl) (by exact hr.rm.units)) (ie_v 3) (ie_lst (ia_cons ie_str (ia_cons ie_str (ia_cons ie_str ia_nil)))) (by rfl)) (is_one (is_expr (ie_app (by rfl) (ie_v 1) (ie_op (oi_add (by rfl)) (ie_op (oi_add (by rfl)) (ie_cut (by rfl) (ie_v 0) io_none (io_some ie_int)) (ie_tup (ia_cons (ie_if (ib_cmp (oi_gt) (ie_v 4) ie_int (by rfl)) (ie_op (oi_sub) (ie_v 4) ie_int) ie_int) ia_nil))) (ie_cut (by rfl) (ie_v 0) (io_some ie_int) io_none))))) is_nil)
  (is_one (is_ret (ie_frzL (ie_v 1)))))))))))))))
theorem kb__law_others_0 (fd : FuncData) (FD : FunD T.K d__law_others.name d__law_others.qual d__law_others.params d__law_others.body d__law_others.scope (d__law_others.dvs T.K) [] (He.fAd T.K d__law_others.at_) fd) : KBD T fd ["_law_row"] 1 [] [(0, 0)] [] :=
  kbd_n FD fun kV doc pm an cdv ct us ws h1 h2 => match us, ws, h1, h2 with | [_], [], _, _ => rfl
theorem nd__law_odd : (["_law_box_here", "_law_some"] : List Str).Nodup := by decide +kernel
theorem sc__law_odd : FnScope ["_law_box_here", "_law_some"] ["_law_box_here"] d__law_odd.scope := ⟨rfl, rfl, rfl, nd__law_odd, rfl, by decide +kernel, by decide +kernel⟩
theorem ok__law_odd (F : Fx T mg lw) (hcf : T.cf = cf) (hD : DictsK T.K w (dcsL.map (·.1))) : OkF T P w mg base 3 d__law_odd ["_law_box_here"] m__law_odd := by
  obtain ⟨fd, FD⟩ := F.defs 19 d__law_odd rfl
  refine OkF.mk' (N := ["_law_box_here", "_law_some"]) FD sc__law_odd fun cdv A outer s H E hr => ?_
  show ISs T E _ (defBody (top 32)) b__law_odd
  exact (is_cons (is_st 1 nd__law_odd (ie_lst (ia_cons ie_non (ia_cons ie_bl (ia_cons ie_bl (ia_cons ie_int (ia_cons (ie_neg ie_int) (ia_cons ie_int (ia_cons ie_int (ia_cons (ie_op (oi_add (by rfl)) (ie_op (oi_pow) ie_int ie_int) ie_int) (ia_cons (ie_op (oi_pow) ie_int ie_int) (ia_cons ie_str (ia_cons ie_str (ia_cons ie_str (ia_cons ie_str (ia_cons (ie_tup ia_nil) (ia_cons (ie_lst ia_nil) (ia_cons ie_dct0 (ia_cons (ie_tup (ia_cons ie_int ia_nil)) (ia_cons (ie_lst (ia_cons ie_int ia_nil)) ia_nil))))))))))))))))))))
  (is_one (is_ret (ie_idxB (by rfl) (by exact hu1 hr) (ie_op (oi_add (by rfl)) (ie_v 1) (ie_lst (ia_cons (ie_tup (ia_cons ie_str ia_nil)) (ia_cons (ie_dctC (l := [(.inl 0, .int 1)]) (.cons (y := .inl 0) ce_int ce_int rfl .nil) (by simp) (by decide) (by decide)) ia_nil)))) (ie_fnF (by exact ok__law_take F hcf hD) (by rfl) (by exact hr.mono (by decide)) (by rfl) (by exact F.g "_law_take") kb__law_take_0 (by exact tk_cx) (ak_cons (ia_cons (ie_v 0) (ia_cons ie_int ia_nil)) ik_nil))))))
theorem kb__law_odd_0 (fd : FuncData) (FD : FunD T.K d__law_odd.name d__law_odd.qual d__law_odd.params d__law_odd.body d__law_odd.scope (d__law_odd.dvs T.K) [] (He.fAd T.K d__law_odd.at_) fd) : KBD T fd ["_law_box_here"] 1 [] [(0, 0)] [] :=
  kbd_n FD fun kV doc pm an cdv ct us ws h1 h2 => match us, ws, h1, h2 with | [_], [], _, _ => rfl
theorem nd_law : (["_law_script", "_law_k", "_law_box_here", "_law_turn", "_law_row", "_law_others_here", "_law_some", "_law_thing", "_law_one", "_law_other"] : List Str).Nodup := by decide +kernel
theorem sc_law : FnScope ["_law_script", "_law_k", "_law_box_here", "_law_turn", "_law_row", "_law_others_here", "_law_some", "_law_thing", "_law_one", "_law_other"] ["_law_script"] d_law.scope := ⟨rfl, rfl, rfl, nd_law, rfl, by decide +kernel, by decide +kernel⟩
theorem ok_law (F : Fx T mg lw) (hcf : T.cf = cf) (hD : DictsK T.K w (dcsL.map (·.1))) : OkF T P w mg base 12 d_law ["_law_script"] m_law := by
  obtain ⟨fd, FD⟩ := F.defs 20 d_law rfl
  refine OkF.mk' (N := ["_law_script", "_law_k", "_law_box_here", "_law_turn", "_law_row", "_law_others_here", "_law_some", "_law_thing", "_law_one", "_law_other"]) FD sc_law fun cdv A outer s H E hr => ?_
  show ISs T E _ (defBody (top 34)) b_law
  exact (is_cons (is_for (vs := allN 10) (by exact passes_of rfl) (by rfl) (ii_r1 (by rfl) (by exact F.f "range") (ia_cons (ie_b (by exact call_max2 rfl) bo_max2 (by rfl) (by exact F.f "max") (by decide +kernel) (ia_cons ie_int (ia_cons (ie_b (by exact call_min2 rfl) bo_min2 (by rfl) (by exact F.f "min") (by decide +kernel) (ia_cons (ie_b (by exact call_len) bo_lenA (by rfl) (by exact F.f "len") (by decide +kernel) (ia_cons (ie_v 0) ia_nil)) (ia_cons ie_int ia_nil))) ia_nil))) ia_nil)) (ig_n 1 nd_law) (is_cons (is_st 2 nd_law (ie_fnF (by exact ok__law_box F hcf hD) (by rfl) (by exact hr.mono (by decide)) (by rfl) (by exact F.g "_law_box") kb__law_box_0 (by exact tk_cx) (ak_cons (ia_cons (ie_v 0) (ia_cons (ie_v 1) ia_nil)) ik_nil)))
  (is_one (is_for (vs := allN 10) (by exact passes_of rfl) (by rfl) (ii_r1 (by rfl) (by exact F.f "range") (ia_cons ie_int ia_nil)) (ig_n 3 nd_law) (is_cons (is_st 4 nd_law (ie_fnF (by exact ok__law_ruled F hcf hD) (by rfl) (by exact hr.mono (by decide)) (by rfl) (by exact F.g "_law_ruled") kb__law_ruled_0 (by exact tk_cx) (ak_cons (ia_cons (ie_v 2) (ia_cons (ie_fnF (by exact ok__law_name F hcf hD) (by rfl) (by exact hr.mono (by decide)) (by rfl) (by exact F.g "_law_name") kb__law_name_0 (by exact tk_cx) (ak_cons (ia_cons (ie_v 2) ia_nil) ik_nil)) ia_nil)) ik_nil)))
  (is_cons (by first | exact (is_par2 8 9 nd_law (ia_cons (ie_fnF (by exact ok__law_made F hcf hD) (by rfl) (by exact hr.mono (by decide)) (by rfl) (by exact F.g "_law_made") kb__law_made_0 (by exact tk_cx) (ak_cons (ia_cons (ie_v 4) ia_nil) ik_nil)) (ia_cons (ie_fnF (by exact ok__law_made F hcf hD) (by rfl) (by exact hr.mono (by decide)) (by rfl) (by exact F.g "_law_made") kb__law_made_0 (by exact tk_cx) (ak_cons (ia_cons (ie_v 4) ia_nil) ik_nil)) ia_nil))) | exact (is_par2u (is_unp (vs := allN 10) (ie_tup (ia_cons (ie_fnF (by exact ok__law_made F hcf hD) (by rfl) (by exact hr.mono (by decide)) (by rfl) (by exact F.g "_law_made") kb__law_made_0 (by exact tk_cx) (ak_cons (ia_cons (ie_v 4) ia_nil) ik_nil)) (ia_cons (ie_fnF (by exact ok__law_made F hcf hD) (by rfl) (by exact hr.mono (by decide)) (by rfl) (by exact F.g "_law_made") kb__law_made_0 (by exact tk_cx) (ak_cons (ia_cons (ie_v 4) ia_nil) ik_nil)) ia_nil))) (ig_tup (by rfl) (igs_cons (ig_n 8 nd_law) (igs_cons (ig_n 9 nd_law) igs_nil)) (len_cons (len_cons len_nil))))))
  (is_cons (is_if (iw_pt (iw_or (ib_eqA (oi_neA (by exact eqh_0 F hcf hD (by rfl) (by rfl) (by rfl) (by rfl) (by rfl)) (by exact hr.mono (by decide))) (ie_v 8) (ie_v 9) (by rfl)) (iw_or (ib_not (ib_eqA (oi_eqA (by exact eqh_0 F hcf hD (by rfl) (by rfl) (by rfl) (by rfl) (by rfl)) (by exact hr.mono (by decide))) (ie_v 9) (ie_v 8) (by rfl))) (iw_or (ib_cmp (oi_neP (by rfl) (by exact hr.rm.units)) (ie_reprO (cn := "Rule") (by rfl) (by exact ok_Rule_repr F hcf hD) (by exact RG.in1 (hr.mono (by decide))) (by exact (RG.in1 (k := 0) (hr.mono (by decide))).rm.units0) (by rw [at_Rule_repr]; exact F.m "Rule" "__repr__") bi_Rule_repr (by rfl) (by exact F.f "repr") (ia_cons (ie_v 8) ia_nil)) (ie_fnF (by exact ok__law_rule_shown F hcf hD) (by rfl) (by exact hr.mono (by decide)) (by rfl) (by exact F.g "_law_rule_shown") kb__law_rule_shown_0 (by exact tk_cx) (ak_cons (ia_cons (ie_v 4) ia_nil) ik_nil)) (by rfl)) (iw_or1 (ib_cmp (oi_neP (by rfl) (by exact hr.rm.units)) (ie_reprO (cn := "Rule") (by rfl) (by exact ok_Rule_repr F hcf hD) (by exact RG.in1 (hr.mono (by decide))) (by exact (RG.in1 (k := 0) (hr.mono (by decide))).rm.units0) (by rw [at_Rule_repr]; exact F.m "Rule" "__repr__") bi_Rule_repr (by rfl) (by exact F.f "repr") (ia_cons (ie_v 9) ia_nil)) (ie_reprO (cn := "Rule") (by rfl) (by exact ok_Rule_repr F hcf hD) (by exact RG.in1 (hr.mono (by decide))) (by exact (RG.in1 (k := 0) (hr.mono (by decide))).rm.units0) (by rw [at_Rule_repr]; exact F.m "Rule" "__repr__") bi_Rule_repr (by rfl) (by exact F.f "repr") (ia_cons (ie_v 8) ia_nil)) (by rfl))))))) (is_one (is_ret ie_bl)) is_nil)
  (is_cons (by first | exact (is_setLc (own := [("_law_some", 6)]) (by rfl) nd_law (by rfl) (by rfl) (by rfl) (ii_any (by rfl) (ie_fnF (by exact ok__law_others F hcf hD) (by rfl) (by exact hr.mono (by decide)) (by rfl) (by exact F.g "_law_others") kb__law_others_0 (by exact tk_cx) (ak_cons (ia_cons (ie_v 4) ia_nil) ik_nil))) (blk_by (by kernel_rfl)) (fun _ _ _ _ _ => (ig_n 6 nd_law)) (fun _ _ _ _ _ => (its_one (ib_eqA (oi_neA (by exact eqh_0 F hcf hD (by rfl) (by rfl) (by rfl) (by rfl) (by rfl)) (by exact hr.mono (by decide))) (ie_v 6) (ie_v 4) (by rfl)))) (fun _ _ _ _ _ => (ie_fnF (by exact ok__law_made F hcf hD) (by rfl) (by exact hr.mono (by decide)) (by rfl) (by exact F.g "_law_made") kb__law_made_0 (by exact tk_no) (ak_cons (ia_cons (ie_v 6) ia_nil) ik_nil)))) | exact (is_st 5 nd_law (ie_lc (own := [("_law_some", 6)]) (by rfl) nd_law (ii_any (by rfl) (ie_fnF (by exact ok__law_others F hcf hD) (by rfl) (by exact hr.mono (by decide)) (by rfl) (by exact F.g "_law_others") kb__law_others_0 (by exact tk_cx) (ak_cons (ia_cons (ie_v 4) ia_nil) ik_nil))) (blk_by (by kernel_rfl)) (fun _ _ _ _ _ => (ig_n 6 nd_law)) (fun _ _ _ _ _ => (its_one (ib_eqA (oi_neA (by exact eqh_0 F hcf hD (by rfl) (by rfl) (by rfl) (by rfl) (by rfl)) (by exact hr.mono (by decide))) (ie_v 6) (ie_v 4) (by rfl)))) (fun _ _ _ _ _ => (ie_fnF (by exact ok__law_made F hcf hD) (by rfl) (by exact hr.mono (by decide)) (by rfl) (by exact F.g "_law_made") kb__law_made_0 (by exact tk_no) (ak_cons (ia_cons (ie_v 6) ia_nil) ik_nil))))))
  (is_cons (is_if (iw_pt (iw_or (ib_inA (oi_inA (by exact eqh_0 F hcf hD (by rfl) (by rfl) (by rfl) (by rfl) (by rfl)) (by exact hr.mono (by decide))) (ie_v 8) (ie_v 5) (by rfl)) (iw_or1 (ib_inA (oi_ninA (by exact eqh_0 F hcf hD (by rfl) (by rfl) (by rfl) (by rfl) (by rfl)) (by exact hr.mono (by decide))) (ie_v 9) (ie_op (oi_add (by rfl)) (ie_v 5) (ie_lst (ia_cons (ie_v 8) ia_nil))) (by rfl))))) (is_one (is_ret ie_bl)) is_nil)
  (is_cons (is_for (vs := allN 10) (by exact passes_of rfl) (by rfl) (ii_any (by rfl) (ie_v 5)) (ig_n 6 nd_law) (is_one (is_if (iw_pt (iw_or (ib_eqA (oi_eqA (by exact eqh_0 F hcf hD (by rfl) (by rfl) (by rfl) (by rfl) (by rfl)) (by exact hr.mono (by decide))) (ie_v 6) (ie_v 8) (by rfl)) (iw_or (ib_not (ib_eqA (oi_neA (by exact eqh_0 F hcf hD (by rfl) (by rfl) (by rfl) (by rfl) (by rfl)) (by exact hr.mono (by decide))) (ie_v 8) (ie_v 6) (by rfl))) (iw_or1 (ib_cmp (oi_eqP (by rfl) (by exact hr.rm.units)) (ie_reprO (cn := "Rule") (by rfl) (by exact ok_Rule_repr F hcf hD) (by exact RG.in1 (hr.mono (by decide))) (by exact (RG.in1 (k := 0) (hr.mono (by decide))).rm.units0) (by rw [at_Rule_repr]; exact F.m "Rule" "__repr__") bi_Rule_repr (by rfl) (by exact F.f "repr") (ia_cons (ie_v 6) ia_nil)) (ie_reprO (cn := "Rule") (by rfl) (by exact ok_Rule_repr F hcf hD) (by exact RG.in1 (hr.mono (by decide))) (by exact (RG.in1 (k := 0) (hr.mono (by decide))).rm.units0) (by rw [at_Rule_repr]; exact F.m "Rule" "__repr__") bi_Rule_repr (by rfl) (by exact F.f "repr") (ia_cons (ie_v 8) ia_nil)) (by rfl)))))) (is_one (is_ret ie_bl)) is_nil)))
  (is_one (is_for (vs := allN 10) (by exact passes_of rfl) (by rfl) (ii_any (by rfl) (ie_lst (ia_cons (ie_v 4) (ia_cons (ie_idxB (by rfl) (by exact hu1 hr) (ie_v 4) ie_int) (ia_cons (ie_reprO (cn := "Rule") (by rfl) (by exact ok_Rule_repr F hcf hD) (by exact RG.in1 (hr.mono (by decide))) (by exact (RG.in1 (k := 0) (hr.mono (by decide))).rm.units0) (by rw [at_Rule_repr]; exact F.m "Rule" "__repr__") bi_Rule_repr (by rfl) (by exact F.f "repr") (ia_cons (ie_v 8) ia_nil)) (ia_cons ie_non (ia_cons ie_bl (ia_cons (ie_lst (ia_cons (ie_v 8) ia_nil)) (ia_cons (ie_fnF (by exact ok__law_odd F hcf hD) (by rfl) (by exact hr.mono (by decide)) (by rfl) (by exact F.g "_law_odd") kb__law_odd_0 (by exact tk_cx) (ak_cons (ia_cons (ie_v 2) ia_nil) ik_nil)) ia_nil))))))))) (ig_n 7 nd_law) (is_one (is_if (iw_pt (iw_or (ib_eqA (oi_eqA (by exact eqh_0 F hcf hD (by rfl) (by rfl) (by rfl) (by rfl) (by rfl)) (by exact hr.mono (by decide))) (ie_v 8) (ie_v 7) (by rfl)) (iw_or (ib_eqA (oi_eqA (by exact eqh_0 F hcf hD (by rfl) (by rfl) (by rfl) (by rfl) (by rfl)) (by exact hr.mono (by decide))) (ie_v 7) (ie_v 8) (by rfl)) (iw_or1 (ib_not (ib_eqA (oi_neA (by exact eqh_0 F hcf hD (by rfl) (by rfl) (by rfl) (by rfl) (by rfl)) (by exact hr.mono (by decide))) (ie_v 8) (ie_v 7) (by rfl))))))) (is_one (is_ret ie_bl)) is_nil))))))))))))))
  (is_one (is_ret ie_bl)))
end
end
end Ro
end
section
set_option Elab.async false
set_option linter.all false
set_option maxRecDepth 100000
set_option maxHeartbeats 0
namespace Ro
open PySem PySem.Spec PyProof.Rows L2
abbrev RW : PySem.W.OpenRow := PySem.W.OpenLaw.row PySem.Challenge.rw_roadpence_k07_rules_alike
abbrev qv : Program := PySem.W.view RW.prog [34]
def nms0 : List PySem.Str := ["_wall", "PenceError", "NoSpot", "NoRule", "KINDS", "LAST_DAY", "is_whole", "is_kind", "option", "LAST_TOWN", "MOST_SHARE", "LETTERS", "MOST_LETTERS", "BOUNDS", "is_name", "is_deed", "is_spot", "need_spot", "wrong_part", "Rule", "_law_box", "_law_more", "_law_take", "_law_bound", "_law_ruled", "_law_name", "_law_made", "_law_rule_shown", "_law_odd", "_law_others"]
def nms : List PySem.Str := nms0
def tsL : List He.Tab := tabsD dcsL
abbrev hk : PySem.W.Hook := hookM 5 lw tsL
def ob (s : PySem.W.SharedT) : He.AlX := obM 5 lw tsL (HandSHeadRun.getT s)
theorem ob_eq (s : PySem.W.SharedT) : ob s = hk.obs s.abs := obM_eq (HandSHeadRun.getT_eq s)
theorem runF (w : World) : HandSHeadRun.RunEq RW qv hk ob 30000 nms (w.withFollow "special-get-raises" false) := fun os => by kernel_rfl
theorem runT (w : World) : HandSHeadRun.RunEq RW qv hk ob 30000 nms (w.withFollow "special-get-raises" true) := fun os => by kernel_rfl
theorem run (w : World) : HandSHeadRun.RunEq RW qv hk ob 30000 nms w :=
  PySem.W.byRow2 "special-get-raises" (P := fun w => HandSHeadRun.RunEq RW qv hk ob 30000 nms w) runF runT w
theorem law_binds (T : Tb) (fd : FuncData) (FD : FunD T.K d_law.name d_law.qual d_law.params d_law.body d_law.scope (d_law.dvs T.K) [] (He.fAd T.K d_law.at_) fd) (s : Shared) (u : Value) : BindsTo s fd ⟨[u], []⟩ [("_law_script", u)] :=
  (FunD.bindsA (ps := ["_law_script"]) FD fun _ _ _ _ _ _ us hl => match us, hl with | [_], _ => rfl) s [u] rfl
theorem at_law : d_law.at_ = (("law" : PySem.Str), none) := rfl
theorem fAd_none {K : PySem.W.Frag} {x : PySem.Str} : He.fAd K (x, none) = He.ga K x := rfl
theorem ref_uniq {mg : PySem.Str → Option Value} {x : PySem.Str} {a b : Addr} (h1 : mg x = some (.ref a)) (h2 : mg x = some (.ref b)) : b = a := by
  rw [h1] at h2
  have h3 := Option.some.inj h2
  injection h3 with h4
  exact h4.symm
theorem law_from (hm : ∀ ns : List Int, ns.length ≤ 63 → (∀ z ∈ ns, bits20 z) → ∃ S, m_law [.scr ns] [] = .ok (.bl true) S) : PySem.Challenge.rw_roadpence_k07_rules_alike.Holds := by
  w_on; o_law
  refine HandSHeadRun.head_any (r := PySem.W.OpenLaw.row PySem.Challenge.rw_roadpence_k07_rules_alike) (q := PySem.W.view (PySem.W.OpenLaw.row PySem.Challenge.rw_roadpence_k07_rules_alike).prog [34]) (H := hk) (ob := ob) (M := 30000) (loose := nms) (d := HandSHeadRun.topDef (PySem.W.OpenLaw.row PySem.Challenge.rw_roadpence_k07_rules_alike).prog 34) (kwd := []) ob_eq
    (by kernel_rfl) (fun s => by kernel_rfl) run (by kernel_rfl) (by kernel_rfl) (by kernel_rfl) (by rfl) (by first | assumption | decide +kernel) (by decide +kernel) ⟨rfl, rfl, rfl, rfl, rfl, by decide +kernel⟩ ?hw ?hc
  case hw => w_witness2
  case hc =>
    refine walkGT (l := PySem.Challenge.rw_roadpence_k07_rules_alike) (n := 63) (k := 12) (x := "_law_script") (m := m_law) rfl (by decide) (by kernel_rfl) (by decide) ?F hm
    intro w mg fa h Y G hmg0
    obtain ⟨K, KX, c⟩ := Y
    have hmg : mg ("law" : PySem.Str) = some (.ref fa) := by
      have e : (HandSHeadRun.topDef (PySem.W.OpenLaw.row PySem.Challenge.rw_roadpence_k07_rules_alike).prog 34).name = ("law" : PySem.Str) := by kernel_rfl
      rw [← e]
      exact hmg0
    obtain ⟨F, tF⟩ := says_fx (T := ⟨K, cf, tabsOf K lw.tf, none⟩) KX G c
    obtain ⟨fd0, FD0⟩ := F.defs 20 d_law rfl
    refine ⟨⟨K, cf, tabsOf K lw.tf, none⟩, fd0, lw.tf, rfl, KX, tF, law_binds _ fd0 FD0, fun base _ _ TB => ?_⟩
    have e : He.fAd K d_law.at_ = fa := by
      rw [at_law, fAd_none]
      exact ref_uniq hmg (F.g "law")
    have hD : DictsK K w (dcsL.map (·.1)) := dicts_of c.t
    obtain ⟨fd', FD', GG⟩ := (ok_law (P := (PySem.Challenge.rw_roadpence_k07_rules_alike).prog) (w := w) F rfl hD).ex
    rw [funD_uniq FD0 FD'] at GG
    rw [← e]
    exact GG
end Ro
end
section
set_option Elab.async false
set_option linter.all false
set_option maxRecDepth 100000
set_option maxHeartbeats 4000000
namespace Ro
open PySem
variable {S : Store}
@[simp] theorem ty_int (i : Int) : tyD (.int i) S = some (.b "int") := rfl
@[simp] theorem ty_bl (i : Bool) : tyD (.bl i) S = some (.b "bool") := rfl
@[simp] theorem ty_str (i : Str) : tyD (.str i) S = some (.b "str") := rfl
@[simp] theorem ty_tup (i : List D) : tyD (.tup i) S = some (.b "tuple") := rfl
@[simp] theorem ty_lst (i : List D) : tyD (.lst i) S = some (.b "list") := rfl
@[simp] theorem ty_non : tyD .non S = some (.b "NoneType") := rfl
@[simp] theorem ty_dct (i : List (D × D)) : tyD (.dct i) S = some (.b "dict") := rfl
def kinds : List Str := ["bed", "fee", "meal", "ride", "sundry"]
@[simp] theorem at_2 (d e c : D) (l : List D) : atP (d :: e :: c :: l) 2 = some c := by
  have : pyIx (d :: e :: c :: l).length 2 = some 2 := ix_nn _ 2 (by simp)
  unfold atP
  rw [this]
  rfl
@[simp] theorem at_3 (d e c b : D) (l : List D) : atP (d :: e :: c :: b :: l) 3 = some b := by
  have : pyIx (d :: e :: c :: b :: l).length 3 = some 3 := ix_nn _ 3 (by simp)
  unfold atP
  rw [this]
  rfl
/-- a comprehension whose parts only tell -/
theorem lc_pure {tg : Pat} {c : BX} {el : EX} {env0 : Env} {p : D → Bool} {g : D → D} : ∀ {xs acc : List D}, acc.length + xs.length ≤ LINE → (∀ x ∈ xs, ∃ e, tg x env0 = some e ∧ c e S = .ok (p x) S ∧ (p x = true → el e S = .ok (g x) S)) →
    lcLoop tg c el env0 xs acc S = .ok (acc ++ (xs.filter p).map g) S
  | [], acc, _, _ => by simp [lcLoop]
  | x :: xs, acc, hl, h => by
    obtain ⟨e, h1, h2, h3⟩ := h x (by simp)
    unfold lcLoop
    rw [h1]
    dsimp only
    rw [h2, nox_ok, bnd_ok]
    cases z : p x with
    | true =>
      rw [if_pos rfl, h3 z, nox_ok, bnd_ok, if_pos (by simp at hl ⊢; omega), lc_pure (acc := acc ++ [g x]) (by simp at hl ⊢; omega) (fun y hy => h y (by simp [hy]))]
      simp [List.filter_cons, z]
    | false =>
      rw [if_neg Bool.false_ne_true, lc_pure (by simp at hl ⊢; omega) (fun y hy => h y (by simp [hy]))]
      simp [List.filter_cons, z]
theorem pick_ok {l : List D} {i : Int} {P : D → Prop} (h0 : 0 ≤ i) (h1 : i < l.length) (h : ∀ d ∈ l, P d) : ∃ d, atP l i = some d ∧ P d := by
  have hl : i.toNat < l.length := by omega
  have e : (i.toNat : Int) = i := Int.toNat_of_nonneg h0
  refine ⟨l[i.toNat], ?_, h _ (List.getElem_mem hl)⟩
  have e2 : pyIx l.length i = some i.toNat := by
    have := ix_nn _ _ hl
    rw [e] at this
    exact this
  unfold atP
  rw [e2]
  simp [hl]
structure Fr (b : Nat) (S S' : Store) : Prop where
  bx : Bx S' b
  le : S.length ≤ S'.length
  keep : ∀ n, n < S.length → n ≠ b → S'[n]? = S[n]?
theorem Fr.trans {b : Nat} {S1 S2 : Store} (h : Fr b S S1) (k : Fr b S1 S2) : Fr b S S2 := ⟨k.bx, Nat.le_trans h.le k.le, fun n h1 h2 => (k.keep n (Nat.lt_of_lt_of_le h1 h.le) h2).trans (h.keep n h1 h2)⟩
theorem Bs.fr {b : Nat} {S1 : Store} (h : Bs S b S1) (hb : Bx S b) : Fr b S S1 := ⟨h.bx hb.lt, by rw [h.len]; exact Nat.le_refl _, fun n _ h2 => h.other h2⟩
theorem Bx.app {b : Nat} (h : Bx S b) (l : Store) : Bx (S ++ l) b := by
  obtain ⟨x, y, e, h1, h2⟩ := h
  exact ⟨x, y, by rw [List.getElem?_append_left (List.getElem?_eq_some_iff.mp e).1]; exact e, h1, h2⟩
theorem Fr.app {b : Nat} (h : Bx S b) (l : Store) : Fr b S (S ++ l) := ⟨h.app l, by simp, fun n h1 _ => List.getElem?_append_left h1⟩
@[simp] theorem u_sRaise {c : String} {a : AX} {env : Env} : sRaise c a env S = (a env S).bnd fun fs S1 => .err c fs S1 := rfl
@[simp] theorem u_aChk {n : Nat} {fa : AX} {env : Env} : aChk n fa env S = (fa env S).bnd fun ds S1 => if ds.length = n ∧ ds.length ≤ 1000 then .ok ds S1 else .bad := rfl
theorem kinds_sh {z : Str} (h : z ∈ kinds) : (PyData.str z).showable = true ∧ (PyData.shown (.str z)).length ≤ 20 := by
  unfold kinds at h
  simp at h
  rcases h with rfl | rfl | rfl | rfl | rfl <;> decide +kernel
theorem ne_str (s : Str) : neD (.str s) (.str s) = some (.bl false) := by
  unfold neD
  have h : plD (.str s) = true := rfl
  rw [h]
  simp
end Ro
end
section
set_option Elab.async false
set_option linter.all false
set_option maxRecDepth 100000
set_option maxHeartbeats 1000000
namespace Ro
open PySem
variable {S : Store}
def okD : D → Bool
  | .str s => decide (s.length ≤ LINE)
  | .non => true
  | .bl _ => true
  | .int _ => true
  | .tup _ => true
  | .lst _ => true
  | .dct _ => true
  | _ => false
def lets : List Nat := ("abcdefghijklmnopqrstuvwxyz" : Str).cps.toList
def nameOk (z : Str) : Bool := (decide (1 ≤ z.length) && decide (z.length ≤ 8)) && z.cps.toList.all (fun c => decide (c ∈ lets))
def deeds : List Str := ["let", "cut", "each", "hundredths", "refuse"]
def lim (z : Str) : Int := if z = "cut" then 1000000000000 else if z = "each" then 1000 else if z = "hundredths" then 100 else 0
def wholeB (d : D) (lo hi : Int) : Bool := match d with
  | .int i => decide (lo ≤ i) && decide (i ≤ hi)
  | _ => false
def nameB : D → Bool
  | .str z => nameOk z
  | _ => false
def deedB : D → Bool
  | .str z => decide (z ∈ deeds)
  | _ => false
def limD : D → Int
  | .str z => lim z
  | _ => 0
def kindB : D → Bool
  | .str z => decide (z ∈ kinds)
  | _ => false
def blB : D → Bool
  | .bl _ => true
  | _ => false
@[simp] theorem st_int_int : subTy (.b "int") (.b "int") = true := by decide
@[simp] theorem st_bool_int : subTy (.b "bool") (.b "int") = true := by decide
@[simp] theorem st_NoneType_int : subTy (.b "NoneType") (.b "int") = false := by decide
@[simp] theorem st_str_int : subTy (.b "str") (.b "int") = false := by decide
@[simp] theorem st_tuple_int : subTy (.b "tuple") (.b "int") = false := by decide
@[simp] theorem st_list_int : subTy (.b "list") (.b "int") = false := by decide
@[simp] theorem st_dict_int : subTy (.b "dict") (.b "int") = false := by decide
@[simp] theorem st_int_bool : subTy (.b "int") (.b "bool") = false := by decide
@[simp] theorem st_bool_bool : subTy (.b "bool") (.b "bool") = true := by decide
@[simp] theorem st_NoneType_bool : subTy (.b "NoneType") (.b "bool") = false := by decide
@[simp] theorem st_str_bool : subTy (.b "str") (.b "bool") = false := by decide
@[simp] theorem st_tuple_bool : subTy (.b "tuple") (.b "bool") = false := by decide
@[simp] theorem st_list_bool : subTy (.b "list") (.b "bool") = false := by decide
@[simp] theorem st_dict_bool : subTy (.b "dict") (.b "bool") = false := by decide
@[simp] theorem st_int_str : subTy (.b "int") (.b "str") = false := by decide
@[simp] theorem st_bool_str : subTy (.b "bool") (.b "str") = false := by decide
@[simp] theorem st_NoneType_str : subTy (.b "NoneType") (.b "str") = false := by decide
@[simp] theorem st_str_str : subTy (.b "str") (.b "str") = true := by decide
@[simp] theorem st_tuple_str : subTy (.b "tuple") (.b "str") = false := by decide
@[simp] theorem st_list_str : subTy (.b "list") (.b "str") = false := by decide
@[simp] theorem st_dict_str : subTy (.b "dict") (.b "str") = false := by decide
@[simp] theorem st_int_tuple : subTy (.b "int") (.b "tuple") = false := by decide
@[simp] theorem st_bool_tuple : subTy (.b "bool") (.b "tuple") = false := by decide
@[simp] theorem st_NoneType_tuple : subTy (.b "NoneType") (.b "tuple") = false := by decide
@[simp] theorem st_str_tuple : subTy (.b "str") (.b "tuple") = false := by decide
@[simp] theorem st_tuple_tuple : subTy (.b "tuple") (.b "tuple") = true := by decide
@[simp] theorem st_list_tuple : subTy (.b "list") (.b "tuple") = false := by decide
@[simp] theorem st_dict_tuple : subTy (.b "dict") (.b "tuple") = false := by decide
@[simp] theorem tl_int : Ty.b "int" ∈ tysL := by decide
@[simp] theorem tl_bool : Ty.b "bool" ∈ tysL := by decide
@[simp] theorem tl_NoneType : Ty.b "NoneType" ∈ tysL := by decide
@[simp] theorem tl_str : Ty.b "str" ∈ tysL := by decide
@[simp] theorem tl_tuple : Ty.b "tuple" ∈ tysL := by decide
@[simp] theorem tl_list : Ty.b "list" ∈ tysL := by decide
@[simp] theorem tl_dict : Ty.b "dict" ∈ tysL := by decide
theorem whole_b {d : D} (hd : okD d = true) (lo hi : Int) : m_is_whole [d, .int lo, .int hi] S = .ok (.bl (wholeB d lo hi)) S := by
  unfold m_is_whole b_is_whole
  cases d with
  | int i => by_cases c : lo ≤ i <;> simp [c, wholeB]
  | scr l => cases hd
  | obj c l => cases hd
  | ref n => cases hd
  | fn n => cases hd
  | thk n l => cases hd
  | _ => simp [wholeB]
theorem kinds_d (z : Str) : (decide (("bed" : Str) = z) || (decide (("fee" : Str) = z) || (decide (("meal" : Str) = z) || (decide (("ride" : Str) = z) || decide (("sundry" : Str) = z))))) = decide (z ∈ kinds) := by
  unfold kinds
  simp only [List.mem_cons, List.not_mem_nil, or_false, Bool.decide_or]
  simp only [eq_comm (a := z)]
theorem kind_b {d : D} (hd : okD d = true) : m_is_kind [d] S = .ok (.bl (kindB d)) S := by
  unfold m_is_kind b_is_kind
  cases d with
  | str z => simp [inD, kinds_d, kindB]
  | scr l => cases hd
  | obj c l => cases hd
  | ref n => cases hd
  | fn n => cases hd
  | thk n l => cases hd
  | _ => simp [kindB]
theorem find_deed (z : Str) : (kv_BOUNDS.find? fun q => decide (q.1 = z)).isSome = decide (z ∈ deeds) := by
  unfold kv_BOUNDS deeds
  simp only [List.find?_cons, List.find?_nil, List.mem_cons, List.not_mem_nil, or_false]
  by_cases h1 : ("let" : Str) = z
  · simp [h1]
  by_cases h2 : ("cut" : Str) = z
  · simp [h1, h2]
  by_cases h3 : ("each" : Str) = z
  · simp [h1, h2, h3]
  by_cases h4 : ("hundredths" : Str) = z
  · simp [h1, h2, h3, h4]
  by_cases h5 : ("refuse" : Str) = z
  · simp [h1, h2, h3, h4, h5]
  simp [h1, h2, h3, h4, h5, Ne.symm h1, Ne.symm h2, Ne.symm h3, Ne.symm h4, Ne.symm h5]
theorem deed_b {d : D} (hd : okD d = true) : m_is_deed [d] S = .ok (.bl (deedB d)) S := by
  unfold m_is_deed b_is_deed
  cases d with
  | str z => simp [inKD, find_deed, deedB]
  | scr l => cases hd
  | obj c l => cases hd
  | ref n => cases hd
  | fn n => cases hd
  | thk n l => cases hd
  | _ => simp [deedB]
theorem it_lim {z : Str} (h : z ∈ deeds) : itKD "BOUNDS" kv_BOUNDS (.fn "BOUNDS") (.str z) = some (.int (lim z)) := by
  unfold deeds at h
  simp at h
  rcases h with rfl | rfl | rfl | rfl | rfl <;> rfl
theorem dBls_map (l : List D) (p : D → Bool) : dBls (l.map fun x => .bl (p x)) = some (l.map p) := by
  induction l with
  | nil => rfl
  | cons x l ih => rw [List.map_cons, dBls, ih]; rfl
theorem all_map (l : List D) (p : D → Bool) : bAll [.lst (l.map fun x => .bl (p x))] = some (.bl (l.all p)) := by
  show Option.map (fun bs => D.bl (bs.all id)) (dBls (l.map fun x => D.bl (p x))) = _
  rw [dBls_map]
  simp [List.all_map, Function.comp_def]
def signB : D → Bool
  | .str s => match s.cps.toList with
    | [c] => decide (c ∈ lets)
    | _ => false
  | _ => false
theorem name_b {d : D} (hd : okD d = true) : m_is_name [d] S = .ok (.bl (nameB d)) S := by
  unfold m_is_name b_is_name
  cases d with
  | str z =>
    have hz : z.length ≤ 16777216 := of_decide_eq_true hd
    by_cases h1 : 1 ≤ z.length
    · by_cases h8 : z.length ≤ 8
      · have l1 : lcLoop (pName 1) bYes (eOp inSD (eVar 1) (eC (.str "abcdefghijklmnopqrstuvwxyz"))) (wipeE [some (.str z), none] [1]) (z.cps.toList.map fun c => .str ⟨#[c]⟩) [] S = .ok ((((z.cps.toList.map fun c => D.str ⟨#[c]⟩).filter fun _ => true)).map fun x => .bl (signB x)) S := by
          refine lc_pure (by
            have : z.cps.toList.length = z.length := by simp [Str.length]
            simp only [List.length_nil, List.length_map, this, LINE_eq]
            omega) fun x hx => ?_
          obtain ⟨c, hc, rfl⟩ := List.mem_map.mp hx
          exact ⟨_, rfl, rfl, fun _ => rfl⟩
        have ft : ∀ l : List D, l.filter (fun _ => true) = l := fun l => by simp
        rw [ft] at l1
        have b1 := all_map (z.cps.toList.map fun c => D.str ⟨#[c]⟩) signB
        have e1 : (z.cps.toList.map fun c => D.str ⟨#[c]⟩).all signB = z.cps.toList.all (fun c => decide (c ∈ lets)) := by
          rw [List.all_map]
          rfl
        rw [e1] at b1
        generalize ((z.cps.toList.map fun c => D.str ⟨#[c]⟩).map fun x => D.bl (signB x)) = L at l1 b1
        have i1 : (1 : Int) ≤ z.length := by omega
        have i8 : (z.length : Int) ≤ 8 := by omega
        simp [bLenA, bLen, lenD, hz, i1, i8, l1, b1, nameB, nameOk, h1, h8]
      · have i1 : (1 : Int) ≤ z.length := by omega
        have i8 : ¬ (z.length : Int) ≤ 8 := by omega
        simp [bLenA, bLen, lenD, hz, i1, i8, nameB, nameOk, h1, h8]
    · have i1 : ¬ (1 : Int) ≤ z.length := by omega
      simp [bLenA, bLen, lenD, hz, i1, nameB, nameOk, h1]
  | scr l => cases hd
  | obj c l => cases hd
  | ref n => cases hd
  | fn n => cases hd
  | thk n l => cases hd
  | _ => simp [nameB]
end Ro
end
section
set_option Elab.async false
set_option linter.all false
set_option maxRecDepth 100000
set_option maxHeartbeats 1000000
namespace Ro
open PySem
variable {S : Store} {env : Env}
theorem app_step {f : EX} {i n : Nat} {l : List D} {v : D} (h1 : env[i]? = some (some (.ref n))) (hn : S[n]? = some (.lst l)) (h2 : f env S = .ok v S) (hl : l.length < 16777216) : eApp (eVar i) f env S = .ok .non (S.set n (.lst (l ++ [v]))) := by
  unfold eApp
  rw [u_eVar, h1]
  dsimp only
  rw [bnd_ok]
  have t : tyD (.ref n) S = some (.b "list") := by unfold tyD; simp only [hn]
  rw [if_pos t, h2, bnd_ok]
  unfold appM
  dsimp only
  rw [hn]
  dsimp only
  rw [if_pos (by simpa using hl)]
theorem addM_step {f g : EX} {n : Nat} {l m : List D} (h1 : f env S = .ok (.ref n) S) (hn : S[n]? = some (.lst l)) (h2 : g env S = .ok (.lst m) S) (hl : l.length + m.length ≤ 16777216) : eAddM f g env S = .ok (.ref S.length) (S ++ [.lst (l ++ m)]) := by
  unfold eAddM
  rw [h1, bnd_ok, h2, bnd_ok]
  have e : catS (.ref n) (.lst m) S = some (l ++ m) := by
    unfold catS
    have e1 : seeD (.ref n) S = .lst l := by unfold seeD; dsimp only; rw [hn]
    rw [e1]
    show (if l.length + m.length ≤ LINE then some (l ++ m) else none) = _
    rw [if_pos (by simpa using hl)]
  rw [e]
theorem frz_step {f : EX} {n : Nat} {l : List D} (h1 : f env S = .ok (.ref n) S) (hn : S[n]? = some (.lst l)) : eFrzL f env S = .ok (.lst l) (S.set n .dead) := by
  unfold eFrzL
  rw [h1, bnd_ok]
  unfold frzL
  dsimp only
  rw [hn]
def wholeL (d lo : D) : Bool := match lo with
  | .int i => wholeB d i 59
  | _ => false
def looks (d0 d1 d2 d3 d4 d5 d6 d7 d8 : D) : List (Str × Bool) := [("name", nameB d0), ("deed", deedB d1), ("bound", deedB d1 && wholeB d2 0 (limD d1)), ("kind", isNonD d3 || kindB d3), ("town", isNonD d4 || wholeB d4 0 3), ("first", wholeB d5 0 59),
  ("last", wholeB d5 0 59 && wholeL d6 d5), ("over", wholeB d7 0 1000000000000), ("paper", isNonD d8 || blB d8)]
def firstW (l : List (Str × Bool)) : D := match l.filter (fun p => !p.2) with
  | [] => .non
  | p :: _ => .str p.1
def pairD (p : Str × Bool) : D := .tup [.str p.1, .bl p.2]
theorem bound_e {d1 d2 : D} (h1 : env[1]? = some (some d1)) (h2 : env[2]? = some (some d2)) (k1 : okD d1 = true) (k2 : okD d2 = true) :
    eAnd (eFn (callM m_is_deed 1 0 1 [(0, 0)] []) (aCons (eVar 1) aNil) aNil) (eFn (callM m_is_whole 3 0 3 [(0, 0), (0, 1), (0, 2)] []) (aCons (eVar 2) (aCons (eC (.int 0)) (aCons (eOp (itKD "BOUNDS" kv_BOUNDS) (eC (.fn "BOUNDS")) (eVar 1)) aNil))) aNil) env S = .ok (.bl (deedB d1 && wholeB d2 0 (limD d1))) S := by
  cases z : deedB d1 with
  | false => simp [h1, deed_b k1, z]
  | true =>
    cases d1 with
    | str y =>
      have hy : y ∈ deeds := of_decide_eq_true z
      simp [h1, h2, deed_b k1, z, it_lim hy, whole_b k2, limD]
    | _ => cases z
theorem opt_e {d : D} {i : Nat} {f : EX} {b : Bool} (h : env[i]? = some (some d)) (hf : f env S = .ok (.bl b) S) : eOr (eOp isND (eVar i) (eC .non)) f env S = .ok (.bl (isNonD d || b)) S := by
  have e : isND d .non = some (.bl (isNonD d)) := rfl
  cases z : isNonD d <;> simp [h, e, z, hf]
theorem last_e {d5 d6 : D} (h5 : env[5]? = some (some d5)) (h6 : env[6]? = some (some d6)) (k5 : okD d5 = true) (k6 : okD d6 = true) :
    eAnd (eFn (callM m_is_whole 3 0 3 [(0, 0), (0, 1), (0, 2)] []) (aCons (eVar 5) (aCons (eC (.int 0)) (aCons (eC (.int 59)) aNil))) aNil) (eFn (callM m_is_whole 3 0 3 [(0, 0), (0, 1), (0, 2)] []) (aCons (eVar 6) (aCons (eVar 5) (aCons (eC (.int 59)) aNil))) aNil) env S = .ok (.bl (wholeB d5 0 59 && wholeL d6 d5)) S := by
  cases z : wholeB d5 0 59 with
  | false => simp [h5, whole_b k5, z]
  | true =>
    cases d5 with
    | int y => simp [h5, h6, whole_b k5, z, whole_b k6, wholeL]
    | _ => cases z
theorem isbl_e {d : D} {i : Nat} (h : env[i]? = some (some d)) (k : okD d = true) : eIsI tysL (.b "bool") (eVar i) env S = .ok (.bl (blB d)) S := by
  cases d with
  | scr l => cases k
  | obj c l => cases k
  | ref n => cases k
  | fn n => cases k
  | thk n l => cases k
  | _ => simp [h, blB]
theorem ne_nil {l : List D} (h : l.all (plN 7) = true) : neD (.lst l) (.lst []) = some (.bl (!l.isEmpty)) := by
  unfold neD
  have e1 : plD (.lst l) = true := h
  have e2 : plD (.lst []) = true := rfl
  rw [if_pos (by rw [e1, e2]; rfl), pyEq_lst]
  cases l with
  | nil => rw [pyEqs_nil]; rfl
  | cons x l => rw [pyEqs_cn]; rfl
def wrB : D → Bool
  | .tup [_, .bl b] => !b
  | _ => false
def wrG : D → D
  | .tup [a, _] => a
  | _ => .non
theorem wr_lc {env0 : Env} {lk : List (Str × Bool)} (hl : lk.length ≤ 100) (he : env0.length = 13) : lcLoop (pTup (pCons (pName 11) (pCons (pName 12) pNil))) (bNot (bOf (eVar 12))) (eVar 11) env0 (lk.map pairD) [] S = .ok ((lk.filter (fun p => !p.2)).map fun p => .str p.1) S := by
  have l1 : lcLoop (pTup (pCons (pName 11) (pCons (pName 12) pNil))) (bNot (bOf (eVar 12))) (eVar 11) env0 (lk.map pairD) [] S = .ok (((lk.map pairD).filter wrB).map wrG) S := by
    refine lc_pure (by simp; omega) fun x hx => ?_
    obtain ⟨p, hp, rfl⟩ := List.mem_map.mp hx
    refine ⟨_, rfl, ?_, fun _ => ?_⟩
    · simp [he, truth, wrB, pairD]
    · simp [he, wrG, pairD]
  rw [l1, List.filter_map, List.map_map]
  rfl
theorem first_e {env : Env} {lk : List (Str × Bool)} (h : env[10]? = some (some (.lst ((lk.filter (fun p => !p.2)).map fun p => .str p.1)))) : t_wrong_part_8 env S = .ok (.rt (firstW lk)) S := by
  unfold t_wrong_part_8
  have h1 : ((lk.filter (fun p => !p.2)).map fun p => D.str p.1).all (plN 7) = true := by
    rw [List.all_map]
    simp
  have h2 := ne_nil h1
  unfold firstW
  cases z : lk.filter (fun p => !p.2) with
  | nil =>
    rw [z] at h h2
    simp at h h2
    simp [h, h2]
  | cons p r =>
    rw [z] at h h2
    simp at h h2
    simp [h, h2]
theorem wrong_b {d0 d1 d2 d3 d4 d5 d6 d7 d8 : D} (k0 : okD d0 = true) (k1 : okD d1 = true) (k2 : okD d2 = true) (k3 : okD d3 = true) (k4 : okD d4 = true) (k5 : okD d5 = true) (k6 : okD d6 = true) (k7 : okD d7 = true) (k8 : okD d8 = true) :
    ∃ X, m_wrong_part [d0, d1, d2, d3, d4, d5, d6, d7, d8] S = .ok (firstW (looks d0 d1 d2 d3 d4 d5 d6 d7 d8)) (S ++ X) := by
  have e2 := fun x9 x10 x11 x12 S => bound_e (env := [some d0, some d1, some d2, some d3, some d4, some d5, some d6, some d7, some d8, x9, x10, x11, x12]) (S := S) rfl rfl k1 k2
  have e3 := fun x9 x10 x11 x12 S => opt_e (env := [some d0, some d1, some d2, some d3, some d4, some d5, some d6, some d7, some d8, x9, x10, x11, x12]) (S := S) (i := 3) (f := eFn (callM m_is_kind 1 0 1 [(0, 0)] []) (aCons (eVar 3) aNil) aNil) (b := kindB d3) rfl (by simp [kind_b k3])
  have e4 := fun x9 x10 x11 x12 S => opt_e (env := [some d0, some d1, some d2, some d3, some d4, some d5, some d6, some d7, some d8, x9, x10, x11, x12]) (S := S) (i := 4) (f := eFn (callM m_is_whole 3 0 3 [(0, 0), (0, 1), (0, 2)] []) (aCons (eVar 4) (aCons (eC (.int 0)) (aCons (eC (.int 3)) aNil))) aNil) (b := wholeB d4 0 3) rfl (by simp [whole_b k4])
  have e6 := fun x9 x10 x11 x12 S => last_e (env := [some d0, some d1, some d2, some d3, some d4, some d5, some d6, some d7, some d8, x9, x10, x11, x12]) (S := S) rfl rfl k5 k6
  have e8 := fun x9 x10 x11 x12 S => opt_e (env := [some d0, some d1, some d2, some d3, some d4, some d5, some d6, some d7, some d8, x9, x10, x11, x12]) (S := S) (i := 8) (f := eIsI tysL (.b "bool") (eVar 8)) (b := blB d8) rfl (isbl_e rfl k8)
  unfold m_wrong_part
  rw [u_fnM, x_wrong_part]
  simp [name_b k0, deed_b k1]
  generalize hb : (deedB d1 && wholeB d2 0 (limD d1)) = B2 at e2
  generalize hk : (isNonD d3 || kindB d3) = B3 at e3
  generalize ht : (isNonD d4 || wholeB d4 0 3) = B4 at e4
  generalize hla : (wholeB d5 0 59 && wholeL d6 d5) = B6 at e6
  generalize hp : (isNonD d8 || blB d8) = B8 at e8
  unfold t_wrong_part_2
  rw [u_sSeq, u_sExpr, app_step (n := S.length) (l := [.tup [.str "name", .bl (nameB d0)], .tup [.str "deed", .bl (deedB d1)]]) (v := pairD ("bound", B2)) rfl (by simp) (by simp [-u_eOr, -u_eAnd, e2, pairD]) (by simp)]
  simp
  unfold t_wrong_part_3
  rw [u_sSeq, u_sSet, addM_step (n := S.length) (l := [.tup [.str "name", .bl (nameB d0)], .tup [.str "deed", .bl (deedB d1)], pairD ("bound", B2)]) (m := [pairD ("kind", B3), pairD ("town", B4)]) (by simp) (by simp) (by simp [-u_eOr, -u_eAnd, e3, e4, pairD]) (by simp)]
  simp
  unfold t_wrong_part_4
  rw [u_sSeq, u_sExpr, app_step (n := S.length + 1) (l := [.tup [.str "name", .bl (nameB d0)], .tup [.str "deed", .bl (deedB d1)], pairD ("bound", B2), pairD ("kind", B3), pairD ("town", B4)]) (v := pairD ("first", wholeB d5 0 59)) rfl (by simp) (by simp [pairD, whole_b k5]) (by simp)]
  simp
  unfold t_wrong_part_5
  rw [u_sSeq, u_sExpr, app_step (n := S.length + 1) (l := [.tup [.str "name", .bl (nameB d0)], .tup [.str "deed", .bl (deedB d1)], pairD ("bound", B2), pairD ("kind", B3), pairD ("town", B4), pairD ("first", wholeB d5 0 59)]) (v := pairD ("last", B6)) rfl (by simp) (by simp [-u_eOr, -u_eAnd, e6, pairD]) (by simp)]
  simp
  unfold t_wrong_part_6
  rw [u_sSeq, u_sSet, addM_step (n := S.length + 1) (l := [.tup [.str "name", .bl (nameB d0)], .tup [.str "deed", .bl (deedB d1)], pairD ("bound", B2), pairD ("kind", B3), pairD ("town", B4), pairD ("first", wholeB d5 0 59), pairD ("last", B6)]) (m := [pairD ("over", wholeB d7 0 1000000000000), pairD ("paper", B8)]) (by simp) (by simp) (by simp [-u_eOr, -u_eAnd, e8, whole_b k7, pairD]) (by simp)]
  simp
  unfold t_wrong_part_7
  obtain ⟨LK, hLK⟩ : ∃ LK : List (Str × Bool), LK = ([("name", nameB d0), ("deed", deedB d1), ("bound", B2), ("kind", B3), ("town", B4), ("first", wholeB d5 0 59), ("last", B6), ("over", wholeB d7 0 1000000000000), ("paper", B8)] : List (Str × Bool)) := ⟨_, rfl⟩
  have lce : ∀ (env0 : Env) (S : Store), env0.length = 13 → lcLoop (pTup (pCons (pName 11) (pCons (pName 12) pNil))) (bNot (bOf (eVar 12))) (eVar 11) env0 (LK.map pairD) [] S = .ok ((LK.filter (fun p => !p.2)).map fun p => .str p.1) S := fun env0 S he => wr_lc (S := S) (env0 := env0) (lk := LK) (by simp [hLK]) he
  have fe := fun env S h => first_e (S := S) (env := env) (lk := LK) h
  have elk : looks d0 d1 d2 d3 d4 d5 d6 d7 d8 = LK := by
    unfold looks
    rw [hb, hk, ht, hla, hp, hLK]
  rw [elk]
  rw [u_sSeq, u_sSet, u_eLC, u_itAny, frz_step (n := S.length + 2) (l := [pairD ("name", nameB d0), pairD ("deed", deedB d1), pairD ("bound", B2), pairD ("kind", B3), pairD ("town", B4), pairD ("first", wholeB d5 0 59), pairD ("last", B6), pairD ("over", wholeB d7 0 1000000000000), pairD ("paper", B8)]) (by simp) (by simp [pairD])]
  rw [bnd_ok]
  dsimp only
  rw [bnd_ok]
  have e9 : LK.map pairD = [pairD ("name", nameB d0), pairD ("deed", deedB d1), pairD ("bound", B2), pairD ("kind", B3), pairD ("town", B4), pairD ("first", wholeB d5 0 59), pairD ("last", B6), pairD ("over", wholeB d7 0 1000000000000), pairD ("paper", B8)] := by rw [hLK]; rfl
  rw [e9] at lce
  rw [lce _ _ rfl, bnd_ok, bnd_ok, bnd_ok]
  dsimp only
  rw [fe _ _ rfl, bnd_ok]
  dsimp only
  exact ⟨_, by rw [List.set_append_right _ _ (by omega)]⟩
end Ro
end
section
set_option Elab.async false
set_option linter.all false
set_option maxRecDepth 100000
set_option maxHeartbeats 1000000
namespace Ro
open PySem
variable {S : Store} {env : Env}
def oS : Option Str → D
  | none => .non
  | some z => .str z
def oI : Option Int → D
  | none => .non
  | some z => .int z
def oB : Option Bool → D
  | none => .non
  | some z => .bl z
structure Ru where
  name : Str
  deed : Str
  bound : Int
  kind : Option Str
  town : Option Int
  first : Int
  last : Int
  over : Int
  paper : Option Bool
def Ru.ds (r : Ru) : List D := [.str r.name, .str r.deed, .int r.bound, oS r.kind, oI r.town, .int r.first, .int r.last, .int r.over, oB r.paper]
def Ru.obj (r : Ru) : D := .obj "Rule" r.ds
structure Ru.ok (r : Ru) : Prop where
  name : nameOk r.name = true
  deed : r.deed ∈ deeds
  b0 : 0 ≤ r.bound
  b1 : r.bound ≤ lim r.deed
  kind : ∀ z, r.kind = some z → z ∈ kinds
  town : ∀ z, r.town = some z → 0 ≤ z ∧ z ≤ 3
  f0 : 0 ≤ r.first
  fl : r.first ≤ r.last
  l1 : r.last ≤ 59
  o0 : 0 ≤ r.over
  o1 : r.over ≤ 1000000000000
theorem lim_bd {z : Str} : 0 ≤ lim z ∧ lim z ≤ 1000000000000 := by
  unfold lim
  split
  · decide
  · split
    · decide
    · split <;> decide
theorem nameOk_len {z : Str} (h : nameOk z = true) : 1 ≤ z.length ∧ z.length ≤ 8 := by
  unfold nameOk at h
  simp only [Bool.and_eq_true, decide_eq_true_eq] at h
  exact h.1
theorem deed_len {z : Str} (h : z ∈ deeds) : z.length ≤ 100 := by
  unfold deeds at h
  simp at h
  rcases h with rfl | rfl | rfl | rfl | rfl <;> decide
theorem kind_len {z : Str} (h : z ∈ kinds) : z.length ≤ 100 := by
  unfold kinds at h
  simp at h
  rcases h with rfl | rfl | rfl | rfl | rfl <;> decide
theorem okD_str {z : Str} (h : z.length ≤ 16777216) : okD (.str z) = true := decide_eq_true h
theorem Ru.ok.looks {r : Ru} (h : r.ok) : firstW (looks (.str r.name) (.str r.deed) (.int r.bound) (oS r.kind) (oI r.town) (.int r.first) (.int r.last) (.int r.over) (oB r.paper)) = .non := by
  have h1 := h.b0
  have h2 := h.b1
  have h3 := h.f0
  have h4 := h.fl
  have h5 := h.l1
  have h6 := h.o0
  have h7 := h.o1
  have h8 : r.first ≤ 59 := by omega
  have a1 : (isNonD (oS r.kind) || kindB (oS r.kind)) = true := by
    cases z : r.kind with
    | none => rfl
    | some k => simp [oS, kindB, h.kind k z]
  have a2 : (isNonD (oI r.town) || wholeB (oI r.town) 0 3) = true := by
    cases z : r.town with
    | none => rfl
    | some k => simp [oI, wholeB, h.town k z]
  have a3 : (isNonD (oB r.paper) || blB (oB r.paper)) = true := by
    cases z : r.paper with
    | none => rfl
    | some k => rfl
  unfold firstW Ro.looks
  rw [a1, a2, a3]
  simp [nameB, h.name, deedB, h.deed, limD, wholeB, wholeL, h1, h2, h3, h4, h5, h6, h7, h8]
theorem Ru.ok.okDs {r : Ru} (h : r.ok) : ∀ d ∈ r.ds, okD d = true := by
  have a1 := nameOk_len h.name
  have a2 := deed_len h.deed
  have e1 : okD (.str r.name) = true := okD_str (by omega)
  have e2 : okD (.str r.deed) = true := okD_str (by omega)
  have e3 : okD (oS r.kind) = true := by
    cases z : r.kind with
    | none => rfl
    | some k => exact okD_str (by have := kind_len (h.kind k z); omega)
  have e4 : okD (oI r.town) = true := by cases r.town <;> rfl
  have e5 : okD (oB r.paper) = true := by cases r.paper <;> rfl
  unfold Ru.ds
  intro d hd
  simp at hd
  rcases hd with rfl | rfl | rfl | rfl | rfl | rfl | rfl | rfl | rfl <;> first | assumption | rfl
theorem Ru.ok.wrong {r : Ru} (h : r.ok) : ∃ X, m_wrong_part r.ds S = .ok .non (S ++ X) := by
  have k := h.okDs
  unfold Ru.ds at k
  simp only [List.mem_cons, List.not_mem_nil, or_false, forall_eq_or_imp, forall_eq] at k
  obtain ⟨k0, k1, k2, k3, k4, k5, k6, k7, k8⟩ := k
  obtain ⟨X, e⟩ := wrong_b (S := S) k0 k1 k2 k3 k4 k5 k6 k7 k8
  rw [h.looks] at e
  exact ⟨X, e⟩
theorem init_ok {n : Nat} {r : Ru} (h : r.ok) (hS : S[n]? = some (.ins "Rule" [])) : ∃ X, m_Rule_init (.ref n :: r.ds) S = .ok .non (S.set n (.ins "Rule" [("name", .str r.name), ("deed", .str r.deed), ("bound", .int r.bound), ("kind", oS r.kind), ("town", oI r.town), ("first", .int r.first), ("last", .int r.last), ("over", .int r.over), ("paper", oB r.paper)]) ++ X) := by
  have hn : n < S.length := (List.getElem?_eq_some_iff.mp hS).1
  obtain ⟨X, e⟩ := h.wrong (S := S)
  unfold Ru.ds at e ⊢
  have g : ∀ c : Cell, (S.set n c ++ X)[n]? = some c := fun c => by rw [List.getElem?_append_left (by simpa using hn), List.getElem?_set_self hn]
  have g0 : (S ++ X)[n]? = some (.ins "Rule" []) := by rw [List.getElem?_append_left hn, hS]
  have s0 : ∀ c : Cell, (S ++ X).set n c = S.set n c ++ X := fun c => by rw [List.set_append_left _ _ hn]
  have s1 : ∀ c c' : Cell, (S.set n c ++ X).set n c' = S.set n c' ++ X := fun c c' => by rw [List.set_append_left _ _ (by simpa using hn), List.set_set]
  have en : notND .non .non = some (.bl false) := rfl
  refine ⟨X, ?_⟩
  unfold m_Rule_init b_Rule_init
  simp [e, en, -List.getElem?_append, -List.set_append, g, g0, s0, s1, setF]
theorem frz_rule {xs zs : List D} {pk : List (Nat × Nat)} {n kn : Nat} {dfs : List D} {r : Ru} (h : r.ok) (hp : pick pk (.ref S.length :: xs) dfs zs = .ref S.length :: r.ds) (h1 : xs.length + 1 = n) (h2 : zs.length = kn) :
    ∃ X, frzM cf (newM "Rule" (callM m_Rule_init n kn 10 pk dfs) xs zs S) = .ok r.obj (S ++ X) := by
  have hS : (S ++ [Cell.ins "Rule" []])[S.length]? = some (.ins "Rule" []) := by simp
  obtain ⟨X, e⟩ := init_ok (S := S ++ [.ins "Rule" []]) h hS
  refine ⟨.dead :: X, ?_⟩
  unfold newM
  rw [u_callM, if_pos ⟨by simp [← h1], h2, by rw [hp]; simp [Ru.ds]⟩, hp, e]
  simp [frzM, cf, Ru.obj, Ru.ds]
theorem made_ok {r : Ru} (h : r.ok) : ∃ X, m__law_made [.tup r.ds] S = .ok r.obj (S ++ X) := by
  obtain ⟨X, hn⟩ := frz_rule (S := S) (r := r) (n := 2) (kn := 8) (xs := [.str r.name]) (zs := [.str r.deed, .int r.bound, oS r.kind, oI r.town, .int r.first, .int r.last, .int r.over, oB r.paper]) (pk := [(0, 0), (0, 1), (2, 0), (2, 1), (2, 2), (2, 3), (2, 4), (2, 5), (2, 6), (2, 7)]) (dfs := [.str "let", .int 0, .non, .non, .int 0, .int 59, .int 0, .non]) h rfl rfl rfl
  refine ⟨X, ?_⟩
  unfold m__law_made b__law_made
  have d0 : ∀ S : Store, idxB (.tup r.ds) (.int 0) S = some (.str r.name) := fun _ => rfl
  have d1 : ∀ S : Store, idxB (.tup r.ds) (.int 1) S = some (.str r.deed) := fun _ => rfl
  have d2 : ∀ S : Store, idxB (.tup r.ds) (.int 2) S = some (.int r.bound) := fun _ => rfl
  have d3 : ∀ S : Store, idxB (.tup r.ds) (.int 3) S = some (oS r.kind) := fun _ => rfl
  have d4 : ∀ S : Store, idxB (.tup r.ds) (.int 4) S = some (oI r.town) := fun _ => rfl
  have d5 : ∀ S : Store, idxB (.tup r.ds) (.int 5) S = some (.int r.first) := fun _ => rfl
  have d6 : ∀ S : Store, idxB (.tup r.ds) (.int 6) S = some (.int r.last) := fun _ => rfl
  have d7 : ∀ S : Store, idxB (.tup r.ds) (.int 7) S = some (.int r.over) := fun _ => rfl
  have d8 : ∀ S : Store, idxB (.tup r.ds) (.int 8) S = some (oB r.paper) := fun _ => rfl
  simp [-idx_tup, d0, d1, d2, d3, d4, d5, d6, d7, d8, hn]
end Ro
end
section
set_option Elab.async false
set_option linter.all false
set_option maxRecDepth 100000
set_option maxHeartbeats 1000000
namespace Ro
open PySem
variable {S : Store} {env : Env}
theorem Bs.refl {b : Nat} (h : Bx S b) : Bs S b S := by
  obtain ⟨x, y, e, h1, h2⟩ := h
  exact ⟨x, y, h1, h2, (set_same e).symm⟩
theorem lbound_ok {b : Nat} {act : Str} (hB : Bx S b) (ha : act ∈ deeds) : W (m__law_bound [.ref b, .str act] S) fun d S' => ∃ i : Int, d = .int i ∧ 0 ≤ i ∧ i ≤ lim act ∧ Bs S b S' := by
  unfold m__law_bound
  rw [x__law_bound]
  unfold t__law_bound_2
  unfold deeds at ha
  simp only [List.mem_cons, List.not_mem_nil, or_false] at ha
  have eqs : ∀ x y : Str, eqD (.str x) (.str y) = some (.bl (decide (x = y))) := fun x y => rfl
  rcases ha with rfl | rfl | rfl | rfl | rfl
  · unfold t__law_bound_4 t__law_bound_6 t__law_bound_8
    have e1 : ¬ ("let" : Str) = "cut" := by decide
    have e2 : ¬ ("let" : Str) = "each" := by decide
    have e3 : ¬ ("let" : Str) = "hundredths" := by decide
    simp [eqs, e1, e2, e3]
    exact ⟨by decide, Bs.refl hB⟩
  · simp [eqs]
    refine (take_ok hB (by decide)).mono ?_
    rintro _ S1 ⟨⟨i1, rfl, a1, b1⟩, s1⟩
    have B1 := s1.bx hB.lt
    try simp
    refine (take_ok B1 (by decide)).mono ?_
    rintro _ S2 ⟨⟨i2, rfl, a2, b2⟩, s2⟩
    have B2 := s2.bx B1.lt
    try simp
    refine (take_ok B2 (by decide)).mono ?_
    rintro _ S3 ⟨⟨i3, rfl, a3, b3⟩, s3⟩
    obtain ⟨_, ek, k, rfl, k1, k2⟩ := pick_ok (l := [.int 0, .int (1 + i1), .int 1000000000000, .int i2]) (P := fun d => ∃ z : Int, d = .int z ∧ 0 ≤ z ∧ z ≤ 1000000000000) a3 (by simpa using b3) (by simp; omega)
    simp [ek]
    exact ⟨k1, k2, (s1.trans s2).trans s3⟩
  · unfold t__law_bound_4
    have e1 : ¬ ("each" : Str) = "cut" := by decide
    simp [eqs, e1]
    refine (take_ok hB (by decide)).mono ?_
    rintro _ S1 ⟨⟨i1, rfl, a1, b1⟩, s1⟩
    have B1 := s1.bx hB.lt
    try simp
    refine (take_ok B1 (by decide)).mono ?_
    rintro _ S2 ⟨⟨i2, rfl, a2, b2⟩, s2⟩
    obtain ⟨_, ek, k, rfl, k1, k2⟩ := pick_ok (l := [.int 0, .int 1, .int 2, .int 1000, .int i1]) (P := fun d => ∃ z : Int, d = .int z ∧ 0 ≤ z ∧ z ≤ 1000) a2 (by simpa using b2) (by simp; omega)
    simp [ek]
    exact ⟨k1, k2, s1.trans s2⟩
  · unfold t__law_bound_4 t__law_bound_6
    have e1 : ¬ ("hundredths" : Str) = "cut" := by decide
    have e2 : ¬ ("hundredths" : Str) = "each" := by decide
    simp [eqs, e1, e2]
    refine (take_ok hB (by decide)).mono ?_
    rintro _ S1 ⟨⟨i1, rfl, a1, b1⟩, s1⟩
    have B1 := s1.bx hB.lt
    try simp
    refine (take_ok B1 (by decide)).mono ?_
    rintro _ S2 ⟨⟨i2, rfl, a2, b2⟩, s2⟩
    obtain ⟨_, ek, k, rfl, k1, k2⟩ := pick_ok (l := [.int 0, .int 1, .int 50, .int 99, .int 100, .int i1]) (P := fun d => ∃ z : Int, d = .int z ∧ 0 ≤ z ∧ z ≤ 100) a2 (by simpa using b2) (by simp; omega)
    simp [ek]
    exact ⟨k1, k2, s1.trans s2⟩
  · unfold t__law_bound_4 t__law_bound_6 t__law_bound_8
    have e1 : ¬ ("refuse" : Str) = "cut" := by decide
    have e2 : ¬ ("refuse" : Str) = "each" := by decide
    have e3 : ¬ ("refuse" : Str) = "hundredths" := by decide
    simp [eqs, e1, e2, e3]
    exact ⟨by decide, Bs.refl hB⟩
theorem ruled_ok {b : Nat} {title : Str} (hB : Bx S b) (hn : nameOk title = true) : W (m__law_ruled [.ref b, .str title] S) fun d S' => ∃ r : Ru, r.ok ∧ r.name = title ∧ d = .tup r.ds ∧ Bs S b S' := by
  unfold m__law_ruled
  rw [x__law_ruled]
  try simp
  refine (take_ok hB (by decide)).mono ?_
  rintro _ S1 ⟨⟨i1, rfl, a1, b1⟩, s1⟩
  have B1 := s1.bx hB.lt
  obtain ⟨_, ek, act, hact, rfl⟩ := pick_ok (l := [.str "let", .str "cut", .str "each", .str "hundredths", .str "refuse"]) (P := fun d => ∃ z ∈ deeds, d = .str z) a1 (by simpa using b1) (by simp [deeds])
  simp [ek]
  unfold t__law_ruled_2
  try simp
  refine (lbound_ok B1 hact).mono ?_
  rintro _ S2 ⟨bd, rfl, bd0, bd1, s2⟩
  have B2 := s2.bx B1.lt
  unfold t__law_ruled_3
  try simp
  refine (take_ok (n := 6) B2 (by decide)).mono ?_
  rintro _ S3 ⟨⟨i3, rfl, a3, b3⟩, s3⟩
  have B3 := s3.bx B2.lt
  try simp
  refine (take_ok (n := 3) B3 (by decide)).mono ?_
  rintro _ S4 ⟨⟨i4, rfl, a4, b4⟩, s4⟩
  have B4 := s4.bx B3.lt
  have bi : ∀ c : Bool, bInt [.bl c] = some (.int (if c then 1 else 0)) := fun c => by cases c <;> rfl
  obtain ⟨m, hm, hm0, hm1⟩ : ∃ m : Int, i3 * (if 0 < i4 then 1 else 0) = m ∧ 0 ≤ m ∧ m < 6 := by
    refine ⟨_, rfl, ?_, ?_⟩ <;> split <;> simp <;> omega
  have mo : mulOk i3 (if 0 < i4 then 1 else 0) = true := mulOk_lt (n := 4) (m := 2) (by omega) (by split <;> decide) (by decide)
  simp [bi, mo, hm]
  unfold t__law_ruled_4
  obtain ⟨_, es, kd, hkd, rfl⟩ := pick_ok (l := [.non, .str "bed", .str "fee", .str "meal", .str "ride", .str "sundry"]) (P := fun d => ∃ k : Option Str, (∀ z, k = some z → z ∈ kinds) ∧ d = oS k) hm0 (by simpa using hm1) (by
    intro d hd
    simp at hd
    rcases hd with rfl | rfl | rfl | rfl | rfl | rfl
    · exact ⟨none, by simp, rfl⟩
    all_goals exact ⟨some _, by intro z hz; cases hz; decide, rfl⟩)
  simp [es]
  unfold t__law_ruled_5
  try simp
  refine (take_ok (n := 4) B4 (by decide)).mono ?_
  rintro _ S5 ⟨⟨i5, rfl, a5, b5⟩, s5⟩
  have B5 := s5.bx B4.lt
  try simp
  refine (take_ok (n := 2) B5 (by decide)).mono ?_
  rintro _ S6 ⟨⟨i6, rfl, a6, b6⟩, s6⟩
  have B6 := s6.bx B5.lt
  obtain ⟨_, et, tw, htw, rfl⟩ := pick_ok (l := [.non, .int i5]) (P := fun d => ∃ k : Option Int, (∀ z, k = some z → 0 ≤ z ∧ z ≤ 3) ∧ d = oI k) a6 (by simpa using b6) (by
    intro d hd
    simp at hd
    rcases hd with rfl | rfl
    · exact ⟨none, by simp, rfl⟩
    · exact ⟨some i5, by intro z hz; cases hz; omega, rfl⟩)
  simp [et]
  unfold t__law_ruled_6
  try simp
  refine (take_ok (n := 60) B6 (by decide)).mono ?_
  rintro _ S7 ⟨⟨i7, rfl, a7, b7⟩, s7⟩
  have B7 := s7.bx B6.lt
  try simp
  refine (take_ok (n := 3) B7 (by decide)).mono ?_
  rintro _ S8 ⟨⟨i8, rfl, a8, b8⟩, s8⟩
  have B8 := s8.bx B7.lt
  obtain ⟨_, ef, fi, rfl, f0, f1⟩ := pick_ok (l := [.int 0, .int 0, .int i7]) (P := fun d => ∃ z : Int, d = .int z ∧ 0 ≤ z ∧ z ≤ 59) a8 (by simpa using b8) (by simp; omega)
  simp [ef]
  unfold t__law_ruled_7
  try simp
  refine (take_ok (n := 60 - fi) B8 (by omega)).mono ?_
  rintro _ S9 ⟨⟨i9, rfl, a9, b9⟩, s9⟩
  have B9 := s9.bx B8.lt
  try simp
  refine (take_ok (n := 3) B9 (by decide)).mono ?_
  rintro _ S10 ⟨⟨i10, rfl, a10, b10⟩, s10⟩
  have B10 := s10.bx B9.lt
  obtain ⟨_, el, la, rfl, l0, l1⟩ := pick_ok (l := [.int 59, .int 59, .int (fi + i9)]) (P := fun d => ∃ z : Int, d = .int z ∧ fi ≤ z ∧ z ≤ 59) a10 (by simpa using b10) (by simp; omega)
  simp [el]
  unfold t__law_ruled_8
  try simp
  refine (take_ok (n := 400) B10 (by decide)).mono ?_
  rintro _ S11 ⟨⟨i11, rfl, a11, b11⟩, s11⟩
  have B11 := s11.bx B10.lt
  try simp
  refine (take_ok (n := 1000000000000) B11 (by decide)).mono ?_
  rintro _ S12 ⟨⟨i12, rfl, a12, b12⟩, s12⟩
  have B12 := s12.bx B11.lt
  try simp
  refine (take_ok (n := 5) B12 (by decide)).mono ?_
  rintro _ S13 ⟨⟨i13, rfl, a13, b13⟩, s13⟩
  have B13 := s13.bx B12.lt
  obtain ⟨_, eo, ov, rfl, o0, o1⟩ := pick_ok (l := [.int 0, .int 0, .int i11, .int 1000000000000, .int i12]) (P := fun d => ∃ z : Int, d = .int z ∧ 0 ≤ z ∧ z ≤ 1000000000000) a13 (by simpa using b13) (by simp; omega)
  simp [eo]
  unfold t__law_ruled_9
  try simp
  refine (take_ok (n := 4) B13 (by decide)).mono ?_
  rintro _ S14 ⟨⟨i14, rfl, a14, b14⟩, s14⟩
  obtain ⟨_, ep, pa, rfl⟩ := pick_ok (l := [.non, .non, .bl true, .bl false]) (P := fun d => ∃ k : Option Bool, d = oB k) a14 (by simpa using b14) (by
    intro d hd
    simp at hd
    rcases hd with rfl | rfl | rfl
    · exact ⟨none, rfl⟩
    · exact ⟨some true, rfl⟩
    · exact ⟨some false, rfl⟩)
  simp [ep]
  unfold t__law_ruled_10
  try simp
  refine ⟨⟨title, act, bd, kd, tw, fi, la, ov, pa⟩, ⟨hn, hact, bd0, bd1, hkd, htw, f0, l0, l1, o0, o1⟩, rfl, rfl, ?_⟩
  exact ((((((((((((s1.trans s2).trans s3).trans s4).trans s5).trans s6).trans s7).trans s8).trans s9).trans s10).trans s11).trans s12).trans s13).trans s14
end Ro
end
section
set_option Elab.async false
set_option linter.all false
set_option maxRecDepth 100000
set_option maxHeartbeats 1000000
namespace Ro
open PySem L2
variable {S : Store} {env : Env}
open Txt TL in
theorem join_nil_cps (ps : List Str) : (Txt.join ("" : Str) ps).cps.toList = (ps.map fun p => p.cps.toList).flatten := by
  rw [join_eq]
  have h := tl_join ("" : Str) ps
  have e : ∀ l : List (List Nat), joinL (tl ("" : Str)) l = l.flatten := by
    intro l
    have e0 : tl ("" : Str) = [] := rfl
    rw [e0]
    induction l with
    | nil => rfl
    | cons p r ih => cases r with
      | nil => simp [joinL]
      | cons q r => simp only [joinL, List.nil_append, ih, List.flatten_cons]
  rw [e] at h
  exact h
/-- texts of one letter -/
def Let1 (d : D) : Prop := ∃ c, c ∈ lets ∧ d = .str ⟨#[c]⟩
theorem join_let : ∀ {l : List D}, (∀ d ∈ l, Let1 d) → ∃ cs : List Nat, cs.length = l.length ∧ (∀ c ∈ cs, c ∈ lets) ∧ dStrs l = some (cs.map fun c => ⟨#[c]⟩)
  | [], _ => ⟨[], rfl, by simp, rfl⟩
  | d :: l, h => by
    obtain ⟨c, hc, rfl⟩ := h d (by simp)
    obtain ⟨cs, h1, h2, h3⟩ := join_let (l := l) (fun x hx => h x (by simp [hx]))
    refine ⟨c :: cs, by simp [h1], ?_, ?_⟩
    · intro x hx
      rcases List.mem_cons.mp hx with rfl | hx
      · exact hc
      · exact h2 x hx
    · rw [dStrs, h3]
      rfl
theorem join_name {l : List D} (h : ∀ d ∈ l, Let1 d) (h1 : 1 ≤ l.length) (h8 : l.length ≤ 8) : ∃ z, joinD (.str "") (.lst l) = some (.str z) ∧ nameOk z = true := by
  obtain ⟨cs, k1, k2, k3⟩ := join_let h
  have hj : joinOk "" (cs.map fun c => (⟨#[c]⟩ : Str)) = true := by
    unfold joinOk
    have e0 : ("" : Str).length = 0 := rfl
    have e : ((cs.map fun c => (⟨#[c]⟩ : Str)).map (·.length)).sum = cs.length := by
      rw [List.map_map]
      have : ∀ cs : List Nat, (cs.map ((fun x : Str => x.length) ∘ fun c => (⟨#[c]⟩ : Str))).sum = cs.length := by
        intro cs
        induction cs with
        | nil => rfl
        | cons c cs ih => simp only [List.map_cons, List.sum_cons, ih, List.length_cons]; show 1 + _ = _; omega
      exact this cs
    rw [e, e0]
    simp
    omega
  refine ⟨Txt.join "" (cs.map fun c => (⟨#[c]⟩ : Str)), ?_, ?_⟩
  · unfold joinD
    simp only [k3, Option.bind_some]
    rw [if_pos hj]
  · have e := join_nil_cps (cs.map fun c => (⟨#[c]⟩ : Str))
    have e2 : ((cs.map fun c => (⟨#[c]⟩ : Str)).map fun p => p.cps.toList).flatten = cs := by
      rw [List.map_map]
      have : ∀ cs : List Nat, (cs.map ((fun p : Str => p.cps.toList) ∘ fun c => (⟨#[c]⟩ : Str))).flatten = cs := by
        intro cs
        induction cs with
        | nil => rfl
        | cons c cs ih => simp only [List.map_cons, List.flatten_cons, ih]; rfl
      exact this cs
    rw [e2] at e
    generalize Txt.join "" (cs.map fun c => (⟨#[c]⟩ : Str)) = z at e
    have hl : z.length = cs.length := by
      have : z.cps.toList.length = z.length := by simp [Str.length]
      rw [← this, e]
    unfold nameOk
    rw [e, hl]
    simp only [Bool.and_eq_true, decide_eq_true_eq, List.all_eq_true]
    exact ⟨⟨by omega, by omega⟩, fun c hc => k2 c hc⟩
theorem let_at {i : Int} (h0 : 0 ≤ i) (h1 : i < 26) : ∃ d, (∀ S : Store, idxB (.str "abcdefghijklmnopqrstuvwxyz") (.int i) S = some d) ∧ Let1 d := by
  have hl : i.toNat < lets.length := by have : lets.length = 26 := by decide +kernel
                                        omega
  have e : (i.toNat : Int) = i := Int.toNat_of_nonneg h0
  refine ⟨.str ⟨#[lets[i.toNat]]⟩, fun S => ?_, _, List.getElem_mem hl, rfl⟩
  have e2 : atP lets i = some lets[i.toNat] := by
    have := ix_nn _ _ hl
    rw [e] at this
    unfold atP
    rw [this]
    simp [hl]
  show (if ("abcdefghijklmnopqrstuvwxyz" : Str).length ≤ LINE then (atP lets i).map fun c => D.str ⟨#[c]⟩ else none) = _
  rw [if_pos (by decide +kernel), e2]
  rfl
theorem lname_ok {b : Nat} (hB : Bx S b) : W (m__law_name [.ref b] S) fun d S' => ∃ z : Str, d = .str z ∧ nameOk z = true ∧ Bs S b S' := by
  unfold m__law_name
  rw [x__law_name]
  simp
  unfold t__law_name_2
  simp
  refine (take_ok (n := 8) hB (by decide)).mono ?_
  rintro _ S1 ⟨⟨i1, rfl, a1, b1⟩, s1⟩
  have B1 := s1.bx hB.lt
  try simp
  refine (take_ok (n := 3) B1 (by decide)).mono ?_
  rintro _ S2 ⟨⟨i2, rfl, a2, b2⟩, s2⟩
  have B2 := s2.bx B1.lt
  obtain ⟨_, ek, k, rfl, k0, k1⟩ := pick_ok (l := [.int 1, .int 8, .int (1 + i1)]) (P := fun d => ∃ z : Int, d = .int z ∧ 1 ≤ z ∧ z ≤ 8) a2 (by simpa using b2) (by simp; omega)
  simp [ek]
  unfold t__law_name_3
  have hs : -4611686018427387904 ≤ k ∧ k < 4611686018427387904 := by omega
  have uj : ∀ (f : EX) (env : Env) (S : Store), eJoin (eC (.str "")) f env S = (f env S).bnd fun y S2 => lift (joinD (.str "") y) S2 := fun _ _ _ => rfl
  simp [uj, hs]
  refine W.lc (I := fun i acc S' => acc.length = i ∧ (∀ d ∈ acc, Let1 d) ∧ Bs S2 b S') (k := 0) ⟨rfl, by simp, Bs.refl B2⟩ (by simp; omega) (fun i x acc S3 hi hx hI => ?_) (fun acc S3 hI => ?_)
  · obtain ⟨rfl, h2, s3⟩ := hI
    have B3 := s3.bx B2.lt
    refine ⟨_, rfl, ?_⟩
    simp [wipeE]
    refine (take_ok (n := 26) B3 (by decide)).mono ?_
    rintro _ S4 ⟨⟨i4, rfl, a4, b4⟩, s4⟩
    obtain ⟨d, hd, hL⟩ := let_at a4 b4
    simp [hd]
    refine ⟨?_, s3.trans s4⟩
    intro y hy
    rcases hy with hy | rfl
    · exact h2 y hy
    · exact hL
  · obtain ⟨h1, h2, s3⟩ := hI
    simp at h1
    obtain ⟨z, hz, hn⟩ := join_name h2 (by omega) (by omega)
    simp [hz]
    exact ⟨hn, (s1.trans s2).trans s3⟩
end Ro
end
section
set_option Elab.async false
set_option linter.all false
set_option maxRecDepth 100000
set_option maxHeartbeats 1000000
namespace Ro
open PySem
variable {S : Store}
/-- a small plain part -/
structure SmA (d : D) : Prop where
  pl : plN 3 d = true
  sh : (toPy d).showable = true
  ln : (toPy d).shown.length ≤ 1000
/-- .. that may hold dicts -/
structure SmQ (d : D) : Prop where
  pl : plQ 2 d = true
  sh : (toPx d).showable = true
  ln : (toPx d).shown.length ≤ 1000
  dp : (toPx d).depth ≤ 3
theorem int_sm {i : Int} (h : i.natAbs < 10 ^ 100) : (PyData.int i).showable = true ∧ (PyData.shown (.int i)).length ≤ 101 := by
  refine ⟨?_, ?_⟩
  · simp only [PyData.showable, decide_eq_true_eq]
    by_cases c : i.natAbs = 0
    · rw [c]; decide
    · have := (Nat.log2_lt (n := i.natAbs) (k := 400) c).mpr (by
        have : (10 : Nat) ^ 100 < 2 ^ 400 := by decide
        omega)
      omega
  · show (Str.ofString (toString i)).length ≤ _
    rw [ofString_length]
    exact int_text_length_le10 (by decide) h
theorem smA_int {i : Int} (h : i.natAbs < 10 ^ 100) : SmA (.int i) := ⟨rfl, (int_sm h).1, Nat.le_trans (int_sm h).2 (by decide)⟩
theorem smA_bl (b : Bool) : SmA (.bl b) := ⟨rfl, rfl, by cases b <;> decide +kernel⟩
theorem smA_kind {z : Str} (h : z ∈ kinds) : SmA (.str z) := ⟨rfl, rfl, Nat.le_trans (kinds_sh h).2 (by decide)⟩
theorem pl_mono : ∀ {n m : Nat} {d : D}, n ≤ m → plN n d = true → plN m d = true
  | _, _, .non, _, _ => by simp
  | _, _, .bl _, _, _ => by simp
  | _, _, .int _, _, _ => by simp
  | _, _, .str _, _, _ => by simp
  | 0, _, .tup l, _, h => by simp [plN] at h
  | 0, _, .lst l, _, h => by simp [plN] at h
  | n + 1, 0, _, h, _ => by omega
  | n + 1, m + 1, .tup l, h, k => by
    have k' : ∀ x ∈ l, plN n x = true := by simpa using k
    show l.all (plN m) = true
    rw [List.all_eq_true]
    intro x hx
    exact pl_mono (by omega) (k' x hx)
  | n + 1, m + 1, .lst l, h, k => by
    have k' : ∀ x ∈ l, plN n x = true := by simpa using k
    show l.all (plN m) = true
    rw [List.all_eq_true]
    intro x hx
    exact pl_mono (by omega) (k' x hx)
  | n, _, .scr _, _, h => by simp [plN] at h
  | n, _, .dct _, _, h => by simp [plN] at h
  | n, _, .obj _ _, _, h => by simp [plN] at h
  | n, _, .ref _, _, h => by simp [plN] at h
  | n, _, .fn _, _, h => by simp [plN] at h
  | n, _, .thk _ _, _, h => by simp [plN] at h
/-- there is a repr -/
def Shw (d : D) : Prop := ∃ s, bReprX [d] = some (.str s)
theorem shw_ok {d : D} (h : reprOk d = true) : Shw d := ⟨_, by show (if reprOk d = true then _ else _) = _; rw [if_pos h]⟩
theorem shw_okX {d : D} (h : reprOkX d = true) : Shw d := by
  by_cases k : reprOk d = true
  · exact shw_ok k
  · exact ⟨_, by show (if reprOk d = true then _ else if reprOkX d = true then _ else _) = _; rw [if_neg k, if_pos h]⟩
end Ro
end
section
set_option Elab.async false
set_option linter.all false
set_option maxRecDepth 100000
set_option maxHeartbeats 1000000
namespace Ro
open PySem
variable {S : Store} {env : Env}
/-- what odd things are: a small plain part, or one that holds a dict -/
structure Odd (d : D) : Prop where
  k : okD d = true
  t : ∀ l, d = .tup l → ∀ x ∈ l, okD x = true
  s : SmA d ∨ SmQ d
  w : Shw d
  n : ∀ l, d = .tup l → l.length ≤ 1
theorem lodd_ok {b : Nat} (hB : Bx S b) : W (m__law_odd [.ref b] S) fun d S' => Odd d ∧ Bs S b S' := by
  unfold m__law_odd
  rw [x__law_odd]
  simp
  unfold t__law_odd_2
  have e0 : addD (.lst [.non, .bl true, .bl false, .int 0, .int (-1), .int 7, .int 60, .int 1000001, .int 100000000000000000000000000000, .str "", .str "meal", .str "Meal", .str "let", .tup [], .lst [], .dct [], .tup [.int 0], .lst [.int 0]]) (.lst [.tup [.str "meal"], dctC [(.inl 0, .int 1)]])
    = some (.lst [.non, .bl true, .bl false, .int 0, .int (-1), .int 7, .int 60, .int 1000001, .int 100000000000000000000000000000, .str "", .str "meal", .str "Meal", .str "let", .tup [], .lst [], .dct [], .tup [.int 0], .lst [.int 0], .tup [.str "meal"], dctC [(.inl 0, .int 1)]]) := rfl
  simp [e0]
  refine (take_ok (n := 20) hB (by decide)).mono ?_
  rintro _ S1 ⟨⟨i1, rfl, a1, b1⟩, s1⟩
  have at_ : ∀ {d : D}, (∀ l, d ≠ .tup l) → okD d = true → SmA d → Shw d → Odd d := fun hn hk hs hw => ⟨hk, fun l e => absurd e (hn l), .inl hs, hw, fun l e => absurd e (hn l)⟩
  have aint : ∀ i : Int, i.natAbs < 10 ^ 100 → Odd (.int i) := fun i hi => at_ (by intro l e; cases e) rfl (smA_int hi) (shw_ok (by
    have := smA_int hi
    have h := int_sm hi
    unfold reprOk
    have e1 : plD (.int i) = true := rfl
    have e2 : (toPy (.int i)).showable = true := h.1
    have e3 : (toPy (.int i)).shown.length ≤ LINE := Nat.le_trans h.2 (by decide)
    simp only [e1, e2, e3, decide_true, Bool.and_self]))
  have astr : ∀ z : Str, z.length ≤ 100 → (PyData.shown (.str z)).length ≤ 1000 → Odd (.str z) := fun z hz hl => at_ (by intro l e; cases e) (okD_str (by omega)) ⟨rfl, rfl, hl⟩ (shw_ok (by
    unfold reprOk
    have e1 : plD (.str z) = true := rfl
    have e2 : (toPy (.str z)).showable = true := rfl
    have e3 : (toPy (.str z)).shown.length ≤ LINE := Nat.le_trans hl (by decide)
    simp only [e1, e2, e3, decide_true, Bool.and_self]))
  have ex : ∃ d, atP [.non, .bl true, .bl false, .int 0, .int (-1), .int 7, .int 60, .int 1000001, .int 100000000000000000000000000000, .str "", .str "meal", .str "Meal", .str "let", .tup [], .lst [], .dct [], .tup [.int 0], .lst [.int 0], .tup [.str "meal"], dctC [(.inl 0, .int 1)]] i1 = some d ∧ Odd d := by
    refine pick_ok a1 (by simpa using b1) ?_
    intro d hd
    simp only [List.mem_cons, List.not_mem_nil, or_false] at hd
    rcases hd with rfl | rfl | rfl | rfl | rfl | rfl | rfl | rfl | rfl | rfl | rfl | rfl | rfl | rfl | rfl | rfl | rfl | rfl | rfl | rfl
    · exact at_ (by intro l e; cases e) rfl ⟨rfl, rfl, by decide +kernel⟩ (shw_ok (by decide +kernel))
    · exact at_ (by intro l e; cases e) rfl (smA_bl _) (shw_ok (by decide +kernel))
    · exact at_ (by intro l e; cases e) rfl (smA_bl _) (shw_ok (by decide +kernel))
    · exact aint _ (by decide)
    · exact aint _ (by decide)
    · exact aint _ (by decide)
    · exact aint _ (by decide)
    · exact aint _ (by decide)
    · exact aint _ (by decide)
    · exact astr _ (by decide) (by decide +kernel)
    · exact astr _ (by decide) (by decide +kernel)
    · exact astr _ (by decide) (by decide +kernel)
    · exact astr _ (by decide) (by decide +kernel)
    · exact ⟨rfl, fun l e => (by cases e; simp), .inl ⟨rfl, rfl, by decide +kernel⟩, shw_ok (by decide +kernel), fun l e => (by cases e; simp)⟩
    · exact at_ (by intro l e; cases e) rfl ⟨rfl, rfl, by decide +kernel⟩ (shw_ok (by decide +kernel))
    · exact ⟨rfl, fun l e => (by cases e), .inr ⟨rfl, rfl, by decide +kernel, by decide +kernel⟩, shw_okX (by decide +kernel), fun l e => (by cases e)⟩
    · exact ⟨rfl, fun l e => (by cases e; simp [okD]), .inl ⟨rfl, rfl, by decide +kernel⟩, shw_ok (by decide +kernel), fun l e => (by cases e; simp)⟩
    · exact at_ (by intro l e; cases e) rfl ⟨rfl, rfl, by decide +kernel⟩ (shw_ok (by decide +kernel))
    · exact ⟨rfl, fun l e => (by cases e; simp [okD]; decide), .inl ⟨rfl, rfl, by decide +kernel⟩, shw_ok (by decide +kernel), fun l e => (by cases e; simp)⟩
    · exact ⟨rfl, fun l e => (by cases e), .inr ⟨rfl, rfl, by decide +kernel, by decide +kernel⟩, shw_okX (by decide +kernel), fun l e => (by cases e)⟩
  obtain ⟨d, hd, ho⟩ := ex
  simp [hd]
  exact ⟨ho, s1⟩
end Ro
end
section
set_option Elab.async false
set_option linter.all false
set_option maxRecDepth 100000
set_option maxHeartbeats 1000000
namespace Ro
open PySem
variable {S : Store} {env : Env}
theorem smA_ok {d : D} (h : SmA d) : reprOk d = true := by
  have hp : plD d = true := pl_mono (by decide) h.pl
  have hn : (toPy d).shown.length ≤ LINE := Nat.le_trans h.ln (by decide)
  unfold reprOk
  simp only [hp, h.sh, hn, decide_true, Bool.and_self]
theorem smA_rep {d : D} (h : SmA d) : bReprX [d] = some (.str (toPy d).shown) := by
  show (if reprOk d = true then _ else _) = _
  rw [if_pos (smA_ok h)]
def strsD (l : List Str) : D := .lst (l.map D.str)
theorem cat_strs {l m : List Str} (h : l.length + m.length ≤ 100) : addD (strsD l) (strsD m) = some (strsD (l ++ m)) := by
  unfold strsD
  show (if (l.map D.str).length + (m.map D.str).length ≤ LINE then some (D.lst (l.map D.str ++ m.map D.str)) else none) = _
  rw [if_pos (by simp; omega), List.map_append]
theorem dStrs_map (l : List Str) : dStrs (l.map D.str) = some l := by
  induction l with
  | nil => rfl
  | cons x l ih => rw [List.map_cons, dStrs, ih]; rfl
theorem sum_le {l : List Str} {n : Nat} (h : ∀ z ∈ l, z.length ≤ n) : (l.map (·.length)).sum ≤ l.length * n := by
  induction l with
  | nil => simp
  | cons x l ih =>
    have h1 := h x (by simp)
    have h2 := ih fun z hz => h z (by simp [hz])
    simp only [List.map_cons, List.sum_cons, List.length_cons, Nat.add_mul]
    omega
def ti (i : Int) : Str := Str.ofString (toString i)
def C (s : Str) : List Nat := s.cps.toList
theorem C_app (a b : Str) : C (a ++ b) = C a ++ C b := by
  show (a.cps ++ b.cps).toList = _
  simp [C]
theorem C_inj {a b : Str} (h : C a = C b) : a = b := by
  cases a; cases b
  unfold C at h
  simp at h
  rw [h]
theorem ti_inj {i j : Int} (hi : 0 ≤ i) (hj : 0 ≤ j) (h : ti i = ti j) : i = j := by
  obtain ⟨m, rfl⟩ := Int.eq_ofNat_of_zero_le hi
  obtain ⟨n, rfl⟩ := Int.eq_ofNat_of_zero_le hj
  have h2 : C (ti (m : Int)) = C (ti (n : Int)) := by rw [h]
  unfold C ti at h2
  rw [PySem.W.KIN.signs_num, PySem.W.KIN.signs_num] at h2
  have := congrArg NumText.digitsVal h2
  rw [PySem.W.KIN.val_back, PySem.W.KIN.val_back] at this
  rw [this]
open Txt TL in
theorem join_C (x : Str) (l : List Str) : C (Txt.join ", " (x :: l)) = C x ++ (l.map fun w => C ", " ++ C w).flatten := by
  rw [join_eq]
  have h := tl_join (", " : Str) (x :: l)
  have e : ∀ (y : List Nat) (r : List (List Nat)), joinL (tl (", " : Str)) (y :: r) = y ++ (r.map fun w => C ", " ++ w).flatten := by
    intro y r
    induction r generalizing y with
    | nil => simp [joinL]
    | cons q r ih =>
      simp only [joinL, ih, List.map_cons, List.flatten_cons]
      have : tl (", " : Str) = C ", " := rfl
      rw [this]
      simp
  rw [List.map_cons, e] at h
  have h2 : C (Str.join ", " (x :: l)) = C x ++ ((l.map fun p => C p).map fun w => C ", " ++ w).flatten := h
  rw [h2, List.map_map]
  rfl
open Txt TL in
theorem join_ok {l : List Str} (h : ∀ z ∈ l, z.length ≤ 1100) (h0 : l.length ≤ 20) : joinD (.str ", ") (strsD l) = some (.str (Txt.join ", " l)) ∧ (Txt.join ", " l).length ≤ 30000 := by
  have hs := sum_le h
  have h1 : l.length * 1100 ≤ 20 * 1100 := Nat.mul_le_mul_right _ h0
  have e2 : (", " : Str).length = 2 := rfl
  have hj : joinOk ", " l = true := by
    unfold joinOk
    rw [e2]
    simp
    omega
  refine ⟨?_, ?_⟩
  · unfold joinD strsD
    dsimp only
    rw [dStrs_map]
    simp only [Option.bind_some]
    rw [if_pos hj]
  · rw [join_eq]
    cases l with
    | nil => exact Nat.zero_le _
    | cons x r =>
      have e := join_length_add (x :: r) (by simp)
      have hp : ∀ l : List Str, piled l = (l.map (·.length)).sum + 2 * l.length := by
        intro l
        induction l with
        | nil => rfl
        | cons x l ih => rw [piled_cons, ih]; simp only [List.map_cons, List.sum_cons, List.length_cons]; omega
      rw [hp] at e
      omega
end Ro
end
section
set_option Elab.async false
set_option linter.all false
set_option maxRecDepth 100000
set_option maxHeartbeats 1000000
namespace Ro
open PySem
variable {S : Store} {env : Env}
theorem name_sm {z : Str} (h : nameOk z = true) : SmA (.str z) := by
  have hl := nameOk_len h
  refine ⟨rfl, rfl, ?_⟩
  have hc : ∀ c ∈ z.cps.toList, c < 16 ^ 8 := by
    unfold nameOk at h
    simp only [Bool.and_eq_true, decide_eq_true_eq, List.all_eq_true] at h
    intro c hc
    have := h.2 c hc
    have hh : ∀ c ∈ lets, c < 16 ^ 8 := by decide +kernel
    exact hh c this
  have := StrLaws.reprText_len z hc
  show (reprText z).length ≤ 1000
  omega
theorem deed_sm {z : Str} (h : z ∈ deeds) : SmA (.str z) := by
  refine ⟨rfl, rfl, ?_⟩
  unfold deeds at h
  simp at h
  rcases h with rfl | rfl | rfl | rfl | rfl <;> decide +kernel
theorem oS_sm {o : Option Str} (h : ∀ z, o = some z → z ∈ kinds) : SmA (oS o) := by
  cases z : o with
  | none => exact ⟨rfl, rfl, by decide +kernel⟩
  | some k => exact smA_kind (h k z)
theorem oI_sm {o : Option Int} (h : ∀ z, o = some z → 0 ≤ z ∧ z ≤ 3) : SmA (oI o) := by
  have e : (10 : Nat) ^ 100 > 10000000000000 := by decide
  cases z : o with
  | none => exact ⟨rfl, rfl, by decide +kernel⟩
  | some k => exact smA_int (by have := h k z; omega)
theorem oB_sm {o : Option Bool} : SmA (oB o) := by
  cases o with
  | none => exact ⟨rfl, rfl, by decide +kernel⟩
  | some k => exact smA_bl k
def sh (d : D) : Str := (toPy d).shown
def wD (nm : Str) (d pl : D) : List Str := if pyEq d pl then [] else [nm ++ "=" ++ sh d]
def wds (r : Ru) : List Str := [sh (.str r.name)] ++ wD "deed" (.str r.deed) (.str "let") ++ wD "bound" (.int r.bound) (.int 0) ++ wD "kind" (oS r.kind) .non ++ wD "town" (oI r.town) .non ++ wD "first" (.int r.first) (.int 0) ++ wD "last" (.int r.last) (.int 59) ++ wD "over" (.int r.over) (.int 0) ++ wD "paper" (oB r.paper) .non
def rtx (r : Ru) : Str := ("Rule(" : Str) ++ Txt.join ", " (wds r) ++ ")"
theorem add_s {a b : Str} (h : a.length + b.length ≤ 100000) : addD (.str a) (.str b) = some (.str (a ++ b)) := by
  show (if _ then _ else _) = _
  rw [if_pos (by simp; omega)]
theorem eqD_of {d pl : D} (h : SmA d) (hp : plD pl = true) : eqD d pl = some (.bl (pyEq d pl)) ∧ neD d pl = some (.bl (!pyEq d pl)) := by
  have hd : plD d = true := pl_mono (by decide) h.pl
  unfold eqD neD
  rw [hd, hp]
  exact ⟨rfl, rfl⟩
theorem optD_ok {nm : Str} {d pl : D} (hn : nm.length ≤ 10) (h : SmA d) (hp : plD pl = true) : m_option [.str nm, d, pl] S = .ok (strsD (wD nm d pl)) S := by
  have he := (eqD_of h hp).1
  have hr := smA_rep h
  have hln := h.ln
  have e1 : ("=" : Str).length = 1 := rfl
  have a1 := add_s (a := nm) (b := "=") (by rw [e1]; omega)
  have l1 : (nm ++ "=" : Str).length ≤ 11 := by rw [PySem.strLen_append]; omega
  have a2 := add_s (a := nm ++ "=") (b := (toPy d).shown) (by omega)
  unfold m_option b_option wD sh
  generalize (toPy d).shown = t at hr a2 ⊢
  cases z : pyEq d pl with
  | true => simp [he, z, strsD]
  | false => simp [he, z, hr, a1, a2, strsD]
theorem wD_len {nm : Str} {d pl : D} (hn : nm.length ≤ 10) (h : SmA d) : (wD nm d pl).length ≤ 1 ∧ ∀ z ∈ wD nm d pl, z.length ≤ 1100 := by
  have hln := h.ln
  have e1 : ("=" : Str).length = 1 := rfl
  unfold wD
  split
  · simp
  · refine ⟨by simp, fun z hz => ?_⟩
    rw [List.mem_singleton.mp hz, PySem.strLen_append, PySem.strLen_append]
    unfold sh
    omega
theorem big_i {i : Int} (h0 : 0 ≤ i) (h1 : i ≤ 1000000000000) : i.natAbs < 10 ^ 100 := by
  have : (10 : Nat) ^ 100 > 1000000000000 := by decide
  omega
structure Sms (r : Ru) : Prop where
  n : SmA (.str r.name)
  d : SmA (.str r.deed)
  b : SmA (.int r.bound)
  k : SmA (oS r.kind)
  t : SmA (oI r.town)
  f : SmA (.int r.first)
  l : SmA (.int r.last)
  o : SmA (.int r.over)
  p : SmA (oB r.paper)
theorem sms {r : Ru} (hr : r.ok) : Sms r := by
  have b1 := hr.b0; have b2 := hr.b1; have b3 := @lim_bd r.deed
  have f0 := hr.f0; have fl := hr.fl; have k1 := hr.l1; have o0 := hr.o0; have o1 := hr.o1
  exact ⟨name_sm hr.name, deed_sm hr.deed, smA_int (big_i (by omega) (by omega)), oS_sm hr.kind, oI_sm hr.town, smA_int (big_i (by omega) (by omega)), smA_int (big_i (by omega) (by omega)), smA_int (big_i (by omega) (by omega)), oB_sm⟩
theorem repr_ok {r : Ru} (hr : r.ok) : m_Rule_repr [r.obj] S = .ok (.str (rtx r)) S := by
  have M := sms hr
  have hn := smA_rep M.n
  have hnl := M.n.ln
  have q1 := fun S => optD_ok (S := S) (nm := "deed") (pl := .str "let") (by decide) M.d rfl
  have q2 := fun S => optD_ok (S := S) (nm := "bound") (pl := .int 0) (by decide) M.b rfl
  have q3 := fun S => optD_ok (S := S) (nm := "kind") (pl := .non) (by decide) M.k rfl
  have q4 := fun S => optD_ok (S := S) (nm := "town") (pl := .non) (by decide) M.t rfl
  have q5 := fun S => optD_ok (S := S) (nm := "first") (pl := .int 0) (by decide) M.f rfl
  have q6 := fun S => optD_ok (S := S) (nm := "last") (pl := .int 59) (by decide) M.l rfl
  have q7 := fun S => optD_ok (S := S) (nm := "over") (pl := .int 0) (by decide) M.o rfl
  have q8 := fun S => optD_ok (S := S) (nm := "paper") (pl := .non) (by decide) M.p rfl
  obtain ⟨n1, s1⟩ := wD_len (nm := "deed") (pl := .str "let") (by decide) M.d
  obtain ⟨n2, s2⟩ := wD_len (nm := "bound") (pl := .int 0) (by decide) M.b
  obtain ⟨n3, s3⟩ := wD_len (nm := "kind") (pl := .non) (by decide) M.k
  obtain ⟨n4, s4⟩ := wD_len (nm := "town") (pl := .non) (by decide) M.t
  obtain ⟨n5, s5⟩ := wD_len (nm := "first") (pl := .int 0) (by decide) M.f
  obtain ⟨n6, s6⟩ := wD_len (nm := "last") (pl := .int 59) (by decide) M.l
  obtain ⟨n7, s7⟩ := wD_len (nm := "over") (pl := .int 0) (by decide) M.o
  obtain ⟨n8, s8⟩ := wD_len (nm := "paper") (pl := .non) (by decide) M.p
  unfold rtx wds
  have hsh : sh (.str r.name) = (toPy (.str r.name)).shown := rfl
  rw [hsh]
  generalize (toPy (.str r.name)).shown = t at hn hnl ⊢
  generalize wD "deed" (.str r.deed) (.str "let") = l1 at q1 n1 s1 ⊢
  generalize wD "bound" (.int r.bound) (.int 0) = l2 at q2 n2 s2 ⊢
  generalize wD "kind" (oS r.kind) .non = l3 at q3 n3 s3 ⊢
  generalize wD "town" (oI r.town) .non = l4 at q4 n4 s4 ⊢
  generalize wD "first" (.int r.first) (.int 0) = l5 at q5 n5 s5 ⊢
  generalize wD "last" (.int r.last) (.int 59) = l6 at q6 n6 s6 ⊢
  generalize wD "over" (.int r.over) (.int 0) = l7 at q7 n7 s7 ⊢
  generalize wD "paper" (oB r.paper) .non = l8 at q8 n8 s8 ⊢
  have c1 := cat_strs (l := [t]) (m := l1) (by simp; omega)
  have c2 := cat_strs (l := [t] ++ l1) (m := l2) (by simp; omega)
  have c3 := cat_strs (l := [t] ++ l1 ++ l2) (m := l3) (by simp; omega)
  have c4 := cat_strs (l := [t] ++ l1 ++ l2 ++ l3) (m := l4) (by simp; omega)
  have c5 := cat_strs (l := [t] ++ l1 ++ l2 ++ l3 ++ l4) (m := l5) (by simp; omega)
  have c6 := cat_strs (l := [t] ++ l1 ++ l2 ++ l3 ++ l4 ++ l5) (m := l6) (by simp; omega)
  have c7 := cat_strs (l := [t] ++ l1 ++ l2 ++ l3 ++ l4 ++ l5 ++ l6) (m := l7) (by simp; omega)
  have c8 := cat_strs (l := [t] ++ l1 ++ l2 ++ l3 ++ l4 ++ l5 ++ l6 ++ l7) (m := l8) (by simp; omega)
  have hs : ∀ z ∈ [t] ++ l1 ++ l2 ++ l3 ++ l4 ++ l5 ++ l6 ++ l7 ++ l8, z.length ≤ 1100 := by
    intro z hz
    simp only [List.mem_append, List.mem_singleton] at hz
    rcases hz with (((((((rfl | h) | h) | h) | h) | h) | h) | h) | h
    · omega
    · exact s1 z h
    · exact s2 z h
    · exact s3 z h
    · exact s4 z h
    · exact s5 z h
    · exact s6 z h
    · exact s7 z h
    · exact s8 z h
  obtain ⟨hu, hul⟩ := join_ok hs (by simp; omega)
  generalize hU : Txt.join ", " ([t] ++ l1 ++ l2 ++ l3 ++ l4 ++ l5 ++ l6 ++ l7 ++ l8) = u at hu hul ⊢
  have g1 : ∀ S : Store, attrD cf ["Rule"] "name" r.obj S = some (.str r.name) := fun _ => rfl
  have g2 : ∀ S : Store, attrD cf ["Rule"] "deed" r.obj S = some (.str r.deed) := fun _ => rfl
  have g3 : ∀ S : Store, attrD cf ["Rule"] "bound" r.obj S = some (.int r.bound) := fun _ => rfl
  have g4 : ∀ S : Store, attrD cf ["Rule"] "kind" r.obj S = some (oS r.kind) := fun _ => rfl
  have g5 : ∀ S : Store, attrD cf ["Rule"] "town" r.obj S = some (oI r.town) := fun _ => rfl
  have g6 : ∀ S : Store, attrD cf ["Rule"] "first" r.obj S = some (.int r.first) := fun _ => rfl
  have g7 : ∀ S : Store, attrD cf ["Rule"] "last" r.obj S = some (.int r.last) := fun _ => rfl
  have g8 : ∀ S : Store, attrD cf ["Rule"] "over" r.obj S = some (.int r.over) := fun _ => rfl
  have g9 : ∀ S : Store, attrD cf ["Rule"] "paper" r.obj S = some (oB r.paper) := fun _ => rfl
  clear hU
  unfold m_Rule_repr
  rw [u_fnM, x_Rule_repr]
  generalize [t] ++ l1 = W1 at c1 c2 c3 c4 c5 c6 c7 c8 hu
  generalize W1 ++ l2 = W2 at c2 c3 c4 c5 c6 c7 c8 hu
  generalize W2 ++ l3 = W3 at c3 c4 c5 c6 c7 c8 hu
  generalize W3 ++ l4 = W4 at c4 c5 c6 c7 c8 hu
  generalize W4 ++ l5 = W5 at c5 c6 c7 c8 hu
  generalize W5 ++ l6 = W6 at c6 c7 c8 hu
  generalize W6 ++ l7 = W7 at c7 c8 hu
  generalize W7 ++ l8 = W8 at c8 hu
  have w0 : strsD [t] = D.lst [.str t] := rfl
  rw [w0] at c1
  simp [g1, g2, g3, hn, q1, q2, c1, c2]
  unfold t_Rule_repr_2
  simp [g4, g5, q3, q4, c3, c4]
  unfold t_Rule_repr_3
  simp [g6, g7, q5, q6, c5, c6]
  unfold t_Rule_repr_4
  simp [g8, g9, q7, q8, c7, c8]
  unfold t_Rule_repr_5
  have uj : ∀ (f : EX) (env : Env) (S : Store), eJoin (eC (.str ", ")) f env S = (f env S).bnd fun y S2 => lift (joinD (.str ", ") y) S2 := fun _ _ _ => rfl
  simp [uj, hu]
  unfold t_Rule_repr_6
  have r1 : ("Rule(" : Str).length = 5 := rfl
  have r2 : (")" : Str).length = 1 := rfl
  have r0 : (Str.empty : Str).length = 0 := rfl
  have f1 : fmtD (.str u) = some (.str u) := by
    show (if u.length ≤ LINE then some (D.str u) else none) = _
    rw [if_pos (by simp; omega)]
  have ue : ∀ (fs : List EX) (env : Env) (S : Store), eJs fs env S = jRun fs Str.empty env S := fun _ _ _ => rfl
  have uf : ∀ (f : EX), eFmt f = eUn fmtD f := fun _ => rfl
  have em : ∀ z : Str, Str.empty ++ z = z := fun z => by
    show (⟨#[] ++ z.cps⟩ : Str) = z
    simp
  have h1 : (Str.empty ++ "Rule(" : Str).length ≤ 16777216 := by rw [PySem.strLen_append]; omega
  have h2 : (("Rule(" : Str) ++ u).length ≤ 16777216 := by rw [PySem.strLen_append]; omega
  have h3 : (("Rule(" : Str) ++ u ++ ")").length ≤ 16777216 := by rw [PySem.strLen_append, PySem.strLen_append]; omega
  rw [em] at h1
  simp [ue, uf, jRun, f1, em, h1, h2, h3]
end Ro
end
section
set_option Elab.async false
set_option linter.all false
set_option maxRecDepth 100000
set_option maxHeartbeats 1000000
namespace Ro
open PySem
variable {S : Store} {env : Env}
def xD (x nm : Str) (d pl : D) : Str := if pyEq d pl then x else x ++ ", " ++ nm ++ "=" ++ sh d
def cw (l : List Str) : List Nat := (l.map fun w => C ", " ++ C w).flatten
theorem cw_app (l m : List Str) : cw (l ++ m) = cw l ++ cw m := by unfold cw; simp
theorem cw_one (z : Str) : cw [z] = C ", " ++ C z := by unfold cw; simp
theorem C_xD (x nm : Str) (d pl : D) : C (xD x nm d pl) = C x ++ cw (wD nm d pl) := by
  unfold xD wD
  split
  · simp [cw]
  · rw [cw_one]
    simp only [C_app, List.append_assoc]
theorem xD_len {x nm : Str} {d pl : D} (hn : nm.length ≤ 10) (h : SmA d) : (xD x nm d pl).length ≤ x.length + 1020 := by
  have hl := h.ln
  have e1 : ("=" : Str).length = 1 := rfl
  have e2 : (", " : Str).length = 2 := rfl
  unfold xD
  split
  · omega
  · rw [PySem.strLen_append, PySem.strLen_append, PySem.strLen_append, PySem.strLen_append]
    unfold sh
    omega
theorem step_D {r x2 : Option D} {x nm : Str} {d pl : D} (hx : x.length ≤ 20000) (hn : nm.length ≤ 10) (h : SmA d) (hp : plD pl = true) (k1 : okD d = true) (k2 : okD pl = true) (hb : pyEq d pl = true → blB d = blB pl) :
    t__law_rule_shown_4 [r, some (.str x), x2, some (.str nm), some d, some pl] S = .ok (.nx [r, some (.str (xD x nm d pl)), x2, some (.str nm), some d, some pl]) S := by
  have hl := h.ln
  have hs := smA_rep h
  have he := (eqD_of h hp).2
  have e1 : ("=" : Str).length = 1 := rfl
  have e2 : (", " : Str).length = 2 := rfl
  have a1 := add_s (a := x) (b := ", ") (by omega)
  have l1 : (x ++ ", " : Str).length ≤ 20002 := by rw [PySem.strLen_append]; omega
  have a2 := add_s (a := x ++ ", ") (b := nm) (by omega)
  have l2 : (x ++ ", " ++ nm : Str).length ≤ 20012 := by rw [PySem.strLen_append]; omega
  have a3 := add_s (a := x ++ ", " ++ nm) (b := "=") (by omega)
  have l3 : (x ++ ", " ++ nm ++ "=" : Str).length ≤ 20013 := by rw [PySem.strLen_append]; omega
  have a4 := add_s (a := x ++ ", " ++ nm ++ "=") (b := (toPy d).shown) (by omega)
  have b1 := isbl_e (S := S) (env := [r, some (.str x), x2, some (.str nm), some d, some pl]) (i := 4) rfl k1
  have b2 := isbl_e (S := S) (env := [r, some (.str x), x2, some (.str nm), some d, some pl]) (i := 5) rfl k2
  unfold t__law_rule_shown_4 xD sh
  generalize (toPy d).shown = t at hs a4 ⊢
  generalize eIsI tysL (.b "bool") (eVar 4) = I4 at b1
  generalize eIsI tysL (.b "bool") (eVar 5) = I5 at b2
  cases z : pyEq d pl with
  | true =>
    have hb := hb z
    rw [hb] at b1
    have ne : neD (.bl (blB pl)) (.bl (blB pl)) = some (.bl false) := by cases blB pl <;> rfl
    rw [z] at he
    simp [he, b1, b2, ne]
  | false =>
    rw [z] at he
    simp [he, a1, a2, a3, hs, a4]
theorem loop_cons {tg : Pat} {body : ES} {x : D} {xs : List D} {env env1 env2 : Env} {S S1 : Store} (h1 : tg x env = some env1) (h2 : body env1 S = .ok (.nx env2) S1) : loop tg body (x :: xs) env S = loop tg body xs env2 S1 := by
  unfold Ro.loop
  rw [h1]
  dsimp only
  rw [h2, bnd_ok]
  cases xs <;> rfl
theorem shown_ok {r : Ru} (hr : r.ok) : m__law_rule_shown [.tup r.ds] S = .ok (.str (rtx r)) S := by
  have M := sms hr
  have hn := smA_rep M.n
  have hnl : (sh (.str r.name)).length ≤ 1000 := M.n.ln
  have e1 : ("Rule(" : Str).length = 5 := rfl
  have e3 : (")" : Str).length = 1 := rfl
  have a1 := add_s (a := "Rule(") (b := sh (.str r.name)) (by omega)
  obtain ⟨y0, hy0⟩ : ∃ y0 : Str, y0 = "Rule(" ++ sh (.str r.name) := ⟨_, rfl⟩
  have l0 : y0.length ≤ 1005 := by rw [hy0, PySem.strLen_append]; omega
  rw [← hy0] at a1
  obtain ⟨y1, hy1⟩ : ∃ y1 : Str, y1 = xD y0 "deed" (.str r.deed) (.str "let") := ⟨_, rfl⟩
  have l1 := xD_len (x := y0) (nm := "deed") (d := .str r.deed) (pl := .str "let") (by decide) M.d
  rw [← hy1] at l1
  obtain ⟨y2, hy2⟩ : ∃ y2 : Str, y2 = xD y1 "bound" (.int r.bound) (.int 0) := ⟨_, rfl⟩
  have l2 := xD_len (x := y1) (nm := "bound") (d := .int r.bound) (pl := .int 0) (by decide) M.b
  rw [← hy2] at l2
  obtain ⟨y3, hy3⟩ : ∃ y3 : Str, y3 = xD y2 "kind" (oS r.kind) .non := ⟨_, rfl⟩
  have l3 := xD_len (x := y2) (nm := "kind") (d := oS r.kind) (pl := .non) (by decide) M.k
  rw [← hy3] at l3
  obtain ⟨y4, hy4⟩ : ∃ y4 : Str, y4 = xD y3 "town" (oI r.town) .non := ⟨_, rfl⟩
  have l4 := xD_len (x := y3) (nm := "town") (d := oI r.town) (pl := .non) (by decide) M.t
  rw [← hy4] at l4
  obtain ⟨y5, hy5⟩ : ∃ y5 : Str, y5 = xD y4 "first" (.int r.first) (.int 0) := ⟨_, rfl⟩
  have l5 := xD_len (x := y4) (nm := "first") (d := .int r.first) (pl := .int 0) (by decide) M.f
  rw [← hy5] at l5
  obtain ⟨y6, hy6⟩ : ∃ y6 : Str, y6 = xD y5 "last" (.int r.last) (.int 59) := ⟨_, rfl⟩
  have l6 := xD_len (x := y5) (nm := "last") (d := .int r.last) (pl := .int 59) (by decide) M.l
  rw [← hy6] at l6
  obtain ⟨y7, hy7⟩ : ∃ y7 : Str, y7 = xD y6 "over" (.int r.over) (.int 0) := ⟨_, rfl⟩
  have l7 := xD_len (x := y6) (nm := "over") (d := .int r.over) (pl := .int 0) (by decide) M.o
  rw [← hy7] at l7
  obtain ⟨y8, hy8⟩ : ∃ y8 : Str, y8 = xD y7 "paper" (oB r.paper) .non := ⟨_, rfl⟩
  have l8 := xD_len (x := y7) (nm := "paper") (d := oB r.paper) (pl := .non) (by decide) M.p
  rw [← hy8] at l8
  have hC : y8 ++ ")" = rtx r := by
    refine C_inj ?_
    unfold rtx
    have ew : wds r = sh (.str r.name) :: (wD "deed" (.str r.deed) (.str "let") ++ wD "bound" (.int r.bound) (.int 0) ++ wD "kind" (oS r.kind) .non ++ wD "town" (oI r.town) .non ++ wD "first" (.int r.first) (.int 0) ++ wD "last" (.int r.last) (.int 59) ++ wD "over" (.int r.over) (.int 0) ++ wD "paper" (oB r.paper) .non) := by simp [wds]
    rw [ew, C_app, hy8, C_xD, hy7, C_xD, hy6, C_xD, hy5, C_xD, hy4, C_xD, hy3, C_xD, hy2, C_xD, hy1, C_xD, hy0, C_app, C_app, C_app, join_C]
    show _ = C "Rule(" ++ (C (sh (.str r.name)) ++ cw (wD "deed" (.str r.deed) (.str "let") ++ wD "bound" (.int r.bound) (.int 0) ++ wD "kind" (oS r.kind) .non ++ wD "town" (oI r.town) .non ++ wD "first" (.int r.first) (.int 0) ++ wD "last" (.int r.last) (.int 59) ++ wD "over" (.int r.over) (.int 0) ++ wD "paper" (oB r.paper) .non)) ++ C ")"
    rw [cw_app, cw_app, cw_app, cw_app, cw_app, cw_app, cw_app]
    simp
  have a9 := add_s (a := y8) (b := ")") (by omega)
  rw [hC] at a9
  have dl := deed_len hr.deed
  have kS : ∀ o : Option Str, (∀ z, o = some z → z ∈ kinds) → okD (oS o) = true := fun o h => by
    cases o with
    | none => rfl
    | some z => exact okD_str (by have := kind_len (h z rfl); omega)
  have kI : ∀ o : Option Int, okD (oI o) = true := fun o => by cases o <;> rfl
  have kB : ∀ o : Option Bool, okD (oB o) = true := fun o => by cases o <;> rfl
  have bS : ∀ o : Option Str, blB (oS o) = false := fun o => by cases o <;> rfl
  have bI : ∀ o : Option Int, blB (oI o) = false := fun o => by cases o <;> rfl
  have bB : ∀ o : Option Bool, pyEq (oB o) .non = true → blB (oB o) = blB .non := fun o h => by
    cases o with
    | none => rfl
    | some b => cases b <;> exact absurd h (by decide)
  have s1 := step_D (S := S) (r := some (.tup r.ds)) (x2 := some (.lst [.str "deed", .str "bound", .str "kind", .str "town", .str "first", .str "last", .str "over", .str "paper"])) (x := y0) (nm := "deed") (pl := .str "let") (by omega) (by decide) M.d rfl (okD_str (by omega)) (by decide) (fun _ => rfl)
  have s2 := step_D (S := S) (r := some (.tup r.ds)) (x2 := some (.lst [.str "deed", .str "bound", .str "kind", .str "town", .str "first", .str "last", .str "over", .str "paper"])) (x := y1) (nm := "bound") (pl := .int 0) (by omega) (by decide) M.b rfl rfl rfl (fun _ => rfl)
  have s3 := step_D (S := S) (r := some (.tup r.ds)) (x2 := some (.lst [.str "deed", .str "bound", .str "kind", .str "town", .str "first", .str "last", .str "over", .str "paper"])) (x := y2) (nm := "kind") (pl := .non) (by omega) (by decide) M.k rfl (kS _ hr.kind) rfl (fun _ => by rw [bS]; rfl)
  have s4 := step_D (S := S) (r := some (.tup r.ds)) (x2 := some (.lst [.str "deed", .str "bound", .str "kind", .str "town", .str "first", .str "last", .str "over", .str "paper"])) (x := y3) (nm := "town") (pl := .non) (by omega) (by decide) M.t rfl (kI _) rfl (fun _ => by rw [bI]; rfl)
  have s5 := step_D (S := S) (r := some (.tup r.ds)) (x2 := some (.lst [.str "deed", .str "bound", .str "kind", .str "town", .str "first", .str "last", .str "over", .str "paper"])) (x := y4) (nm := "first") (pl := .int 0) (by omega) (by decide) M.f rfl rfl rfl (fun _ => rfl)
  have s6 := step_D (S := S) (r := some (.tup r.ds)) (x2 := some (.lst [.str "deed", .str "bound", .str "kind", .str "town", .str "first", .str "last", .str "over", .str "paper"])) (x := y5) (nm := "last") (pl := .int 59) (by omega) (by decide) M.l rfl rfl rfl (fun _ => rfl)
  have s7 := step_D (S := S) (r := some (.tup r.ds)) (x2 := some (.lst [.str "deed", .str "bound", .str "kind", .str "town", .str "first", .str "last", .str "over", .str "paper"])) (x := y6) (nm := "over") (pl := .int 0) (by omega) (by decide) M.o rfl rfl rfl (fun _ => rfl)
  have s8 := step_D (S := S) (r := some (.tup r.ds)) (x2 := some (.lst [.str "deed", .str "bound", .str "kind", .str "town", .str "first", .str "last", .str "over", .str "paper"])) (x := y7) (nm := "paper") (pl := .non) (by omega) (by decide) M.p rfl (kB _) rfl (bB _)
  rw [← hy1] at s1
  rw [← hy2] at s2
  rw [← hy3] at s3
  rw [← hy4] at s4
  rw [← hy5] at s5
  rw [← hy6] at s6
  rw [← hy7] at s7
  rw [← hy8] at s8
  clear hy0 hy1 hy2 hy3 hy4 hy5 hy6 hy7 hy8 hC l0 l1 l2 l3 l4 l5 l6 l7 l8
  have i0 : ∀ S : Store, idxB (.tup r.ds) (.int 0) S = some (.str r.name) := fun _ => rfl
  have c1 : cutD (.tup r.ds) (some 1) none = some (.tup [.str r.deed, .int r.bound, oS r.kind, oI r.town, .int r.first, .int r.last, .int r.over, oB r.paper]) := rfl
  have hn' : bReprX [.str r.name] = some (.str (sh (.str r.name))) := hn
  generalize sh (.str r.name) = t0 at hn' a1
  generalize rtx r = t9 at a9 ⊢
  unfold m__law_rule_shown
  rw [u_fnM, x__law_rule_shown]
  simp [-idx_tup, i0, hn', a1]
  unfold t__law_rule_shown_2
  simp
  unfold t__law_rule_shown_3
  simp [c1, zip3L]
  rw [loop_cons (env1 := [some (.tup r.ds), some (.str y0), some (.lst [.str "deed", .str "bound", .str "kind", .str "town", .str "first", .str "last", .str "over", .str "paper"]), some (.str "deed"), some (.str r.deed), some (.str "let")]) rfl s1,
    loop_cons (env1 := [some (.tup r.ds), some (.str y1), some (.lst [.str "deed", .str "bound", .str "kind", .str "town", .str "first", .str "last", .str "over", .str "paper"]), some (.str "bound"), some (.int r.bound), some (.int 0)]) rfl s2,
    loop_cons (env1 := [some (.tup r.ds), some (.str y2), some (.lst [.str "deed", .str "bound", .str "kind", .str "town", .str "first", .str "last", .str "over", .str "paper"]), some (.str "kind"), some (oS r.kind), some .non]) rfl s3,
    loop_cons (env1 := [some (.tup r.ds), some (.str y3), some (.lst [.str "deed", .str "bound", .str "kind", .str "town", .str "first", .str "last", .str "over", .str "paper"]), some (.str "town"), some (oI r.town), some .non]) rfl s4,
    loop_cons (env1 := [some (.tup r.ds), some (.str y4), some (.lst [.str "deed", .str "bound", .str "kind", .str "town", .str "first", .str "last", .str "over", .str "paper"]), some (.str "first"), some (.int r.first), some (.int 0)]) rfl s5,
    loop_cons (env1 := [some (.tup r.ds), some (.str y5), some (.lst [.str "deed", .str "bound", .str "kind", .str "town", .str "first", .str "last", .str "over", .str "paper"]), some (.str "last"), some (.int r.last), some (.int 59)]) rfl s6,
    loop_cons (env1 := [some (.tup r.ds), some (.str y6), some (.lst [.str "deed", .str "bound", .str "kind", .str "town", .str "first", .str "last", .str "over", .str "paper"]), some (.str "over"), some (.int r.over), some (.int 0)]) rfl s7,
    loop_cons (env1 := [some (.tup r.ds), some (.str y7), some (.lst [.str "deed", .str "bound", .str "kind", .str "town", .str "first", .str "last", .str "over", .str "paper"]), some (.str "paper"), some (oB r.paper), some .non]) rfl s8]
  unfold Ro.loop
  rw [bnd_ok]
  dsimp only
  unfold t__law_rule_shown_6
  simp [a9]
end Ro
end
section
set_option Elab.async false
set_option linter.all false
set_option maxRecDepth 100000
set_option maxHeartbeats 1000000
namespace Ro
open PySem
variable {S : Store} {env : Env}
theorem at_oS (o : Option Str) : atomB (oS o) = true := by cases o <;> rfl
theorem at_oI (o : Option Int) : atomB (oI o) = true := by cases o <;> rfl
theorem at_oB (o : Option Bool) : atomB (oB o) = true := by cases o <;> rfl
theorem pl_atom {d : D} {n : Nat} (h : atomB d = true) : plN n d = true := by cases d <;> simp [atomB] at h <;> simp
theorem ru_at (r : Ru) : ∀ x ∈ r.ds, atomB x = true := by
  intro x hx
  simp only [Ru.ds, List.mem_cons, List.not_mem_nil, or_false] at hx
  rcases hx with rfl | rfl | rfl | rfl | rfl | rfl | rfl | rfl | rfl
  all_goals first | rfl | exact at_oS _ | exact at_oI _ | exact at_oB _
theorem parts_ok {r : Ru} : m_Rule_all_parts [r.obj] S = .ok (.tup r.ds) S := by
  have g0 : attrD cf ["Rule"] "name" r.obj S = some (.str r.name) := rfl
  have g1 : attrD cf ["Rule"] "deed" r.obj S = some (.str r.deed) := rfl
  have g2 : attrD cf ["Rule"] "bound" r.obj S = some (.int r.bound) := rfl
  have g3 : attrD cf ["Rule"] "kind" r.obj S = some (oS r.kind) := rfl
  have g4 : attrD cf ["Rule"] "town" r.obj S = some (oI r.town) := rfl
  have g5 : attrD cf ["Rule"] "first" r.obj S = some (.int r.first) := rfl
  have g6 : attrD cf ["Rule"] "last" r.obj S = some (.int r.last) := rfl
  have g7 : attrD cf ["Rule"] "over" r.obj S = some (.int r.over) := rfl
  have g8 : attrD cf ["Rule"] "paper" r.obj S = some (oB r.paper) := rfl
  have ad : addD (.tup [.str r.name, .str r.deed, .int r.bound]) (.tup [oS r.kind, oI r.town, .int r.first, .int r.last, .int r.over, oB r.paper]) = some (.tup r.ds) := rfl
  unfold m_Rule_all_parts
  rw [u_fnM, x_Rule_all_parts]
  unfold t_Rule_all_parts_2
  simp [g0, g1, g2, g3, g4, g5, g6, g7, g8, ad]
theorem ru_eq {r q : Ru} : m_Rule_eq [r.obj, q.obj] S = .ok (.bl (pyEqs r.ds q.ds)) S := by
  have hi : ∀ (q : Ru) (S : Store), isInst cf "Rule" "all_parts" q.obj S = true := fun _ _ => rfl
  have hp : ∀ q : Ru, plD (.tup q.ds) = true := fun q => by
    show q.ds.all (plN 7) = true
    rw [List.all_eq_true]
    exact fun x hx => pl_atom (ru_at q x hx)
  have e : eqD (.tup r.ds) (.tup q.ds) = some (.bl (pyEqs r.ds q.ds)) := by
    unfold eqD
    rw [hp, hp, pyEq_tup]
    rfl
  have h1 : subTy (.o "Rule") (.o "Rule") = true := by decide
  have h2 : Ty.o "Rule" ∈ tysL := by decide
  have t1 : tyD q.obj S = some (.o "Rule") := rfl
  unfold m_Rule_eq b_Rule_eq
  simp [t1, h1, h2, hi, parts_ok, e]
theorem methB_of {m : Fn} {x y : D} {b : Bool} (h : m [x, y] S = .ok (.bl b) S) : methB m x y S = some b := by
  unfold methB
  rw [h]
  simp
theorem eq_bl (a b : Bool) : pyEq (.bl a) (.bl b) = decide (a = b) := by cases a <;> cases b <;> rfl
theorem eq_oS (a b : Option Str) : pyEq (oS a) (oS b) = decide (a = b) := by
  cases a <;> cases b
  · rfl
  · rfl
  · rfl
  · rename_i x y
    show pyEq (.str x) (.str y) = _
    rw [pyEq_str]
    simp
theorem eq_oI (a b : Option Int) : pyEq (oI a) (oI b) = decide (a = b) := by
  cases a <;> cases b
  · rfl
  · rfl
  · rfl
  · rename_i x y
    show pyEq (.int x) (.int y) = _
    rw [pyEq_int]
    simp
theorem eq_oB (a b : Option Bool) : pyEq (oB a) (oB b) = decide (a = b) := by
  cases a <;> cases b
  · rfl
  · rename_i y; cases y <;> rfl
  · rename_i y; cases y <;> rfl
  · rename_i x y
    show pyEq (.bl x) (.bl y) = _
    rw [eq_bl]
    simp
theorem ru_eqs (r q : Ru) : pyEqs r.ds q.ds = true ↔ r = q := by
  obtain ⟨a, b, c, d, e, f, g, h, i⟩ := r
  obtain ⟨a', b', c', d', e', f', g', h', i'⟩ := q
  simp only [Ru.ds, pyEqs_cons, pyEq_str, pyEq_int, eq_oS, eq_oI, eq_oB, pyEqs_nil, Bool.and_true, Bool.and_eq_true, decide_eq_true_eq, Ru.mk.injEq]
def eqB (p q : Ru) : Bool := pyEqs p.ds q.ds
theorem eqB_self (p : Ru) : eqB p p = true := (ru_eqs p p).mpr rfl
theorem eqB_ne {p q : Ru} (h : p ≠ q) : eqB p q = false := by
  cases z : eqB p q with
  | false => rfl
  | true => exact absurd ((ru_eqs p q).mp z) h
theorem ru_other {p : Ru} {d : D} (h : rhsB [] d = true) : m_Rule_eq [p.obj, d] S = .ok (.bl false) S := by
  have g1 : subTy (.b "NoneType") (.o "Rule") = false := by decide
  have g2 : subTy (.b "bool") (.o "Rule") = false := by decide
  have g3 : subTy (.b "int") (.o "Rule") = false := by decide
  have g4 : subTy (.b "str") (.o "Rule") = false := by decide
  have g5 : subTy (.b "tuple") (.o "Rule") = false := by decide
  have g6 : subTy (.b "list") (.o "Rule") = false := by decide
  have g7 : subTy (.b "dict") (.o "Rule") = false := by decide
  have h2 : Ty.o "Rule" ∈ tysL := by decide
  unfold m_Rule_eq b_Rule_eq
  cases d <;> simp [rhsB] at h <;> simp [g1, g2, g3, g4, g5, g6, g7, h2]
theorem ru_A {p q : Ru} {n : Nat} : eqA tab_0 cls_0 S (n + 1) p.obj q.obj = some (eqB p q) := by
  have hp : plN 8 p.obj = false := rfl
  rw [eqA_s, hp, if_neg (by simp)]
  show (if rhsB cls_0 q.obj = true then (match tab_0 "Rule" with
    | some m => methB m p.obj q.obj S
    | none => none) else none) = _
  rw [if_pos (by rfl)]
  exact methB_of ru_eq
theorem dat_ru (p : Ru) : datN cls_0 8 p.obj = true := by
  show (cls_0.contains "Rule" && p.ds.all (datN cls_0 7)) = true
  rw [Bool.and_eq_true]
  refine ⟨by decide, ?_⟩
  rw [List.all_eq_true]
  intro x hx
  have := ru_at p x hx
  cases x <;> first | rfl | cases this
theorem obj_inj {p q : Ru} (h : p.obj = q.obj) : p = q := by
  refine (ru_eqs p q).mp ?_
  have e : p.ds = q.ds := by
    simp only [Ru.obj, D.obj.injEq, true_and] at h
    exact h
  rw [e]
  exact (ru_eqs q q).mpr rfl
theorem ru_E {p q : Ru} {n : Nat} : eqE tab_0 cls_0 S (n + 2) p.obj q.obj = some (eqB p q) := by
  have hp : plN 8 p.obj = false := rfl
  rw [eqE_s, hp, if_neg (by simp), ru_A]
  cases z : eqB p q with
  | true => rfl
  | false =>
    unfold idA
    dsimp only
    rw [if_pos ⟨dat_ru p, dat_ru q, fun e => by rw [obj_inj e, eqB_self] at z; cases z⟩]
theorem ruM {p q : Ru} (op : Bool → Bool) : eqAM tab_0 cls_0 op p.obj q.obj S = .ok (.bl (op (eqB p q))) S := by
  unfold eqAM eqAP
  have e1 : isObj p.obj = true := rfl
  have e2 : isObj q.obj = true := rfl
  rw [e1, e2, ru_A]
  simp
theorem oM {p : Ru} {d : D} (h : rhsB [] d = true) : eqAM tab_0 cls_0 id p.obj d S = .ok (.bl false) S ∧ eqAM tab_0 cls_0 not p.obj d S = .ok (.bl true) S ∧ eqAM tab_0 cls_0 id d p.obj S = .ok (.bl false) S := by
  have hp : plN 8 p.obj = false := rfl
  have nd : isObj d = false := by cases d <;> first | rfl | cases h
  have e1 : isObj p.obj = true := rfl
  have hr : rhsB cls_0 d = true := by cases d <;> first | rfl | cases h
  have a1 : eqA tab_0 cls_0 S 6 p.obj d = some false := by
    rw [eqA_s, hp, if_neg (by simp)]
    show (if rhsB cls_0 d = true then (match tab_0 "Rule" with
      | some m => methB m p.obj d S
      | none => none) else none) = _
    rw [if_pos hr]
    exact methB_of (ru_other h)
  have a2 : eqA tab_0 cls_0 S 6 d p.obj = some false := by
    rw [eqA_s, hp, Bool.and_false, if_neg (by simp)]
    have e : shapeA (eqE tab_0 cls_0 S 5) tab_0 cls_0 S d p.obj = (if rhsB cls_0 d = true then (match tab_0 "Rule" with
      | some m => methB m p.obj d S
      | none => none) else none) := by
      cases d <;> first | rfl | cases h
    rw [e, if_pos hr]
    exact methB_of (ru_other h)
  unfold eqAM eqAP
  rw [e1, nd, a1, a2]
  simp
end Ro
end
section
set_option Elab.async false
set_option linter.all false
set_option maxRecDepth 100000
set_option maxHeartbeats 1000000
namespace Ro
open PySem
variable {S : Store} {env : Env}
def comps (r : Ru) : List (List Nat) := [C (sh (.str r.name)), cw (wD "deed" (.str r.deed) (.str "let")), cw (wD "bound" (.int r.bound) (.int 0)), cw (wD "kind" (oS r.kind) .non), cw (wD "town" (oI r.town) .non), cw (wD "first" (.int r.first) (.int 0)), cw (wD "last" (.int r.last) (.int 59)), cw (wD "over" (.int r.over) (.int 0)), cw (wD "paper" (oB r.paper) .non)]
theorem C_rtx (r : Ru) : C (rtx r) = C "Rule(" ++ ((comps r).flatten ++ C ")") := by
  unfold rtx comps
  have ew : wds r = sh (.str r.name) :: (wD "deed" (.str r.deed) (.str "let") ++ wD "bound" (.int r.bound) (.int 0) ++ wD "kind" (oS r.kind) .non ++ wD "town" (oI r.town) .non ++ wD "first" (.int r.first) (.int 0) ++ wD "last" (.int r.last) (.int 59) ++ wD "over" (.int r.over) (.int 0) ++ wD "paper" (oB r.paper) .non) := by simp [wds]
  rw [ew, C_app, C_app, join_C]
  show C "Rule(" ++ (C (sh (.str r.name)) ++ cw (wD "deed" (.str r.deed) (.str "let") ++ wD "bound" (.int r.bound) (.int 0) ++ wD "kind" (oS r.kind) .non ++ wD "town" (oI r.town) .non ++ wD "first" (.int r.first) (.int 0) ++ wD "last" (.int r.last) (.int 59) ++ wD "over" (.int r.over) (.int 0) ++ wD "paper" (oB r.paper) .non)) ++ C ")" = _
  rw [cw_app, cw_app, cw_app, cw_app, cw_app, cw_app, cw_app]
  simp
theorem comps_of {p q : Ru} (h : rtx p = rtx q) : (comps p).flatten = (comps q).flatten := by
  have h2 : C (rtx p) = C (rtx q) := by rw [h]
  rw [C_rtx, C_rtx] at h2
  exact List.append_cancel_right (List.append_cancel_left h2)
theorem cut1 {a b : List (List Nat)} {x y : List Nat} (h : (a ++ x :: b).flatten = (a ++ y :: b).flatten) : x = y := by
  rw [List.flatten_append, List.flatten_append, List.flatten_cons, List.flatten_cons] at h
  exact List.append_cancel_right (List.append_cancel_left h)
theorem cw_ne (z : Str) : cw [z] ≠ [] := fun e => by
  rw [cw_one] at e
  exact absurd (List.append_eq_nil_iff.mp e).1 (by decide)
theorem in_int {nm : Str} {i j pl : Int} (hi : 0 ≤ i) (hj : 0 ≤ j) (h : cw (wD nm (.int i) (.int pl)) = cw (wD nm (.int j) (.int pl))) : i = j := by
  unfold wD at h
  rw [pyEq_int, pyEq_int] at h
  by_cases c : i = pl
  · by_cases d : j = pl
    · omega
    · simp only [c, d, decide_true, decide_false, if_true, Bool.false_eq_true, if_false] at h
      exact absurd h.symm (cw_ne _)
  · by_cases d : j = pl
    · simp only [c, d, decide_true, decide_false, if_true, Bool.false_eq_true, if_false] at h
      exact absurd h (cw_ne _)
    · simp only [c, d, decide_false, Bool.false_eq_true, if_false] at h
      rw [cw_one, cw_one] at h
      simp only [C_app, List.append_assoc] at h
      exact ti_inj hi hj (C_inj (List.append_cancel_left (List.append_cancel_left (List.append_cancel_left h))))
theorem in_oI {nm : Str} {a b : Option Int} (ha : ∀ z, a = some z → 0 ≤ z) (hb : ∀ z, b = some z → 0 ≤ z) (h : cw (wD nm (oI a) .non) = cw (wD nm (oI b) .non)) : a = b := by
  have w0 : wD nm (oI none) .non = [] := rfl
  have w1 : ∀ i : Int, wD nm (oI (some i)) .non = [nm ++ "=" ++ ti i] := fun i => rfl
  cases a with
  | none =>
    cases b with
    | none => rfl
    | some j => rw [w0, w1] at h; exact absurd h.symm (cw_ne _)
  | some i =>
    cases b with
    | none => rw [w0, w1] at h; exact absurd h (cw_ne _)
    | some j =>
      rw [w1, w1, cw_one, cw_one] at h
      simp only [C_app, List.append_assoc] at h
      rw [ti_inj (ha i rfl) (hb j rfl) (C_inj (List.append_cancel_left (List.append_cancel_left (List.append_cancel_left h))))]
theorem sh_inj : ∀ z ∈ kinds, ∀ y ∈ kinds, C (sh (.str z)) = C (sh (.str y)) → z = y := by decide +kernel
theorem in_oS {nm : Str} {a b : Option Str} (ha : ∀ z, a = some z → z ∈ kinds) (hb : ∀ z, b = some z → z ∈ kinds) (h : cw (wD nm (oS a) .non) = cw (wD nm (oS b) .non)) : a = b := by
  have w0 : wD nm (oS none) .non = [] := rfl
  have w1 : ∀ i : Str, wD nm (oS (some i)) .non = [nm ++ "=" ++ sh (.str i)] := fun i => rfl
  cases a with
  | none =>
    cases b with
    | none => rfl
    | some j => rw [w0, w1] at h; exact absurd h.symm (cw_ne _)
  | some i =>
    cases b with
    | none => rw [w0, w1] at h; exact absurd h (cw_ne _)
    | some j =>
      rw [w1, w1, cw_one, cw_one] at h
      simp only [C_app, List.append_assoc] at h
      rw [sh_inj _ (ha i rfl) _ (hb j rfl) (List.append_cancel_left (List.append_cancel_left (List.append_cancel_left h)))]
theorem in_oB {a b : Option Bool} (h : cw (wD "paper" (oB a) .non) = cw (wD "paper" (oB b) .non)) : a = b := by
  have key : ∀ a ∈ [none, some true, some false], ∀ b ∈ [none, some true, some false], cw (wD "paper" (oB a) .non) = cw (wD "paper" (oB b) .non) → a = b := by decide +kernel
  have m : ∀ a : Option Bool, a ∈ [none, some true, some false] := fun a => by
    cases a with
    | none => simp
    | some b => cases b <;> simp
  exact key a (m a) b (m b) h
theorem lets_len : ∀ c ∈ lets, ∀ q ∈ [39, 34], (PySem.Builtin.Str.reprChar q c).length = 1 := by decide +kernel
theorem name_len {z : Str} (h : nameOk z = true) : (C (sh (.str z))).length = z.length + 2 := by
  have e : (reprText z).length = z.length + 2 := by
    rw [← PySem.reprLen_eq, ← Array.foldl_toList]
    have hq : reprQuote z ∈ [39, 34] := by
      unfold reprQuote
      split <;> simp
    unfold nameOk at h
    simp only [Bool.and_eq_true, decide_eq_true_eq, List.all_eq_true] at h
    have hc := h.2
    have ez : z.length = z.cps.toList.length := by simp [Str.length]
    rw [ez]
    generalize z.cps.toList = l at hc
    generalize reprQuote z = q at hq
    have key : ∀ (l : List Nat) (n : Nat), (∀ c ∈ l, c ∈ lets) → l.foldl (fun n c => n + (PySem.Builtin.Str.reprChar q c).length) n = n + l.length := by
      intro l
      induction l with
      | nil => intro n _; rfl
      | cons c l ih =>
        intro n hl
        rw [List.foldl_cons, lets_len c (hl c (by simp)) q hq, ih _ fun x hx => hl x (by simp [hx])]
        simp only [List.length_cons]
        omega
    rw [key l 2 hc]
    omega
  exact e
theorem in_name {a b : Str} (ha : nameOk a = true) (hb : nameOk b = true) (h : C (sh (.str a)) = C (sh (.str b))) : a.length = b.length := by
  have := congrArg List.length h
  rw [name_len ha, name_len hb] at this
  omega
structure Oth (p q : Ru) : Prop where
  ok : q.ok
  ne : p ≠ q
  tx : rtx q ≠ rtx p
end Ro
end
section
set_option Elab.async false
set_option linter.all false
set_option maxRecDepth 100000
set_option maxHeartbeats 1000000
namespace Ro
open PySem
variable {S : Store} {env : Env}
theorem zs_ok : ∀ k : Fin 8, nameOk (repS "z" ((k : Nat) + 1 : Nat)) = true ∧ (repS "z" ((k : Nat) + 1 : Nat)).length = (k : Nat) + 1 := by decide +kernel
def o1 (r : Ru) : Ru := { r with name := repS "z" (9 - (r.name.length : Int)) }
def o2 (r : Ru) : Ru := { r with deed := if r.deed ≠ "refuse" then "refuse" else "let", bound := 0 }
def o3 (r : Ru) : Ru := { r with kind := if r.kind ≠ some "bed" then some "bed" else none }
def o4 (r : Ru) : Ru := { r with town := if r.town ≠ some 2 then some 2 else none }
def o5 (r : Ru) : Ru := { r with town := if r.town = some 0 then none else some 0 }
def o6 (r : Ru) : Ru := { r with over := if r.over < 1000000000000 then r.over + 1 else 0 }
def o7 (r : Ru) : Ru := { r with paper := if r.paper = some true then none else some true }
def o8 (r : Ru) : Ru := { r with paper := if r.paper ≠ some false then some false else none }
def o9 (r : Ru) : Ru := { r with first := r.first + 1 }
def o10 (r : Ru) : Ru := { r with last := r.last - 1 }
def o11 (r : Ru) : Ru := { r with bound := if 0 < r.bound then r.bound - 1 else 7 }
theorem z_name {r : Ru} (hr : r.ok) : nameOk (o1 r).name = true ∧ (o1 r).name.length = 9 - r.name.length := by
  obtain ⟨n1, n2⟩ := nameOk_len hr.name
  have h := zs_ok ⟨8 - r.name.length, by omega⟩
  have e : (9 - (r.name.length : Int)) = ((8 - r.name.length + 1 : Nat) : Int) := by omega
  show nameOk (repS "z" (9 - (r.name.length : Int))) = true ∧ (repS "z" (9 - (r.name.length : Int))).length = 9 - r.name.length
  rw [e]
  exact ⟨h.1, by rw [h.2]; show 8 - r.name.length + 1 = 9 - r.name.length; omega⟩
theorem O1 {r : Ru} (hr : r.ok) : Oth r (o1 r) := by
  obtain ⟨z1, z2⟩ := z_name hr
  have ne : (o1 r).name.length ≠ r.name.length := by omega
  refine ⟨⟨z1, hr.deed, hr.b0, hr.b1, hr.kind, hr.town, hr.f0, hr.fl, hr.l1, hr.o0, hr.o1⟩, fun e => ne (by rw [← e]), fun e => ne (in_name z1 hr.name (cut1 (a := []) (b := (comps r).tail) (comps_of e)))⟩
theorem take_ne {a b x y : List Nat} {n : Nat} (ha : n ≤ a.length) (hb : n ≤ b.length) (h : a ++ x = b ++ y) : a.take n = b.take n := by
  have := congrArg (List.take n) h
  rwa [List.take_append_of_le_length ha, List.take_append_of_le_length hb] at this
theorem O2 {r : Ru} (hr : r.ok) : Oth r (o2 r) := by
  have hd := hr.deed
  unfold deeds at hd
  simp at hd
  have n1 : ¬ ("let" : Str) = "refuse" := by decide
  have n2 : ¬ ("cut" : Str) = "refuse" := by decide
  have n3 : ¬ ("each" : Str) = "refuse" := by decide
  have n4 : ¬ ("hundredths" : Str) = "refuse" := by decide
  have l0 : lim "let" = 0 := by decide
  have l1 : lim "refuse" = 0 := by decide
  have hb0 := hr.b0
  have hb1 := hr.b1
  have ne : (o2 r).deed ≠ r.deed := by
    show (if r.deed ≠ "refuse" then ("refuse" : Str) else "let") ≠ r.deed
    by_cases c : r.deed = "refuse"
    · rw [if_neg (by simp [c]), c]; decide
    · rw [if_pos c]; exact fun e => c e.symm
  have ok : (o2 r).ok := by
    refine ⟨hr.name, ?_, Int.le_refl 0, ?_, hr.kind, hr.town, hr.f0, hr.fl, hr.l1, hr.o0, hr.o1⟩
    · show (if r.deed ≠ "refuse" then ("refuse" : Str) else "let") ∈ deeds
      split <;> decide
    · show 0 ≤ lim (if r.deed ≠ "refuse" then ("refuse" : Str) else "let")
      split <;> decide
  refine ⟨ok, fun e => ne (by rw [← e]), fun e => ?_⟩
  have h := comps_of e
  have h2 : cw (wD "deed" (.str (o2 r).deed) (.str "let")) ++ cw (wD "bound" (.int 0) (.int 0)) = cw (wD "deed" (.str r.deed) (.str "let")) ++ cw (wD "bound" (.int r.bound) (.int 0)) := by
    have h' : C (sh (.str r.name)) ++ ((cw (wD "deed" (.str (o2 r).deed) (.str "let")) ++ cw (wD "bound" (.int 0) (.int 0))) ++ ((comps r).drop 3).flatten) = C (sh (.str r.name)) ++ ((cw (wD "deed" (.str r.deed) (.str "let")) ++ cw (wD "bound" (.int r.bound) (.int 0))) ++ ((comps r).drop 3).flatten) := by
      have e1 : (comps (o2 r)).flatten = C (sh (.str r.name)) ++ ((cw (wD "deed" (.str (o2 r).deed) (.str "let")) ++ cw (wD "bound" (.int 0) (.int 0))) ++ ((comps r).drop 3).flatten) := by
        simp [comps, o2]
      have e2 : (comps r).flatten = C (sh (.str r.name)) ++ ((cw (wD "deed" (.str r.deed) (.str "let")) ++ cw (wD "bound" (.int r.bound) (.int 0))) ++ ((comps r).drop 3).flatten) := by
        simp [comps]
      rw [← e1, ← e2]
      exact h
    exact List.append_cancel_right (List.append_cancel_left h')
  have b0 : cw (wD "bound" (.int 0) (.int 0)) = [] := rfl
  rw [b0] at h2
  have dd : (o2 r).deed = if r.deed ≠ "refuse" then ("refuse" : Str) else "let" := rfl
  rw [dd] at h2
  rcases hd with c | c | c | c | c <;> rw [c] at h2 hb1
  · have hb : r.bound = 0 := by omega
    rw [hb] at h2
    exact absurd h2 (by decide +kernel)
  · rw [if_pos n2] at h2
    exact absurd (take_ne (n := 9) (by decide +kernel) (by decide +kernel) h2) (by decide +kernel)
  · rw [if_pos n3] at h2
    exact absurd (take_ne (n := 9) (by decide +kernel) (by decide +kernel) h2) (by decide +kernel)
  · rw [if_pos n4] at h2
    exact absurd (take_ne (n := 9) (by decide +kernel) (by decide +kernel) h2) (by decide +kernel)
  · have hb : r.bound = 0 := by omega
    rw [hb] at h2
    exact absurd h2 (by decide +kernel)
theorem O3 {r : Ru} (hr : r.ok) : Oth r (o3 r) := by
  have ne : (o3 r).kind ≠ r.kind := by
    show (if r.kind ≠ some "bed" then some ("bed" : Str) else none) ≠ r.kind
    by_cases c : r.kind = some "bed"
    · rw [if_neg (by simp [c]), c]; simp
    · rw [if_pos c]; exact fun e => c e.symm
  have hk : ∀ z, (o3 r).kind = some z → z ∈ kinds := by
    intro z hz
    have hz : (if r.kind ≠ some "bed" then some ("bed" : Str) else none) = some z := hz
    split at hz
    · cases hz; decide
    · cases hz
  exact ⟨⟨hr.name, hr.deed, hr.b0, hr.b1, hk, hr.town, hr.f0, hr.fl, hr.l1, hr.o0, hr.o1⟩, fun e => ne (by rw [← e]), fun e => ne (in_oS hk hr.kind (cut1 (a := (comps r).take 3) (b := (comps r).drop 4) (comps_of e)))⟩
theorem townOth {r q : Ru} (hr : r.ok) (hq : q = { r with town := q.town }) (ht : ∀ z, q.town = some z → 0 ≤ z ∧ z ≤ 3) (ne : q.town ≠ r.town) : Oth r q := by
  have c1 : (comps q).flatten = ((comps r).take 4 ++ cw (wD "town" (oI q.town) .non) :: (comps r).drop 5).flatten := by rw [hq]; rfl
  refine ⟨?_, fun e => ne (by rw [← e]), fun e => ?_⟩
  · rw [hq]
    exact ⟨hr.name, hr.deed, hr.b0, hr.b1, hr.kind, ht, hr.f0, hr.fl, hr.l1, hr.o0, hr.o1⟩
  · have h := comps_of e
    rw [c1] at h
    exact ne (in_oI (fun z hz => (ht z hz).1) (fun z hz => (hr.town z hz).1) (cut1 (a := (comps r).take 4) (b := (comps r).drop 5) h))
theorem O4 {r : Ru} (hr : r.ok) : Oth r (o4 r) := by
  refine townOth hr rfl (fun z hz => ?_) ?_
  · have hz : (if r.town ≠ some 2 then some (2 : Int) else none) = some z := hz
    split at hz
    · cases hz; decide
    · cases hz
  · show (if r.town ≠ some 2 then some (2 : Int) else none) ≠ r.town
    by_cases c : r.town = some 2
    · rw [if_neg (by simp [c]), c]; simp
    · rw [if_pos c]; exact fun e => c e.symm
theorem O5 {r : Ru} (hr : r.ok) : Oth r (o5 r) := by
  refine townOth hr rfl (fun z hz => ?_) ?_
  · have hz : (if r.town = some 0 then none else some (0 : Int)) = some z := hz
    split at hz
    · cases hz
    · cases hz; decide
  · show (if r.town = some 0 then none else some (0 : Int)) ≠ r.town
    by_cases c : r.town = some 0
    · rw [if_pos c, c]; simp
    · rw [if_neg c]; exact fun e => c e.symm
theorem O6 {r : Ru} (hr : r.ok) : Oth r (o6 r) := by
  have h0 := hr.o0; have h1 := hr.o1
  have v : (o6 r).over = if r.over < 1000000000000 then r.over + 1 else 0 := rfl
  have ne : (o6 r).over ≠ r.over := by rw [v]; split <;> omega
  have b : 0 ≤ (o6 r).over ∧ (o6 r).over ≤ 1000000000000 := by rw [v]; split <;> omega
  exact ⟨⟨hr.name, hr.deed, hr.b0, hr.b1, hr.kind, hr.town, hr.f0, hr.fl, hr.l1, b.1, b.2⟩, fun e => ne (by rw [← e]), fun e => ne (in_int b.1 h0 (cut1 (a := (comps r).take 7) (b := (comps r).drop 8) (comps_of e)))⟩
theorem paperOth {r q : Ru} (hr : r.ok) (hq : q = { r with paper := q.paper }) (ne : q.paper ≠ r.paper) : Oth r q := by
  have c1 : (comps q).flatten = ((comps r).take 8 ++ cw (wD "paper" (oB q.paper) .non) :: []).flatten := by rw [hq]; rfl
  refine ⟨?_, fun e => ne (by rw [← e]), fun e => ?_⟩
  · rw [hq]
    exact ⟨hr.name, hr.deed, hr.b0, hr.b1, hr.kind, hr.town, hr.f0, hr.fl, hr.l1, hr.o0, hr.o1⟩
  · have h := comps_of e
    rw [c1] at h
    exact ne (in_oB (cut1 (a := (comps r).take 8) (b := []) h))
theorem O7 {r : Ru} (hr : r.ok) : Oth r (o7 r) := by
  refine paperOth hr rfl ?_
  show (if r.paper = some true then none else some true) ≠ r.paper
  by_cases c : r.paper = some true
  · rw [if_pos c, c]; simp
  · rw [if_neg c]; exact fun e => c e.symm
theorem O8 {r : Ru} (hr : r.ok) : Oth r (o8 r) := by
  refine paperOth hr rfl ?_
  show (if r.paper ≠ some false then some false else none) ≠ r.paper
  by_cases c : r.paper = some false
  · rw [if_neg (by simp [c]), c]; simp
  · rw [if_pos c]; exact fun e => c e.symm
theorem O9 {r : Ru} (hr : r.ok) (h : r.first < r.last) : Oth r (o9 r) := by
  have f0 := hr.f0
  have ne : (o9 r).first ≠ r.first := by show r.first + 1 ≠ r.first; omega
  have b : 0 ≤ (o9 r).first := by show 0 ≤ r.first + 1; omega
  exact ⟨⟨hr.name, hr.deed, hr.b0, hr.b1, hr.kind, hr.town, b, by show r.first + 1 ≤ r.last; omega, hr.l1, hr.o0, hr.o1⟩, fun e => ne (by rw [← e]), fun e => ne (in_int b f0 (cut1 (a := (comps r).take 5) (b := (comps r).drop 6) (comps_of e)))⟩
theorem O10 {r : Ru} (hr : r.ok) (h : r.first < r.last) : Oth r (o10 r) := by
  have f0 := hr.f0; have l1 := hr.l1
  have ne : (o10 r).last ≠ r.last := by show r.last - 1 ≠ r.last; omega
  have b : 0 ≤ (o10 r).last := by show 0 ≤ r.last - 1; omega
  exact ⟨⟨hr.name, hr.deed, hr.b0, hr.b1, hr.kind, hr.town, hr.f0, by show r.first ≤ r.last - 1; omega, by show r.last - 1 ≤ 59; omega, hr.o0, hr.o1⟩, fun e => ne (by rw [← e]), fun e => ne (in_int b (by omega) (cut1 (a := (comps r).take 6) (b := (comps r).drop 7) (comps_of e)))⟩
theorem O11 {r : Ru} (hr : r.ok) (h : r.deed ∈ (["cut", "each", "hundredths"] : List Str)) : Oth r (o11 r) := by
  have b0 := hr.b0; have b1 := hr.b1
  have v : (o11 r).bound = if 0 < r.bound then r.bound - 1 else 7 := rfl
  have hl : 7 ≤ lim r.deed := by
    simp only [List.mem_cons, List.not_mem_nil, or_false] at h
    rcases h with c | c | c <;> rw [c] <;> decide
  have ne : (o11 r).bound ≠ r.bound := by rw [v]; split <;> omega
  have b : 0 ≤ (o11 r).bound ∧ (o11 r).bound ≤ lim r.deed := by rw [v]; split <;> omega
  exact ⟨⟨hr.name, hr.deed, b.1, b.2, hr.kind, hr.town, hr.f0, hr.fl, hr.l1, hr.o0, hr.o1⟩, fun e => ne (by rw [← e]), fun e => ne (in_int b.1 b0 (cut1 (a := (comps r).take 2) (b := (comps r).drop 3) (comps_of e)))⟩
end Ro
end
section
set_option Elab.async false
set_option linter.all false
set_option maxRecDepth 100000
set_option maxHeartbeats 1000000
namespace Ro
open PySem
variable {S : Store} {env : Env}
theorem ne_oS' (o : Option Str) (z : Str) : neD (oS o) (.str z) = some (.bl (!decide (o = some z))) := by
  have hp : plD (oS o) = true := by cases o <;> rfl
  have e : pyEq (oS o) (.str z) = decide (o = some z) := eq_oS o (some z)
  unfold neD
  rw [hp, e]
  rfl
theorem ne_oI' (o : Option Int) (z : Int) : neD (oI o) (.int z) = some (.bl (!decide (o = some z))) := by
  have hp : plD (oI o) = true := by cases o <;> rfl
  have e : pyEq (oI o) (.int z) = decide (o = some z) := eq_oI o (some z)
  unfold neD
  rw [hp, e]
  rfl
theorem eq_oI' (o : Option Int) (z : Int) : eqD (oI o) (.int z) = some (.bl (decide (o = some z))) := by
  have hp : plD (oI o) = true := by cases o <;> rfl
  have e : pyEq (oI o) (.int z) = decide (o = some z) := eq_oI o (some z)
  unfold eqD
  rw [hp, e]
  rfl
theorem tr_oB (o : Option Bool) : truth (oB o) = some (decide (o = some true)) := by
  cases o with
  | none => rfl
  | some b => cases b <;> rfl
theorem nf_oB (o : Option Bool) : notBD (oB o) (.bl false) = some (.bl (!decide (o = some false))) := by
  cases o with
  | none => rfl
  | some b => cases b <;> rfl
theorem app_at {f : EX} {l : List D} {v : D} {i : Nat} (h1 : env[i]? = some (some (.ref S.length))) (h2 : f env (S ++ [.lst l]) = .ok v (S ++ [.lst l])) (hl : l.length < 16777216) : sExpr (eApp (eVar i) f) env (S ++ [.lst l]) = .ok (.nx env) (S ++ [.lst (l ++ [v])]) := by
  rw [u_sExpr, app_step (n := S.length) (l := l) (v := v) h1 (by simp) h2 hl, bnd_ok]
  simp
theorem seq_nx {s t : ES} {env env1 : Env} {S1 : Store} (h : s env S = .ok (.nx env1) S1) : sSeq s t env S = t env1 S1 := by
  rw [u_sSeq, h, bnd_ok]
theorem opv {op : D → D → Option D} {f g : EX} {x y z : D} (h1 : f env S = .ok x S) (h2 : g env S = .ok y S) (h : op x y = some z) : eOp op f g env S = .ok z S := by
  rw [u_eOp, h1, bnd_ok, h2, bnd_ok, h]
  rfl
theorem catD {A B : List D} (h : A.length + B.length ≤ 1000) : addD (.tup A) (.tup B) = some (.tup (A ++ B)) := by
  show (if _ then _ else _) = _
  rw [if_pos (by simp; omega)]
theorem tup1 {g : EX} {X : D} (h : g env S = .ok X S) : eTup (aCons g aNil) env S = .ok (.tup [X]) S := by
  simp [h]
theorem tup2 {g k : EX} {X Y : D} (h : g env S = .ok X S) (h2 : k env S = .ok Y S) : eTup (aCons g (aCons k aNil)) env S = .ok (.tup [X, Y]) S := by
  simp [h, h2]
theorem tup3 {g k m : EX} {X Y Z : D} (h : g env S = .ok X S) (h2 : k env S = .ok Y S) (h3 : m env S = .ok Z S) : eTup (aCons g (aCons k (aCons m aNil))) env S = .ok (.tup [X, Y, Z]) S := by
  simp [h, h2, h3]
theorem hi_e {d e : D} {n : Int} (h : env[0]? = some (some d)) (hc : cutD d none (some n) = some e) : eCut (eVar 0) oNone (oSome (eC (.int n))) env S = .ok e S := by
  simp [h, hc]
theorem lo_e {d e : D} {n : Int} (h : env[0]? = some (some d)) (hc : cutD d (some n) none = some e) : eCut (eVar 0) (oSome (eC (.int n))) oNone env S = .ok e S := by
  simp [h, hc]
def envR (r : Ru) (x : Option D) : Env := [some (.tup r.ds), x, some (.str r.name), some (.str r.deed), some (.int r.bound), some (oS r.kind), some (oI r.town), some (.int r.first), some (.int r.last), some (.int r.over), some (oB r.paper)]
theorem ifc {op : D → D → Option D} {i : Nat} {k d a b : D} {t : Bool} (h : env[i]? = some (some d)) (ho : op d k = some (.bl t)) : eIf (bVal (eOp op (eVar i) (eC k))) (eC a) (eC b) env S = .ok (if t then a else b) S := by
  cases t <;> simp [h, ho]
theorem ifo {i : Nat} {d a b : D} {t : Bool} (h : env[i]? = some (some d)) (ho : truth d = some t) : eIf (bOf (eVar i)) (eC a) (eC b) env S = .ok (if t then a else b) S := by
  cases t <;> simp [h, ho]
theorem ne_s' (x y : Str) : neD (.str x) (.str y) = some (.bl (!decide (x = y))) := by
  simp [neD, plD]
theorem others_ok {r : Ru} (hr : r.ok) : ∃ (L : List Ru) (X : Store), L.length ≤ 11 ∧ (∀ q ∈ L, Oth r q) ∧ m__law_others [.tup r.ds] S = .ok (.lst (L.map fun q => .tup q.ds)) (S ++ X) := by
  have hb0 := hr.b0; have ho0 := hr.o0
  have c3 : cutD (.tup r.ds) none (some 3) = some (.tup [.str r.name, .str r.deed, .int r.bound]) := rfl
  have c4 : cutD (.tup r.ds) none (some 4) = some (.tup [.str r.name, .str r.deed, .int r.bound, oS r.kind]) := rfl
  have c5 : cutD (.tup r.ds) none (some 5) = some (.tup [.str r.name, .str r.deed, .int r.bound, oS r.kind, oI r.town]) := rfl
  have c6 : cutD (.tup r.ds) none (some 6) = some (.tup [.str r.name, .str r.deed, .int r.bound, oS r.kind, oI r.town, .int r.first]) := rfl
  have c7 : cutD (.tup r.ds) none (some 7) = some (.tup [.str r.name, .str r.deed, .int r.bound, oS r.kind, oI r.town, .int r.first, .int r.last]) := rfl
  have c8 : cutD (.tup r.ds) none (some 8) = some (.tup [.str r.name, .str r.deed, .int r.bound, oS r.kind, oI r.town, .int r.first, .int r.last, .int r.over]) := rfl
  have c2 : cutD (.tup r.ds) none (some 2) = some (.tup [.str r.name, .str r.deed]) := rfl
  have d1 : cutD (.tup r.ds) (some 1) none = some (.tup [.str r.deed, .int r.bound, oS r.kind, oI r.town, .int r.first, .int r.last, .int r.over, oB r.paper]) := rfl
  have d3 : cutD (.tup r.ds) (some 3) none = some (.tup [oS r.kind, oI r.town, .int r.first, .int r.last, .int r.over, oB r.paper]) := rfl
  have d4 : cutD (.tup r.ds) (some 4) none = some (.tup [oI r.town, .int r.first, .int r.last, .int r.over, oB r.paper]) := rfl
  have d5 : cutD (.tup r.ds) (some 5) none = some (.tup [.int r.first, .int r.last, .int r.over, oB r.paper]) := rfl
  have d6 : cutD (.tup r.ds) (some 6) none = some (.tup [.int r.last, .int r.over, oB r.paper]) := rfl
  have d7 : cutD (.tup r.ds) (some 7) none = some (.tup [.int r.over, oB r.paper]) := rfl
  obtain ⟨nl1, nl2⟩ := nameOk_len hr.name
  have hbl : bLenA [.str r.name] = some (.int (r.name.length : Int)) := by
    have : r.name.length ≤ 16777216 := by omega
    simp [bLenA, bLen, lenD, this]
  have hz : mulS (.str "z") (.int (9 - (r.name.length : Int))) = some (.str (repS "z" (9 - (r.name.length : Int)))) := by
    show (if (1 ≤ (9 - (r.name.length : Int)) ∧ (9 - (r.name.length : Int)) ≤ 100) ∧ 1 ≤ ("z" : Str).length ∧ ("z" : Str).length ≤ 100 then _ else _) = _
    rw [if_pos ⟨⟨by omega, by omega⟩, by decide, by decide⟩]
  -- the rows
  have v1 : ∀ x T, eOp addD (eTup (aCons (eOp mulS (eC (.str "z")) (eOp subD (eC (.int 9)) (eB bLenA (aCons (eVar 2) aNil)))) aNil)) (eCut (eVar 0) (oSome (eC (.int 1))) oNone) (envR r x) T = .ok (.tup (o1 r).ds) T := fun x T => by
    have w : eOp mulS (eC (.str "z")) (eOp subD (eC (.int 9)) (eB bLenA (aCons (eVar 2) aNil))) (envR r x) T = .ok (.str (o1 r).name) T := by
      simp [envR, hbl, hz, o1]
    exact opv (tup1 w) (lo_e rfl d1) (catD (by simp))
  have v2 : ∀ x T, eOp addD (eTup (aCons (eVar 2) (aCons (eIf (bVal (eOp neD (eVar 3) (eC (.str "refuse")))) (eC (.str "refuse")) (eC (.str "let"))) (aCons (eC (.int 0)) aNil)))) (eCut (eVar 0) (oSome (eC (.int 3))) oNone) (envR r x) T = .ok (.tup (o2 r).ds) T := fun x T => by
    have w : eIf (bVal (eOp neD (eVar 3) (eC (.str "refuse")))) (eC (.str "refuse")) (eC (.str "let")) (envR r x) T = .ok (.str (o2 r).deed) T := by
      rw [ifc (d := .str r.deed) rfl (ne_s' _ _)]
      by_cases c : r.deed = "refuse" <;> simp [o2, c]
    exact opv (tup3 rfl w rfl) (lo_e rfl d3) (catD (by simp))
  have v3 : ∀ x T, eOp addD (eOp addD (eCut (eVar 0) oNone (oSome (eC (.int 3)))) (eTup (aCons (eIf (bVal (eOp neD (eVar 5) (eC (.str "bed")))) (eC (.str "bed")) (eC .non)) aNil))) (eCut (eVar 0) (oSome (eC (.int 4))) oNone) (envR r x) T = .ok (.tup (o3 r).ds) T := fun x T => by
    have w : eIf (bVal (eOp neD (eVar 5) (eC (.str "bed")))) (eC (.str "bed")) (eC .non) (envR r x) T = .ok (oS (o3 r).kind) T := by
      rw [ifc (d := oS r.kind) rfl (ne_oS' _ _)]
      by_cases c : r.kind = some ("bed" : Str)
      · simp [o3, c, oS]
      · simp [o3, oS]
        rw [if_neg c, if_neg c]
    exact opv (opv (hi_e rfl c3) (tup1 w) (catD (by simp))) (lo_e rfl d4) (catD (by simp))
  have v4 : ∀ x T, eOp addD (eOp addD (eCut (eVar 0) oNone (oSome (eC (.int 4)))) (eTup (aCons (eIf (bVal (eOp neD (eVar 6) (eC (.int 2)))) (eC (.int 2)) (eC .non)) aNil))) (eCut (eVar 0) (oSome (eC (.int 5))) oNone) (envR r x) T = .ok (.tup (o4 r).ds) T := fun x T => by
    have w : eIf (bVal (eOp neD (eVar 6) (eC (.int 2)))) (eC (.int 2)) (eC .non) (envR r x) T = .ok (oI (o4 r).town) T := by
      rw [ifc (d := oI r.town) rfl (ne_oI' _ _)]
      by_cases c : r.town = some 2 <;> simp [o4, c, oI]
    exact opv (opv (hi_e rfl c4) (tup1 w) (catD (by simp))) (lo_e rfl d5) (catD (by simp))
  have v5 : ∀ x T, eOp addD (eOp addD (eCut (eVar 0) oNone (oSome (eC (.int 4)))) (eTup (aCons (eIf (bVal (eOp eqD (eVar 6) (eC (.int 0)))) (eC .non) (eC (.int 0))) aNil))) (eCut (eVar 0) (oSome (eC (.int 5))) oNone) (envR r x) T = .ok (.tup (o5 r).ds) T := fun x T => by
    have w : eIf (bVal (eOp eqD (eVar 6) (eC (.int 0)))) (eC .non) (eC (.int 0)) (envR r x) T = .ok (oI (o5 r).town) T := by
      rw [ifc (d := oI r.town) rfl (eq_oI' _ _)]
      by_cases c : r.town = some 0 <;> simp [o5, c, oI]
    exact opv (opv (hi_e rfl c4) (tup1 w) (catD (by simp))) (lo_e rfl d5) (catD (by simp))
  have v6 : ∀ x T, eOp addD (eCut (eVar 0) oNone (oSome (eC (.int 7)))) (eTup (aCons (eIf (bVal (eOp ltA (eVar 9) (eOp powD (eC (.int 10)) (eC (.int 12))))) (eOp addD (eVar 9) (eC (.int 1))) (eC (.int 0))) (aCons (eVar 10) aNil))) (envR r x) T = .ok (.tup (o6 r).ds) T := fun x T => by
    have w : eIf (bVal (eOp ltA (eVar 9) (eOp powD (eC (.int 10)) (eC (.int 12))))) (eOp addD (eVar 9) (eC (.int 1))) (eC (.int 0)) (envR r x) T = .ok (.int (o6 r).over) T := by
      by_cases c : r.over < 1000000000000 <;> simp [envR, o6, ltA, c]
    exact opv (hi_e rfl c7) (tup2 w rfl) (catD (by simp))
  have v7 : ∀ x T, eOp addD (eCut (eVar 0) oNone (oSome (eC (.int 8)))) (eTup (aCons (eIf (bOf (eVar 10)) (eC .non) (eC (.bl true))) aNil)) (envR r x) T = .ok (.tup (o7 r).ds) T := fun x T => by
    have w : eIf (bOf (eVar 10)) (eC .non) (eC (.bl true)) (envR r x) T = .ok (oB (o7 r).paper) T := by
      rw [ifo (d := oB r.paper) rfl (tr_oB _)]
      by_cases c : r.paper = some true <;> simp [o7, c, oB]
    exact opv (hi_e rfl c8) (tup1 w) (catD (by simp))
  have v8 : ∀ x T, eOp addD (eCut (eVar 0) oNone (oSome (eC (.int 8)))) (eTup (aCons (eIf (bVal (eOp notBD (eVar 10) (eC (.bl false)))) (eC (.bl false)) (eC .non)) aNil)) (envR r x) T = .ok (.tup (o8 r).ds) T := fun x T => by
    have w : eIf (bVal (eOp notBD (eVar 10) (eC (.bl false)))) (eC (.bl false)) (eC .non) (envR r x) T = .ok (oB (o8 r).paper) T := by
      rw [ifc (d := oB r.paper) rfl (nf_oB _)]
      by_cases c : r.paper = some false <;> simp [o8, c, oB]
    exact opv (hi_e rfl c8) (tup1 w) (catD (by simp))
  have v9 : ∀ x T, eOp addD (eOp addD (eCut (eVar 0) oNone (oSome (eC (.int 5)))) (eTup (aCons (eOp addD (eVar 7) (eC (.int 1))) aNil))) (eCut (eVar 0) (oSome (eC (.int 6))) oNone) (envR r x) T = .ok (.tup (o9 r).ds) T := fun x T => by
    have w : eOp addD (eVar 7) (eC (.int 1)) (envR r x) T = .ok (.int (o9 r).first) T := by simp [envR, o9]
    exact opv (opv (hi_e rfl c5) (tup1 w) (catD (by simp))) (lo_e rfl d6) (catD (by simp))
  have v10 : ∀ x T, eOp addD (eOp addD (eCut (eVar 0) oNone (oSome (eC (.int 6)))) (eTup (aCons (eOp subD (eVar 8) (eC (.int 1))) aNil))) (eCut (eVar 0) (oSome (eC (.int 7))) oNone) (envR r x) T = .ok (.tup (o10 r).ds) T := fun x T => by
    have w : eOp subD (eVar 8) (eC (.int 1)) (envR r x) T = .ok (.int (o10 r).last) T := by simp [envR, o10]
    exact opv (opv (hi_e rfl c6) (tup1 w) (catD (by simp))) (lo_e rfl d7) (catD (by simp))
  have v11 : ∀ x T, eOp addD (eOp addD (eCut (eVar 0) oNone (oSome (eC (.int 2)))) (eTup (aCons (eIf (bVal (eOp gtD (eVar 4) (eC (.int 0)))) (eOp subD (eVar 4) (eC (.int 1))) (eC (.int 7))) aNil))) (eCut (eVar 0) (oSome (eC (.int 3))) oNone) (envR r x) T = .ok (.tup (o11 r).ds) T := fun x T => by
    have w : eIf (bVal (eOp gtD (eVar 4) (eC (.int 0)))) (eOp subD (eVar 4) (eC (.int 1))) (eC (.int 7)) (envR r x) T = .ok (.int (o11 r).bound) T := by
      by_cases c : 0 < r.bound <;> simp [envR, o11, c]
    exact opv (opv (hi_e rfl c2) (tup1 w) (catD (by simp))) (lo_e rfl d3) (catD (by simp))
  have fin14 : ∀ (T : Store) (L : List Ru), t__law_others_14 (envR r (some (.ref T.length))) (T ++ [.lst (L.map fun q => .tup q.ds)]) = .ok (.rt (.lst (L.map fun q => .tup q.ds))) (T ++ [.dead]) := fun T L => by
    have e := frz_step (S := T ++ [.lst (L.map fun q => .tup q.ds)]) (env := envR r (some (.ref T.length))) (f := eVar 1) (n := T.length) (l := L.map fun q => .tup q.ds) rfl (by simp)
    unfold t__law_others_14
    rw [u_sRet, e, bnd_ok]
    simp
  have fin12 : ∀ (T : Store) (L : List Ru), L.length ≤ 10 → (∀ q ∈ L, Oth r q) → ∃ L' : List Ru, L'.length ≤ 11 ∧ (∀ q ∈ L', Oth r q) ∧ t__law_others_12 (envR r (some (.ref T.length))) (T ++ [.lst (L.map fun q => .tup q.ds)]) = .ok (.rt (.lst (L'.map fun q => .tup q.ds))) (T ++ [.dead]) := fun T L hL hO => by
    have hin : inD (.str r.deed) (.lst [.str "cut", .str "each", .str "hundredths"]) = some (.bl (decide (r.deed ∈ (["cut", "each", "hundredths"] : List Str)))) := by
      have e : inL (.str r.deed) [.str "cut", .str "each", .str "hundredths"] = decide (r.deed ∈ (["cut", "each", "hundredths"] : List Str)) := by
        simp only [inL_cons, inL_nil, pyEq_str, List.mem_cons, List.not_mem_nil, or_false, Bool.or_false]
        simp only [eq_comm (b := r.deed), Bool.decide_or]
      unfold inD
      dsimp only
      rw [e]
      rfl
    have ht : bVal (eOp inD (eVar 3) (eLst (aCons (eC (.str "cut")) (aCons (eC (.str "each")) (aCons (eC (.str "hundredths")) aNil))))) (envR r (some (.ref T.length))) (T ++ [.lst (L.map fun q => .tup q.ds)]) = .ok (decide (r.deed ∈ (["cut", "each", "hundredths"] : List Str))) (T ++ [.lst (L.map fun q => .tup q.ds)]) := by
      generalize decide (r.deed ∈ (["cut", "each", "hundredths"] : List Str)) = B at hin ⊢
      simp [envR, hin]
    unfold t__law_others_12
    by_cases c : r.deed ∈ (["cut", "each", "hundredths"] : List Str)
    · rw [decide_eq_true c] at ht
      have ap := app_at (S := T) (env := envR r (some (.ref T.length))) (i := 1) (l := L.map fun q => .tup q.ds) rfl (v11 _ _) (by simp; omega)
      have e1 := fin14 T (L ++ [o11 r])
      refine ⟨L ++ [o11 r], by simp; omega, fun q hq => ?_, ?_⟩
      · rcases List.mem_append.mp hq with hq | hq
        · exact hO q hq
        · simp at hq
          rw [hq]
          exact O11 hr c
      · rw [u_sSeq, u_sIf, ht, bnd_ok, if_pos rfl, ap, bnd_ok]
        dsimp only
        rw [← e1]
        simp
    · rw [decide_eq_false c] at ht
      refine ⟨L, by omega, hO, ?_⟩
      rw [u_sSeq, u_sIf, ht, bnd_ok, if_neg Bool.false_ne_true, ← fin14 T L]
      rfl
  obtain ⟨A, hA⟩ : ∃ A : List Ru, A = [o1 r, o2 r, o3 r, o4 r, o5 r, o6 r, o7 r, o8 r] := ⟨_, rfl⟩
  have hOA : ∀ q ∈ A, Oth r q := fun q hq => by
    rw [hA] at hq
    simp only [List.mem_cons, List.not_mem_nil, or_false] at hq
    rcases hq with rfl | rfl | rfl | rfl | rfl | rfl | rfl | rfl
    · exact O1 hr
    · exact O2 hr
    · exact O3 hr
    · exact O4 hr
    · exact O5 hr
    · exact O6 hr
    · exact O7 hr
    · exact O8 hr
  have start : m__law_others [.tup r.ds] S = (t__law_others_10 (envR r (some (.ref S.length))) (S ++ [.lst (A.map fun q => .tup q.ds)])).bnd fun c S1 => match c with
      | .rt d => .ok d S1
      | .nx e => .ok .non S1
      | _ => .bad := by
    have u1 : (sUnp (pTup (pCons (pName 2) (pCons (pName 3) (pCons (pName 4) pNil)))) (eCut (eVar 0) oNone (oSome (eC (.int 3))))) [some (.tup r.ds), none, none, none, none, none, none, none, none, none, none] S = .ok (.nx [some (.tup r.ds), none, some (.str r.name), some (.str r.deed), some (.int r.bound), none, none, none, none, none, none]) S := by
      rw [u_sUnp, hi_e rfl c3, bnd_ok]
      rfl
    have u2 : (sUnp (pTup (pCons (pName 5) (pCons (pName 6) (pCons (pName 7) (pCons (pName 8) (pCons (pName 9) (pCons (pName 10) pNil))))))) (eCut (eVar 0) (oSome (eC (.int 3))) oNone)) [some (.tup r.ds), none, some (.str r.name), some (.str r.deed), some (.int r.bound), none, none, none, none, none, none] S = .ok (.nx (envR r none)) S := by
      rw [u_sUnp, lo_e rfl d3, bnd_ok]
      rfl
    have u3 := fun {f g : EX} (h1 : f (envR r none) S = .ok (.tup (o1 r).ds) S) (h2 : g (envR r none) S = .ok (.tup (o2 r).ds) S) => show sSet 1 (eLstM (aCons f (aCons g aNil))) (envR r none) S = .ok (.nx (envR r (some (.ref S.length)))) (S ++ [.lst [.tup (o1 r).ds, .tup (o2 r).ds]]) by
      have e : eLstM (aCons f (aCons g aNil)) (envR r none) S = .ok (.ref S.length) (S ++ [.lst [.tup (o1 r).ds, .tup (o2 r).ds]]) := by
        simp [h1, h2]
      rw [u_sSet, e, bnd_ok]
      rfl
    have ap := fun {l : List D} {f : EX} {v : D} (h2 : f (envR r (some (.ref S.length))) (S ++ [.lst l]) = .ok v (S ++ [.lst l])) (hl : l.length < 16777216) => app_at (S := S) (env := envR r (some (.ref S.length))) (i := 1) (l := l) (v := v) rfl h2 hl
    unfold m__law_others
    rw [u_fnM, x__law_others]
    congr 1
    show sSeq (sUnp (pTup (pCons (pName 2) (pCons (pName 3) (pCons (pName 4) pNil)))) (eCut (eVar 0) oNone (oSome (eC (.int 3))))) t__law_others_2 [some (.tup r.ds), none, none, none, none, none, none, none, none, none, none] S = _
    rw [seq_nx u1]
    unfold t__law_others_2
    rw [seq_nx u2]
    unfold t__law_others_3
    rw [seq_nx (u3 (v1 _ _) (v2 _ _))]
    unfold t__law_others_4
    rw [seq_nx (ap (v3 _ _) (by simp))]
    unfold t__law_others_5
    rw [seq_nx (ap (v4 _ _) (by simp))]
    unfold t__law_others_6
    rw [seq_nx (ap (v5 _ _) (by simp))]
    unfold t__law_others_7
    rw [seq_nx (ap (v6 _ _) (by simp))]
    unfold t__law_others_8
    rw [seq_nx (ap (v7 _ _) (by simp))]
    unfold t__law_others_9
    rw [seq_nx (ap (v8 _ _) (by simp)), hA]
    rfl
  have hAl : A.length = 8 := by rw [hA]; rfl
  have lt : bVal (eOp ltA (eVar 7) (eVar 8)) (envR r (some (.ref S.length))) (S ++ [.lst (A.map fun q => .tup q.ds)]) = .ok (decide (r.first < r.last)) (S ++ [.lst (A.map fun q => .tup q.ds)]) := by
    simp [envR, ltA]
  by_cases c : r.first < r.last
  · rw [decide_eq_true c] at lt
    have hl2 : eLst (aCons (eOp addD (eOp addD (eCut (eVar 0) oNone (oSome (eC (.int 5)))) (eTup (aCons (eOp addD (eVar 7) (eC (.int 1))) aNil))) (eCut (eVar 0) (oSome (eC (.int 6))) oNone)) (aCons (eOp addD (eOp addD (eCut (eVar 0) oNone (oSome (eC (.int 6)))) (eTup (aCons (eOp subD (eVar 8) (eC (.int 1))) aNil))) (eCut (eVar 0) (oSome (eC (.int 7))) oNone)) aNil)) (envR r (some (.ref S.length))) (S ++ [.lst (A.map fun q => .tup q.ds)]) = .ok (.lst [.tup (o9 r).ds, .tup (o10 r).ds]) (S ++ [.lst (A.map fun q => .tup q.ds)]) := by
      have w9 := v9 (some (.ref S.length)) (S ++ [.lst (A.map fun q => .tup q.ds)])
      have w10 := v10 (some (.ref S.length)) (S ++ [.lst (A.map fun q => .tup q.ds)])
      generalize eOp addD (eOp addD (eCut (eVar 0) oNone (oSome (eC (.int 5)))) (eTup (aCons (eOp addD (eVar 7) (eC (.int 1))) aNil))) (eCut (eVar 0) (oSome (eC (.int 6))) oNone) = F9 at w9 ⊢
      generalize eOp addD (eOp addD (eCut (eVar 0) oNone (oSome (eC (.int 6)))) (eTup (aCons (eOp subD (eVar 8) (eC (.int 1))) aNil))) (eCut (eVar 0) (oSome (eC (.int 7))) oNone) = F10 at w10 ⊢
      simp [w9, w10]
    have am := addM_step (S := S ++ [.lst (A.map fun q => .tup q.ds)]) (env := envR r (some (.ref S.length))) (f := eVar 1) (n := S.length) (l := A.map fun q => .tup q.ds) rfl (by simp) hl2 (by simp; omega)
    have hA2 : ∀ q ∈ A ++ [o9 r, o10 r], Oth r q := fun q hq => by
      simp only [List.mem_append, List.mem_cons, List.not_mem_nil, or_false] at hq
      rcases hq with hq | rfl | rfl
      · exact hOA q hq
      · exact O9 hr c
      · exact O10 hr c
    obtain ⟨L, l1, l2, l3⟩ := fin12 (S ++ [.lst (A.map fun q => .tup q.ds)]) (A ++ [o9 r, o10 r]) (by simp; omega) hA2
    refine ⟨L, [.lst (A.map fun q => .tup q.ds), .dead], l1, l2, ?_⟩
    have ss : sSet 1 (eAddM (eVar 1) (eLst (aCons (eOp addD (eOp addD (eCut (eVar 0) oNone (oSome (eC (.int 5)))) (eTup (aCons (eOp addD (eVar 7) (eC (.int 1))) aNil))) (eCut (eVar 0) (oSome (eC (.int 6))) oNone)) (aCons (eOp addD (eOp addD (eCut (eVar 0) oNone (oSome (eC (.int 6)))) (eTup (aCons (eOp subD (eVar 8) (eC (.int 1))) aNil))) (eCut (eVar 0) (oSome (eC (.int 7))) oNone)) aNil)))) (envR r (some (.ref S.length))) (S ++ [.lst (A.map fun q => .tup q.ds)]) = .ok (.nx (envR r (some (.ref (S ++ [Cell.lst (A.map fun q => .tup q.ds)]).length)))) (S ++ [.lst (A.map fun q => .tup q.ds)] ++ [.lst ((A ++ [o9 r, o10 r]).map fun q => .tup q.ds)]) := by
      rw [u_sSet, am, bnd_ok]
      simp
      rfl
    rw [start]
    unfold t__law_others_10
    rw [u_sSeq, u_sIf, lt, bnd_ok, if_pos rfl, ss, bnd_ok]
    dsimp only
    rw [l3, bnd_ok]
    simp
  · rw [decide_eq_false c] at lt
    obtain ⟨L, l1, l2, l3⟩ := fin12 S A (by omega) hOA
    refine ⟨L, [.dead], l1, l2, ?_⟩
    rw [start]
    unfold t__law_others_10
    rw [u_sSeq, u_sIf, lt, bnd_ok, if_neg Bool.false_ne_true]
    show ((R.ok (Ctl.nx (envR r (some (.ref S.length)))) (S ++ [.lst (A.map fun q => .tup q.ds)])).bnd _).bnd _ = _
    rw [bnd_ok]
    dsimp only
    rw [l3, bnd_ok]
end Ro
end
section
set_option Elab.async false
set_option linter.all false
set_option maxRecDepth 100000
set_option maxHeartbeats 1000000
namespace Ro
open PySem
variable {S : Store} {env : Env}
theorem or_ff {a b : BX} {S1 S2 : Store} (h1 : a env S = .ok false S1) (h2 : b env S1 = .ok false S2) : bOr a b env S = .ok false S2 := by
  rw [u_bOr, h1, bnd_ok, if_neg Bool.false_ne_true, h2]
theorem bv_of {a : EX} {b : Bool} {S1 : Store} (h : a env S = .ok (.bl b) S1) : bVal a env S = .ok b S1 := by
  rw [u_bVal, h, bnd_ok]
theorem nt_of {a : BX} {b : Bool} {S1 : Store} (h : a env S = .ok b S1) : bNot a env S = .ok (!b) S1 := by
  show (a env S).bnd _ = _
  rw [h, bnd_ok]
theorem if_skip {c : BX} {s t : ES} {S1 : Store} (h : c env S = .ok false S1) : sIf c s t env S = t env S1 := by
  rw [u_sIf, h, bnd_ok, if_neg Bool.false_ne_true]
theorem u_eEqA {tab : ETab} {cls : List String} {op : Bool → Bool} {f g : EX} {env : Env} : eEqA tab cls op f g env S = (f env S).bnd fun x S1 => (g env S1).bnd fun y S2 => eqAM tab cls op x y S2 := rfl
theorem eqv {op : Bool → Bool} {f g : EX} {a b : D} {r : Bool} (h1 : f env S = .ok a S) (h2 : g env S = .ok b S) (h : eqAM tab_0 cls_0 op a b S = .ok (.bl r) S) : eEqA tab_0 cls_0 op f g env S = .ok (.bl r) S := by
  rw [u_eEqA, h1, bnd_ok, h2, bnd_ok, h]
theorem var_of {i : Nat} {a : D} (h : env[i]? = some (some a)) : eVar i env S = .ok a S := by
  rw [u_eVar, h]
theorem rpv {f : EX} {p : Ru} (h1 : f env S = .ok p.obj S) (hp : p.ok) : eReprO "Rule" m_Rule_repr f env S = .ok (.str (rtx p)) S := by
  have e : reprM "Rule" m_Rule_repr p.obj S = .ok (.str (rtx p)) S := by
    unfold reprM
    show (if "Rule" = "Rule" then (match m_Rule_repr [p.obj] S with
      | R.ok (D.str z) S2 => R.ok (D.str z) S2
      | _ => R.bad) else R.bad) = _
    rw [if_pos rfl, repr_ok hp]
  show (f env S).bnd (reprM "Rule" m_Rule_repr) = _
  rw [h1, bnd_ok, e]
theorem eq_s (x y : Str) : eqD (.str x) (.str y) = some (.bl (decide (x = y))) := rfl
theorem same_step {p : Ru} {x0 x1 x2 x3 x5 x6 x7 : Option D} {t8 : ES} (hp : p.ok) :
    (sSeq (sIf (bOr (bVal (eEqA tab_0 cls_0 not (eVar 8) (eVar 9))) (bOr (bNot (bVal (eEqA tab_0 cls_0 id (eVar 9) (eVar 8)))) (bOr (bVal (eOp neD (eReprO "Rule" m_Rule_repr (eVar 8)) (eFn (callM m__law_rule_shown 1 0 1 [(0, 0)] []) (aCons (eVar 4) aNil) aNil))) (bVal (eOp neD (eReprO "Rule" m_Rule_repr (eVar 9)) (eReprO "Rule" m_Rule_repr (eVar 8))))))) (sRet (eC (.bl false))) sPass) t8) [x0, x1, x2, x3, some (.tup p.ds), x5, x6, x7, some p.obj, some p.obj] S
      = t8 [x0, x1, x2, x3, some (.tup p.ds), x5, x6, x7, some p.obj, some p.obj] S := by
  have v8 : eVar 8 [x0, x1, x2, x3, some (.tup p.ds), x5, x6, x7, some p.obj, some p.obj] S = .ok p.obj S := var_of rfl
  have v9 : eVar 9 [x0, x1, x2, x3, some (.tup p.ds), x5, x6, x7, some p.obj, some p.obj] S = .ok p.obj S := var_of rfl
  have sh : eFn (callM m__law_rule_shown 1 0 1 [(0, 0)] []) (aCons (eVar 4) aNil) aNil [x0, x1, x2, x3, some (.tup p.ds), x5, x6, x7, some p.obj, some p.obj] S = .ok (.str (rtx p)) S := by
    simp [shown_ok hp]
  have e1 := ruM (S := S) (p := p) (q := p) id
  have e2 := ruM (S := S) (p := p) (q := p) not
  rw [eqB_self] at e1 e2
  rw [u_sSeq, if_skip (or_ff (bv_of (eqv v8 v9 e2)) (or_ff (nt_of (bv_of (eqv v9 v8 e1))) (or_ff (bv_of (opv (rpv v8 hp) sh (ne_str _))) (bv_of (opv (rpv v9 hp) (rpv v8 hp) (ne_str _))))))]
  rfl
theorem any_no {e : D → Option Bool} : ∀ {l : List D}, (∀ x ∈ l, e x = some false) → anyA e l = some false
  | [], _ => rfl
  | x :: l, h => by rw [anyA, h x (by simp)]; exact any_no fun y hy => h y (by simp [hy])
theorem any_end {e : D → Option Bool} {z : D} (hz : e z = some true) : ∀ {l : List D}, (∀ x ∈ l, e x = some false) → anyA e (l ++ [z]) = some true
  | [], _ => by rw [List.nil_append, anyA, hz]
  | x :: l, h => by rw [List.cons_append, anyA, h x (by simp)]; exact any_end hz fun y hy => h y (by simp [hy])
theorem in_step {p : Ru} {L : List Ru} {x0 x1 x2 x3 x4 x6 x7 : Option D} {t11 : ES} (hL : L.length ≤ 11) (h : ∀ q ∈ L, Oth p q) :
    (sSeq (sIf (bOr (bVal (eInA tab_0 cls_0 id (eVar 8) (eVar 5))) (bVal (eInA tab_0 cls_0 not (eVar 9) (eOp addD (eVar 5) (eLst (aCons (eVar 8) aNil)))))) (sRet (eC (.bl false))) sPass) t11) [x0, x1, x2, x3, x4, some (.lst (L.map Ru.obj)), x6, x7, some p.obj, some p.obj] S
      = t11 [x0, x1, x2, x3, x4, some (.lst (L.map Ru.obj)), x6, x7, some p.obj, some p.obj] S := by
  have v8 : eVar 8 [x0, x1, x2, x3, x4, some (.lst (L.map Ru.obj)), x6, x7, some p.obj, some p.obj] S = .ok p.obj S := var_of rfl
  have v9 : eVar 9 [x0, x1, x2, x3, x4, some (.lst (L.map Ru.obj)), x6, x7, some p.obj, some p.obj] S = .ok p.obj S := var_of rfl
  have v5 : eVar 5 [x0, x1, x2, x3, x4, some (.lst (L.map Ru.obj)), x6, x7, some p.obj, some p.obj] S = .ok (.lst (L.map Ru.obj)) S := var_of rfl
  have el : ∀ x ∈ L.map Ru.obj, eqE tab_0 cls_0 S 6 x p.obj = some false := fun x hx => by
    obtain ⟨q, hq, rfl⟩ := List.mem_map.mp hx
    rw [ru_E, eqB_ne fun e => (h q hq).ne e.symm]
  have n1 := any_no el
  have n2 := any_end (e := fun z => eqE tab_0 cls_0 S 6 z p.obj) (z := p.obj) (by show eqE tab_0 cls_0 S 6 p.obj p.obj = _; rw [ru_E, eqB_self]) el
  have ad : addD (.lst (L.map Ru.obj)) (.lst [p.obj]) = some (.lst (L.map Ru.obj ++ [p.obj])) := by
    show (if _ then _ else _) = _
    rw [if_pos (by simp; omega)]
  have hl : eLst (aCons (eVar 8) aNil) [x0, x1, x2, x3, x4, some (.lst (L.map Ru.obj)), x6, x7, some p.obj, some p.obj] S = .ok (.lst [p.obj]) S := by simp
  have i1 : eInA tab_0 cls_0 id (eVar 8) (eVar 5) [x0, x1, x2, x3, x4, some (.lst (L.map Ru.obj)), x6, x7, some p.obj, some p.obj] S = .ok (.bl false) S := by
    show (eVar 8 _ S).bnd _ = _
    rw [v8, bnd_ok, v5, bnd_ok]
    show (match anyA (fun z => eqE tab_0 cls_0 S 6 z p.obj) (L.map Ru.obj) with
      | some b => R.ok (D.bl (id b)) S
      | none => R.bad) = _
    rw [n1]
    rfl
  have i2 : eInA tab_0 cls_0 not (eVar 9) (eOp addD (eVar 5) (eLst (aCons (eVar 8) aNil))) [x0, x1, x2, x3, x4, some (.lst (L.map Ru.obj)), x6, x7, some p.obj, some p.obj] S = .ok (.bl false) S := by
    show (eVar 9 _ S).bnd _ = _
    rw [v9, bnd_ok, opv v5 hl ad, bnd_ok]
    show (match anyA (fun z => eqE tab_0 cls_0 S 6 z p.obj) (L.map Ru.obj ++ [p.obj]) with
      | some b => R.ok (D.bl (not b)) S
      | none => R.bad) = _
    rw [n2]
    rfl
  rw [u_sSeq, if_skip (or_ff (bv_of i1) (bv_of i2))]
  rfl
theorem other_step {p q : Ru} {x0 x1 x2 x3 x4 x5 x7 x9 : Option D} (hp : p.ok) (h : Oth p q) : t_law_12 [x0, x1, x2, x3, x4, x5, some q.obj, x7, some p.obj, x9] S = .ok (.nx [x0, x1, x2, x3, x4, x5, some q.obj, x7, some p.obj, x9]) S := by
  have v8 : eVar 8 [x0, x1, x2, x3, x4, x5, some q.obj, x7, some p.obj, x9] S = .ok p.obj S := var_of rfl
  have v6 : eVar 6 [x0, x1, x2, x3, x4, x5, some q.obj, x7, some p.obj, x9] S = .ok q.obj S := var_of rfl
  have e1 := ruM (S := S) (p := q) (q := p) id
  have e2 := ruM (S := S) (p := p) (q := q) not
  rw [eqB_ne fun e => h.ne e.symm] at e1
  rw [eqB_ne h.ne] at e2
  have e3 : eqD (.str (rtx q)) (.str (rtx p)) = some (.bl false) := by rw [eq_s, decide_eq_false h.tx]
  unfold t_law_12
  rw [if_skip (or_ff (bv_of (eqv v6 v8 e1)) (or_ff (nt_of (bv_of (eqv v8 v6 e2))) (bv_of (opv (rpv v6 h.ok) (rpv v8 hp) e3))))]
  rfl
theorem thing_step {p : Ru} {d : D} {x0 x1 x2 x3 x4 x5 x6 x9 : Option D} (h : rhsB [] d = true) : t_law_15 [x0, x1, x2, x3, x4, x5, x6, some d, some p.obj, x9] S = .ok (.nx [x0, x1, x2, x3, x4, x5, x6, some d, some p.obj, x9]) S := by
  have v8 : eVar 8 [x0, x1, x2, x3, x4, x5, x6, some d, some p.obj, x9] S = .ok p.obj S := var_of rfl
  have v7 : eVar 7 [x0, x1, x2, x3, x4, x5, x6, some d, some p.obj, x9] S = .ok d S := var_of rfl
  obtain ⟨e1, e2, e3⟩ := oM (S := S) (p := p) h
  unfold t_law_15
  rw [if_skip (or_ff (bv_of (eqv v8 v7 e1)) (or_ff (bv_of (eqv v7 v8 e3)) (nt_of (bv_of (eqv v8 v7 e2)))))]
  rfl
theorem odd_rhs {d : D} (h : Odd d) : rhsB [] d = true := by
  have k := h.k
  cases d with
  | scr l => cases k
  | obj c l => cases k
  | ref n => cases k
  | fn n => cases k
  | thk n l => cases k
  | _ => rfl
theorem tupM {p q : Ru} : eqAM tab_0 cls_0 not (.tup q.ds) (.tup p.ds) S = .ok (.bl (!eqB q p)) S := by
  have hp : ∀ q : Ru, plN 8 (.tup q.ds) = true := fun q => by
    show q.ds.all (plN 7) = true
    rw [List.all_eq_true]
    exact fun x hx => pl_atom (ru_at q x hx)
  unfold eqAM eqAP
  have e1 : ∀ q : Ru, isObj (.tup q.ds) = false := fun _ => rfl
  have e2 : ∀ q : Ru, seeD (.tup q.ds) S = .tup q.ds := fun _ => rfl
  have a : eqA tab_0 cls_0 S 6 (.tup q.ds) (.tup p.ds) = some (eqB q p) := by
    rw [eqA_s, hp, hp, if_pos (by rfl), pyEq_tup]
    rfl
  rw [e1, e1, e2, e2, a]
  simp
theorem turn_ok {b i : Nat} {ns : List Int} {x3 x4 x5 x6 x7 x8 x9 : Option D} (hB : Bx S b) : W (t_law_4 [some (.scr ns), some (.int (i : Int)), some (.ref b), x3, x4, x5, x6, x7, x8, x9] S) fun c S' => (∃ y4 y5 y6 y7 y8 y9 : Option D, c = .nx [some (.scr ns), some (.int (i : Int)), some (.ref b), x3, y4, y5, y6, y7, y8, y9]) ∧ Bx S' b := by
  unfold t_law_4
  simp
  refine (lname_ok hB).mono ?_
  rintro _ S0 ⟨nm, rfl, hnm, s0⟩
  have B0 := s0.bx hB.lt
  try simp
  refine (ruled_ok B0 hnm).mono ?_
  rintro _ S1 ⟨p, hp, hname, rfl, s1⟩
  have B1 := s1.bx B0.lt
  try simp
  unfold t_law_5
  obtain ⟨X1, e1⟩ := made_ok (S := S1) hp
  have B2 : Bx (S1 ++ X1) b := B1.app X1
  generalize S1 ++ X1 = S2 at e1 B2
  obtain ⟨X2, e2⟩ := made_ok (S := S2) hp
  have B3 : Bx (S2 ++ X2) b := B2.app X2
  generalize S2 ++ X2 = S3 at e2 B3
  simp [e1, e2]
  unfold t_law_6
  rw [same_step hp]
  unfold t_law_8
  obtain ⟨L, X, hL, hO, eo⟩ := others_ok (S := S3) hp
  have B4 : Bx (S3 ++ X) b := B3.app X
  generalize S3 ++ X = S4 at eo B4
  simp [eo]
  refine W.lc (I := fun k acc S' => acc = (L.take k).map Ru.obj ∧ Bx S' b) (k := 0) ⟨by simp, B4⟩ (by simp; omega) (fun k x acc S5 hk hx hI => ?_) (fun acc S5 hI => ?_)
  · obtain ⟨rfl, B5⟩ := hI
    simp only [Nat.sub_zero, List.getElem?_map] at hx
    cases z : L[k]? with
    | none => rw [z] at hx; cases hx
    | some q =>
      rw [z] at hx
      cases hx
      have hq := hO q (List.mem_of_getElem? z)
      obtain ⟨X, e⟩ := made_ok (S := S5) hq.ok
      refine ⟨_, rfl, ?_⟩
      have ht := tupM (S := S5) (p := p) (q := q)
      rw [eqB_ne fun e => hq.ne e.symm] at ht
      have hc : bVal (eEqA tab_0 cls_0 not (eVar 6) (eVar 4)) ((wipeE [some (.scr ns), some (.int (i : Int)), some (.ref b), x3, some (.tup p.ds), x5, x6, x7, some p.obj, some p.obj] [6]).set 6 (some (.tup q.ds))) S5 = .ok true S5 := bv_of (eqv (var_of rfl) (var_of rfl) ht)
      rw [hc, W_ok]
      simp [wipeE, e]
      refine ⟨?_, B5.app X⟩
      rw [List.take_add_one, List.getElem?_map, z]
      rfl
  · obtain ⟨rfl, B5⟩ := hI
    have et : L.take (0 + (L.map fun q => D.tup q.ds).length) = L := List.take_of_length_le (by simp)
    rw [et]
    try simp
    unfold t_law_9
    rw [in_step hL hO]
    unfold t_law_11
    simp
    refine W.loop (I := fun k env S' => (∃ y6 : Option D, env = [some (.scr ns), some (.int (i : Int)), some (.ref b), x3, some (.tup p.ds), some (.lst (L.map Ru.obj)), y6, x7, some p.obj, some p.obj]) ∧ S' = S5) (k := 0) ⟨⟨_, rfl⟩, rfl⟩ (fun j dd env S7 hj hd hI => ?_) (fun env S7 hI => ?_)
    · obtain ⟨⟨y6, rfl⟩, rfl⟩ := hI
      obtain ⟨q, hq, rfl⟩ := List.mem_map.mp (List.mem_of_getElem? hd)
      refine ⟨_, rfl, ?_⟩
      show W (t_law_12 [some (.scr ns), some (.int (i : Int)), some (.ref b), x3, some (.tup p.ds), some (.lst (L.map Ru.obj)), some q.obj, x7, some p.obj, some p.obj] S7) _
      rw [other_step hp (hO q hq), W_ok]
      exact ⟨⟨_, rfl⟩, rfl⟩
    · obtain ⟨⟨y6, rfl⟩, rfl⟩ := hI
      try simp
      unfold t_law_14
      have rp := rpv (env := [some (.scr ns), some (.int (i : Int)), some (.ref b), x3, some (.tup p.ds), some (.lst (L.map Ru.obj)), y6, x7, some p.obj, some p.obj]) (S := S7) (f := eVar 8) (p := p) (var_of rfl) hp
      have i0 : ∀ S : Store, idxB (.tup p.ds) (.int 0) S = some (.str p.name) := fun _ => rfl
      generalize eReprO "Rule" m_Rule_repr (eVar 8) = RP at rp
      simp [-idx_tup, rp, i0]
      refine (lodd_ok B5).mono ?_
      rintro d S8 ⟨ho, s8⟩
      have B8 := s8.bx B5.lt
      try simp
      have hth : ∀ x ∈ [D.tup p.ds, .str p.name, .str (rtx p), .non, .bl true, .lst [p.obj], d], rhsB [] x = true := by
        intro x hx
        simp only [List.mem_cons, List.not_mem_nil, or_false] at hx
        rcases hx with rfl | rfl | rfl | rfl | rfl | rfl | rfl
        all_goals first | rfl | exact odd_rhs ho
      generalize [D.tup p.ds, .str p.name, .str (rtx p), .non, .bl true, .lst [p.obj], d] = TH at hth
      refine W.loop (I := fun k env S' => (∃ y7 : Option D, env = [some (.scr ns), some (.int (i : Int)), some (.ref b), x3, some (.tup p.ds), some (.lst (L.map Ru.obj)), y6, y7, some p.obj, some p.obj]) ∧ S' = S8) (k := 0) ⟨⟨_, rfl⟩, rfl⟩ (fun j dd env S9 hj hd hI => ?_) (fun env S9 hI => ?_)
      · obtain ⟨⟨y7, rfl⟩, rfl⟩ := hI
        refine ⟨_, rfl, ?_⟩
        show W (t_law_15 [some (.scr ns), some (.int (i : Int)), some (.ref b), x3, some (.tup p.ds), some (.lst (L.map Ru.obj)), y6, some dd, some p.obj, some p.obj] S9) _
        rw [thing_step (hth dd (List.mem_of_getElem? hd)), W_ok]
        exact ⟨⟨_, rfl⟩, rfl⟩
      · obtain ⟨⟨y7, rfl⟩, rfl⟩ := hI
        exact ⟨⟨_, _, _, _, _, _, rfl⟩, B8⟩
theorem law07_ok {ns : List Int} (hl : ns.length ≤ 63) : ∃ S, m_law [.scr ns] [] = .ok (.bl true) S := by
  refine W.ex ?_
  unfold m_law
  rw [x_law]
  simp [bLenA, bLen, lenD, bMin2, bMax2]
  generalize hN : (if (1 : Int) < (if (4 : Int) < (ns.length : Int) then (4 : Int) else (ns.length : Int)) then (if (4 : Int) < (ns.length : Int) then (4 : Int) else (ns.length : Int)) else (1 : Int)) = N
  have hN2 : N ≤ 4 ∧ -4611686018427387904 ≤ N ∧ N < 4611686018427387904 := by
    rw [← hN]
    split <;> split <;> omega
  simp [hN2.2]
  refine W.loop (I := fun i env S' => ∃ x1 x2 x3 x4 x5 x6 x7 x8 x9 : Option D, env = [some (.scr ns), x1, x2, x3, x4, x5, x6, x7, x8, x9]) (k := 0)
    ⟨none, none, none, none, none, none, none, none, none, rfl⟩ (fun i d env S' hi hd hI => ?_) (fun env S' hI => ?_)
  · obtain ⟨x1, x2, x3, x4, x5, x6, x7, x8, x9, rfl⟩ := hI
    obtain ⟨hi2, rfl⟩ := rng_get hd
    refine ⟨_, rfl, ?_⟩
    simp
    unfold t_law_2
    simp
    refine (box_ok (k := i) hl (by omega)).mono ?_
    rintro _ _ ⟨z1, z2, rfl, rfl, h1, h2⟩
    have hB : Bx (S' ++ [.lst [.int z1, .int z2]]) S'.length := ⟨z1, z2, by simp, h1, h2⟩
    generalize S' ++ [.lst [.int z1, .int z2]] = S0 at hB
    generalize S'.length = b at hB
    try simp
    unfold t_law_3
    simp
    refine W.loop (I := fun k env S' => (∃ y3 y4 y5 y6 y7 y8 y9 : Option D, env = [some (.scr ns), some (.int (i : Int)), some (.ref b), y3, y4, y5, y6, y7, y8, y9]) ∧ Bx S' b) (k := 0) ⟨⟨_, _, _, _, _, _, _, rfl⟩, hB⟩ (fun j dd env S7 hj hd hI => ?_) (fun env S7 hI => ?_)
    · obtain ⟨⟨y3, y4, y5, y6, y7, y8, y9, rfl⟩, B7⟩ := hI
      refine ⟨_, rfl, ?_⟩
      refine (turn_ok B7).mono ?_
      rintro _ S8 ⟨⟨z4, z5, z6, z7, z8, z9, rfl⟩, B8⟩
      exact ⟨⟨_, _, _, _, _, _, _, rfl⟩, B8⟩
    · obtain ⟨⟨y3, y4, y5, y6, y7, y8, y9, rfl⟩, B7⟩ := hI
      exact ⟨_, _, _, _, _, _, _, _, _, rfl⟩
  · obtain ⟨x1, x2, x3, x4, x5, x6, x7, x8, x9, rfl⟩ := hI
    simp [t_law_17]
end Ro
end
open PySem
set_option maxRecDepth 100000 in
theorem PySem.Challenge.cw_roadpence_k07_rules_alike_holds : PySem.Challenge.rw_roadpence_k07_rules_alike.Holds := by
  exact Ro.law_from fun ns hl _ => Ro.law07_ok hl

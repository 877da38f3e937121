import PyProof.Rows.All
import Wide.All
import OpenK.AllK
import Wide.FinOn
import HandS.ForMost
import HandS.Wide
import HandS.Exc
import HandS.TryOnly
import HandS.TryMany
import HandS.ExcOwn
import HandS.WordsExc
import HandS.ExcInit
import HandS.Lambda
import HandS.OwnEq
import HandS.TupAny
import HandS.Defaults
import HandS.HeadHook2
import HandS.MakeKw
import HandS.IsInst
import HandS.Zip
import HandS.Text
import KE.DataEq
import KE.DataCmp
import HandS.FStr
import HandS.RaiseMore
import PyProof.ReprRoads
import HandS.HeadHook3
import HandS.Head2
import HandS.HeadEnd
import HandS.Style
import HandS.TupSets
import HandS.Conv
import PyProof.TupleOfSeq
import HandS.Keys
import HandS.Small
import HandS.EndBits
import Wide.Once
import KE.KStateDown
import Lean
import PySem.Challenge.RW_roadpence_k15_whole_shares
section
set_option linter.all false
namespace Ro
open PySem
inductive D where
  | non | bl (b : Bool) | int (i : Int) | str (s : Str)
  | tup (l : List D) | lst (l : List D) | dct (l : List (D × D))
  | obj (c : String) (fs : List D)
  | scr (l : List Int) | ref (n : Nat) | fn (x : String) | thk (k : Nat) (caps : List D)
  deriving Inhabited
inductive Cell where
  | dead | lst (l : List D) | dct (l : List (D × D)) | ins (c : String) (fs : List (String × D)) | dcT (l : List (List Int × D))
  deriving Inhabited
abbrev Store := List Cell
inductive R (α : Type) where
  | ok (a : α) (S : Store) | err (c : String) (fs : List D) (S : Store) | bad
def R.bnd {α β : Type} : R α → (α → Store → R β) → R β
  | .ok a S, f => f a S
  | .err c fs S, _ => .err c fs S
  | .bad, _ => .bad
@[simp] theorem bnd_ok {α β : Type} (a : α) (S : Store) (f : α → Store → R β) : (R.ok a S).bnd f = f a S := rfl
@[simp] theorem bnd_err {α β : Type} (c : String) (fs : List D) (S : Store) (f : α → Store → R β) : (R.err c fs S : R α).bnd f = .err c fs S := rfl
@[simp] theorem bnd_bad {α β : Type} (f : α → Store → R β) : (R.bad : R α).bnd f = .bad := rfl
theorem bnd_assoc {α β γ : Type} (r : R α) (f : α → Store → R β) (g : β → Store → R γ) : (r.bnd f).bnd g = r.bnd fun a S => (f a S).bnd g := by cases r <;> rfl
/-- an option as a result -/
def lift {α : Type} (o : Option α) (S : Store) : R α := match o with
  | some a => .ok a S
  | none => .bad
@[simp] theorem lift_some {α : Type} (a : α) (S : Store) : lift (some a) S = .ok a S := rfl
@[simp] theorem lift_none {α : Type} (S : Store) : lift (none : Option α) S = .bad := rfl

abbrev LINE : Nat := 16777216
/-! ### values -/
mutual
def pyEq : D → D → Bool
  | .non, .non => true
  | .bl a, .bl b => a == b
  | .bl a, .int j => decide ((if a then 1 else 0) = j)
  | .int i, .bl b => decide (i = (if b then 1 else 0))
  | .int i, .int j => decide (i = j)
  | .str s, .str t => decide (s = t)
  | .tup l, .tup m => pyEqs l m
  | .lst l, .lst m => pyEqs l m
  | .dct l, .dct m => l.length == m.length && pySub l m
  | .obj c l, .obj d m => c == d && pyEqs l m
  | _, _ => false
def pyEqs : List D → List D → Bool
  | [], [] => true
  | x :: l, y :: m => pyEq x y && pyEqs l m
  | _, _ => false
def pySub : List (D × D) → List (D × D) → Bool
  | [], _ => true
  | (k, v) :: l, m => (match m.find? (fun p => pyEq k p.1) with
     | some p => pyEq v p.2
     | none => false) && pySub l m
end
/-! ### environments -/
abbrev Env := List (Option D)
abbrev EX := Env → Store → R D
abbrev BX := Env → Store → R Bool
abbrev AX := Env → Store → R (List D)
inductive Ctl where
  | nx (e : Env) | rt (d : D) | bk (e : Env) | ct (e : Env)
abbrev ES := Env → Store → R Ctl
abbrev Fn := List D → Store → R D

def eVar (i : Nat) : EX := fun env S => match env[i]? with
  | some (some d) => .ok d S
  | _ => .bad
def eC (d : D) : EX := fun _ S => .ok d S
def eOp (op : D → D → Option D) (a b : EX) : EX := fun env S => (a env S).bnd fun x S1 => (b env S1).bnd fun y S2 => lift (op x y) S2
def eUn (op : D → Option D) (a : EX) : EX := fun env S => (a env S).bnd fun x S1 => lift (op x) S1
def aNil : AX := fun _ S => .ok [] S
def aCons (a : EX) (r : AX) : AX := fun env S => (a env S).bnd fun x S1 => (r env S1).bnd fun xs S2 => .ok (x :: xs) S2
/-- a call -/
def eCall (f : Fn) (a : AX) : EX := fun env S => (a env S).bnd f
/-- a call with keywords: positional, keywords, how they are put -/
def eCallK (f : Fn) (g : List D → List D → List D) (a k : AX) : EX := fun env S => (a env S).bnd fun xs S1 => (k env S1).bnd fun ks S2 => f (g xs ks) S2
/-- how a call's values are put: from the written ones (0), the defaults (1), the keywords' (2) -/
def pick {α : Type} (pk : List (Nat × Nat)) (us its ws : List α) : List α := pk.flatMap fun q => ((if q.1 = 0 then us else if q.1 = 1 then its else ws)[q.2]?).toList
def eTup (a : AX) : EX := fun env S => (a env S).bnd fun xs S1 => if xs.length ≤ LINE then .ok (.tup xs) S1 else .bad
def eLst (a : AX) : EX := fun env S => (a env S).bnd fun xs S1 => if xs.length ≤ LINE then .ok (.lst xs) S1 else .bad
/-- a list that will be changed -/
def eLstM (a : AX) : EX := fun env S => (a env S).bnd fun xs S1 => if xs.length ≤ LINE then .ok (.ref S1.length) (S1 ++ [.lst xs]) else .bad

/-! ### tests -/
def truth : D → Option Bool
  | .non => some false
  | .bl b => some b
  | .int i => some (decide (i ≠ 0))
  | .str s => if s.length ≤ LINE then some (decide (s.length ≠ 0)) else none
  | .tup l => some (!l.isEmpty)
  | .lst l => some (!l.isEmpty)
  | .dct l => some (!l.isEmpty)
  | _ => none
/-- an expression's truth -/
def bOf (a : EX) : BX := fun env S => (a env S).bnd fun x S1 => lift (truth x) S1
/-- an expression that is a bool, as a test -/
def bVal (a : EX) : BX := fun env S => (a env S).bnd fun x S1 => match x with
  | .bl b => .ok b S1
  | _ => .bad
def bAnd (a b : BX) : BX := fun env S => (a env S).bnd fun c S1 => if c then b env S1 else .ok false S1
def bOr (a b : BX) : BX := fun env S => (a env S).bnd fun c S1 => if c then .ok true S1 else b env S1
def bNot (a : BX) : BX := fun env S => (a env S).bnd fun c S1 => .ok (!c) S1
/-- .. as values, all but the last a bool -/
def eAnd (a b : EX) : EX := fun env S => (a env S).bnd fun x S1 => match x with
  | .bl c => if c then b env S1 else .ok (.bl false) S1
  | _ => .bad
def eOr (a b : EX) : EX := fun env S => (a env S).bnd fun x S1 => match x with
  | .bl c => if c then .ok (.bl true) S1 else b env S1
  | _ => .bad
def eNot (a : EX) : EX := fun env S => (a env S).bnd fun x S1 => match x with
  | .bl c => .ok (.bl (!c)) S1
  | _ => .bad
def eIf (c : BX) (a b : EX) : EX := fun env S => (c env S).bnd fun k S1 => if k then a env S1 else b env S1
/-- a op b op' c -/
def eChain (op op' : D → D → Option D) (a b c : EX) : EX := fun env S => (a env S).bnd fun x S1 => (b env S1).bnd fun y S2 => match op x y with
  | some (.bl true) => (c env S2).bnd fun z S3 => lift (op' y z) S3
  | some (.bl false) => .ok (.bl false) S2
  | _ => .bad

/-! ### operations -/
def addD : D → D → Option D
  | .int i, .int j => some (.int (i + j))
  | .str s, .str t => if s.length + t.length ≤ LINE then some (.str (s ++ t)) else none
  | .tup l, .tup m => if l.length + m.length ≤ LINE then some (.tup (l ++ m)) else none
  | .lst l, .lst m => if l.length + m.length ≤ LINE then some (.lst (l ++ m)) else none
  | _, _ => none
def subD : D → D → Option D
  | .int i, .int j => some (.int (i - j))
  | _, _ => none
def mulOk (i j : Int) : Bool := decide (i.natAbs.log2 + j.natAbs.log2 < 1000000)
def mulD : D → D → Option D
  | .int i, .int j => if mulOk i j then some (.int (i * j)) else none
  | _, _ => none
def fdivD : D → D → Option D
  | .int i, .int j => if 0 < j ∧ j.natAbs.log2 < 9000 then some (.int (i / j)) else none
  | _, _ => none
def modD : D → D → Option D
  | .int i, .int j => if 0 < j then some (.int (i % j)) else none
  | _, _ => none
def powD : D → D → Option D
  | .int i, .int j => if 0 ≤ j ∧ j ≤ 1000000 ∧ i.natAbs < 2 ^ 64 then some (.int (i ^ j.toNat)) else none
  | _, _ => none
def negD : D → Option D
  | .int i => some (.int (-i))
  | _ => none
def ltD : D → D → Option D
  | .int i, .int j => some (.bl (decide (i < j)))
  | _, _ => none
def leD : D → D → Option D
  | .int i, .int j => some (.bl (decide (i ≤ j)))
  | _, _ => none
def gtD : D → D → Option D
  | .int i, .int j => some (.bl (decide (j < i)))
  | _, _ => none
def geD : D → D → Option D
  | .int i, .int j => some (.bl (decide (j ≤ i)))
  | _, _ => none
def isNonD : D → Bool
  | .non => true
  | _ => false
def isND (x y : D) : Option D := if isNonD y then some (.bl (isNonD x)) else none
def notND (x y : D) : Option D := if isNonD y then some (.bl (!isNonD x)) else none
/-- the place of an index -/
def pyIx (n : Nat) (i : Int) : Option Nat := if 0 ≤ i then (if i < n then some i.toNat else none) else if -(n : Int) ≤ i then some (i + n).toNat else none
def atP {α : Type} (xs : List α) (i : Int) : Option α := (pyIx xs.length i).bind fun j => xs[j]?
def idxD : D → D → Option D
  | .tup l, .int i => atP l i
  | .lst l, .int i => atP l i
  | .scr l, .int i => (atP l i).map D.int
  | .str s, .int i => if s.length ≤ LINE then (atP s.cps.toList i).map fun c => .str ⟨#[c]⟩ else none
  | _, _ => none
/-- .. of a changing list -/
def idxM (x y : D) (S : Store) : Option D := match x, y with
  | .ref n, .int i => (match S[n]? with
    | some (.lst l) => atP l i
    | _ => none)
  | _, _ => none
def eIdx (a b : EX) : EX := eOp idxD a b
def eIdxM (a b : EX) : EX := fun env S => (a env S).bnd fun x S1 => (b env S1).bnd fun y S2 => lift (idxM x y S2) S2
/-- o[i] = v, o a changing list -/
def setM (x y v : D) (S : Store) : Option Store := match x, y with
  | .ref n, .int i => (match S[n]? with
    | some (.lst l) => (pyIx l.length i).map fun j => S.set n (.lst (l.set j v))
    | _ => none)
  | _, _ => none
def sSetIt (o i v : EX) : ES := fun env S => (v env S).bnd fun z S1 => (o env S1).bnd fun x S2 => (i env S2).bnd fun y S3 => match setM x y z S3 with
  | some S4 => .ok (.nx env) S4
  | none => .bad
/-- the ends of a slice -/
def cutI (n d : Nat) : Option Int → Nat
  | none => d
  | some i => if i < 0 then (i + n).toNat else min i.toNat n
def cutL {α : Type} (xs : List α) (lo hi : Option Int) : List α := (xs.drop (cutI xs.length 0 lo)).take (cutI xs.length xs.length hi - cutI xs.length 0 lo)
def cutD (x : D) (lo hi : Option Int) : Option D := match x with
  | .tup l => some (.tup (cutL l lo hi))
  | .lst l => some (.lst (cutL l lo hi))
  | .str s => if s.length ≤ LINE then some (.str ⟨(cutL s.cps.toList lo hi).toArray⟩) else none
  | _ => none
/-- a part of a slice -/
abbrev OX := Env → Store → R (Option Int)
def oNone : OX := fun _ S => .ok none S
def oSome (a : EX) : OX := fun env S => (a env S).bnd fun x S1 => match x with
  | .int i => .ok (some i) S1
  | _ => .bad
def eCut (a : EX) (lo hi : OX) : EX := fun env S => (a env S).bnd fun x S1 => (lo env S1).bnd fun l S2 => (hi env S2).bnd fun h S3 => lift (cutD x l h) S3
/-- isinstance: what a thing is -/
inductive Ty where
  | b (n : String) | o (c : String)
  deriving DecidableEq
def tyD : D → Store → Option Ty
  | .non, _ => some (.b "NoneType")
  | .bl _, _ => some (.b "bool")
  | .int _, _ => some (.b "int")
  | .str _, _ => some (.b "str")
  | .tup _, _ => some (.b "tuple")
  | .lst _, _ => some (.b "list")
  | .scr _, _ => some (.b "list")
  | .dct _, _ => some (.b "dict")
  | .obj c _, _ => some (.o c)
  | .ref n, S => match S[n]? with
    | some (.lst _) => some (.b "list")
    | some (.dct _) => some (.b "dict")
    | some (.ins c _) => some (.o c)
    | _ => none
  | _, _ => none
/-- is a thing of the type t one of T -/
def subTy (t T : Ty) : Bool := decide (t = T) || (decide (t = .b "bool") && decide (T = .b "int"))
/-- tys: those that are looked at -/
def eIsI (tys : List Ty) (Tt : Ty) (a : EX) : EX := fun env S => (a env S).bnd fun x S1 => match tyD x S1 with
  | some t => if tys.contains t then .ok (.bl (subTy t Tt)) S1 else .bad
  | none => .bad
def lenD : D → Option D
  | .tup l => some (.int l.length)
  | .lst l => some (.int l.length)
  | .scr l => some (.int l.length)
  | .str s => if s.length ≤ LINE then some (.int s.length) else none
  | .dct l => some (.int l.length)
  | _ => none
/-! ### statements -/
def sSet (i : Nat) (e : EX) : ES := fun env S => (e env S).bnd fun d S1 => .ok (.nx (env.set i (some d))) S1
def sSeq (s t : ES) : ES := fun env S => (s env S).bnd fun c S1 => match c with
  | .nx e => t e S1
  | c => .ok c S1
def sPass : ES := fun env S => .ok (.nx env) S
def sIf (c : BX) (s t : ES) : ES := fun env S => (c env S).bnd fun k S1 => if k then s env S1 else t env S1
def sRet (e : EX) : ES := fun env S => (e env S).bnd fun d S1 => .ok (.rt d) S1
def sExpr (e : EX) : ES := fun env S => (e env S).bnd fun _ S1 => .ok (.nx env) S1
def sRaise (c : String) (a : AX) : ES := fun env S => (a env S).bnd fun fs S1 => .err c fs S1
abbrev Pat := D → Env → Option Env
def pName (i : Nat) : Pat := fun d env => some (env.set i (some d))
def pNil : List D → Env → Option Env := fun ds env => match ds with
  | [] => some env
  | _ => none
def pCons (p : Pat) (r : List D → Env → Option Env) : List D → Env → Option Env := fun ds env => match ds with
  | d :: ds => (p d env).bind fun e => r ds e
  | [] => none
def pTup (r : List D → Env → Option Env) : Pat := fun d env => match d with
  | .tup l => r l env
  | _ => none
def sUnp (p : Pat) (e : EX) : ES := fun env S => (e env S).bnd fun d S1 => match p d env with
  | some env' => .ok (.nx env') S1
  | none => .bad
def loop (tg : Pat) (body : ES) : List D → ES
  | [], env, S => .ok (.nx env) S
  | x :: xs, env, S => match tg x env with
    | none => .bad
    | some env1 => (body env1 S).bnd fun c S1 => match c with
      | .nx e => loop tg body xs e S1
      | .ct e => loop tg body xs e S1
      | .bk e => .ok (.nx e) S1
      | .rt d => .ok (.rt d) S1
def sFor (it : AX) (tg : Pat) (body : ES) : ES := fun env S => (it env S).bnd fun xs S1 => loop tg body xs env S1
/-- what raises is not told -/
def R.nox {α : Type} : R α → R α
  | .ok a S => .ok a S
  | _ => .bad
@[simp] theorem nox_ok {α : Type} (a : α) (S : Store) : (R.ok a S).nox = .ok a S := rfl
def lcLoop (tg : Pat) (c : BX) (el : EX) (env : Env) : List D → List D → Store → R (List D)
  | [], acc, S => .ok acc S
  | x :: xs, acc, S => match tg x env with
    | none => .bad
    | some env1 => (c env1 S).nox.bnd fun k S1 => if k then (el env1 S1).nox.bnd fun y S2 => if acc.length < LINE then lcLoop tg c el env xs (acc ++ [y]) S2 else .bad else lcLoop tg c el env xs acc S1
def bYes : BX := fun _ S => .ok true S
/-- a comprehension: vs the slots of its own names -/
def wipeE (env : Env) : List Nat → Env
  | [] => env
  | v :: vs => (wipeE env vs).set v none
def eLC (vs : List Nat) (it : AX) (tg : Pat) (c : BX) (el : EX) : EX := fun env S => (it env S).bnd fun xs S1 => (lcLoop tg c el (wipeE env vs) xs [] S1).bnd fun ys S2 => .ok (.lst ys) S2
/-- a def's body -/
def fnM (n : Nat) (body : ES) : Fn := fun ds S => (body (ds.map some ++ List.replicate (n - ds.length) none) S).bnd fun c S1 => match c with
  | .rt d => .ok d S1
  | .nx _ => .ok .non S1
  | _ => .bad
/-! ### objects -/
theorem ofString_inj {s t : String} : Str.ofString s = Str.ofString t ↔ s = t := by
  constructor
  · intro h
    rw [Str.ofString_eq_toList, Str.ofString_eq_toList] at h
    have h1 := congrArg Str.cps h
    have h2 : s.toList.map Char.toNat = t.toList.map Char.toNat := by simpa using h1
    have key : ∀ {l m : List Char}, l.map Char.toNat = m.map Char.toNat → l = m := by
      intro l
      induction l with
      | nil => intro m e; cases m with
        | nil => rfl
        | cons _ _ => cases e
      | cons a l ih => intro m e; cases m with
        | nil => cases e
        | cons b m =>
          rw [List.map_cons, List.map_cons] at e
          injection e with e1 e2
          rw [Char.toNat_inj.mp e1, ih e2]
    exact String.toList_inj.mp (key h2)
  · rintro rfl; rfl
def setF (f : String) (v : D) : List (String × D) → List (String × D)
  | [] => [(f, v)]
  | (g, u) :: r => if g = f then (f, v) :: r else (g, u) :: setF f v r
/-- a value's attribute: cs the classes that have it -/
def attrD (cf : String → List String) (cs : List String) (f : String) : D → Store → Option D
  | .obj c fs, _ => if cs.contains c then ((cf c).zip fs).lookup f else none
  | .ref n, S => match S[n]? with
    | some (.ins c fs) => if cs.contains c then fs.lookup f else none
    | _ => none
  | _, _ => none
def eAttr (cf : String → List String) (cs : List String) (f : String) (a : EX) : EX := fun env S => (a env S).bnd fun x S1 => lift (attrD cf cs f x S1) S1
/-- o.f = v, o a changing thing -/
def sSetAttr (cs : List String) (f : String) (o v : EX) : ES := fun env S => (v env S).bnd fun y S1 => (o env S1).bnd fun x S2 => match x with
  | .ref n => match S2[n]? with
    | some (.ins c fs) => if cs.contains c && decide (fs.length < 1000) then .ok (.nx env) (S2.set n (.ins c (setF f y fs))) else .bad
    | _ => .bad
  | _ => .bad
/-- is it a thing of the class c, without a field m -/
def isInst (cf : String → List String) (c m : String) (x : D) (S : Store) : Bool := match x with
  | .obj c' _ => c' == c && !(cf c).contains m
  | .ref n => match S[n]? with
    | some (.ins c' fs) => c' == c && (fs.lookup m).isNone
    | _ => false
  | _ => false
/-- o.m(..) -/
def eMeth (cf : String → List String) (c mn : String) (m : List D → List D → Store → R D) (o : EX) (fa fk : AX) : EX := fun env S => (o env S).bnd fun x S1 => if isInst cf c mn x S1 then (fa env S1).bnd fun xs S2 => (fk env S2).bnd fun zs S3 => m (x :: xs) zs S3 else .bad
/-- C(..): a new thing -/
def newM (c : String) (m : List D → List D → Store → R D) (xs zs : List D) (S : Store) : R D := (m (.ref S.length :: xs) zs (S ++ [.ins c []])).bnd fun r S1 => match r with
  | .non => .ok (.ref S.length) S1
  | _ => .bad
/-- .. that stands still from then on -/
def frzM (cf : String → List String) (r : R D) : R D := r.bnd fun x S => match x with
  | .ref n => match S[n]? with
    | some (.ins c fs) => if fs.map (·.1) = cf c then .ok (.obj c (fs.map (·.2))) (S.set n .dead) else .bad
    | some (.lst l) => .ok (.lst l) (S.set n .dead)
    | some (.dct l) => .ok (.dct l) (S.set n .dead)
    | _ => .bad
  | _ => .bad
/-- an expression's value stands still from now on -/
def eFrz (cf : String → List String) (a : EX) : EX := fun env S => frzM cf (a env S)
/-- a name's thing stands still from now on -/
def sFrz (cf : String → List String) (i : Nat) : ES := fun env S => (frzM cf (eVar i env S)).bnd fun d S1 => .ok (.nx (env.set i (some d))) S1
/-- built-ins by values -/
def eB (m : List D → Option D) (fa : AX) : EX := fun env S => (fa env S).bnd fun xs S1 => lift (m xs) S1
def bLen : List D → Option D
  | [x] => lenD x
  | _ => none
def bAbs : List D → Option D
  | [.int i] => some (.int (if i < 0 then -i else i))
  | _ => none
def bMax2 : List D → Option D
  | [.int i, .int j] => some (.int (if j > i then j else i))
  | _ => none
def bMin2 : List D → Option D
  | [.int i, .int j] => some (.int (if j < i then j else i))
  | _ => none
def bList : List D → Option D
  | [.tup l] => some (.lst l)
  | [.lst l] => some (.lst l)
  | _ => none
def bTuple : List D → Option D
  | [.tup l] => some (.tup l)
  | [.lst l] => some (.tup l)
  | _ => none
def divOk (j : Int) : Bool := decide (0 < j ∧ j < 1073741824)
def bDivmod : List D → Option D
  | [.int i, .int j] => if divOk j then some (.tup [.int (i / j), .int (i % j)]) else none
  | _ => none
/-- list(..) of what will be changed -/
def eListM (fa : AX) : EX := fun env S => (fa env S).bnd fun xs S1 => match xs with
  | [.tup l] => .ok (.ref S1.length) (S1 ++ [.lst l])
  | [.lst l] => .ok (.ref S1.length) (S1 ++ [.lst l])
  | [.ref n] => (match S1[n]? with
    | some (.lst l) => .ok (.ref S1.length) (S1 ++ [.lst l])
    | _ => .bad)
  | _ => .bad
/-- l.append(x) -/
def appM (l x : D) (S : Store) : Option Store := match l with
  | .ref n => (match S[n]? with
    | some (.lst xs) => if xs.length < LINE then some (S.set n (.lst (xs ++ [x]))) else none
    | _ => none)
  | _ => none
def eApp (o : EX) (x : EX) : EX := fun env S => (o env S).bnd fun l S1 => if tyD l S1 = some (.b "list") then (x env S1).bnd fun y S2 => match appM l y S2 with
  | some S3 => .ok .non S3
  | none => .bad else .bad
end Ro
end

section
set_option Elab.async false
set_option linter.all false
set_option maxRecDepth 100000
set_option maxHeartbeats 4000000
namespace Ro
open PySem PySem.Spec PyProof.Rows L2
abbrev St := L2.St
/-! ### the world: what stands still (G), where the changing things lie (am) -/
structure Wd where
  G : Hp
  am : List Addr
  hid : List (Addr × List D) := []
/-- what is told of the text -/
structure Tb where
  K : PySem.W.Frag
  cf : String → List String
  tabs : List (Addr × Str)
mutual
inductive Rep (T : Tb) (w : Wd) : D → V → Prop
  | non : Rep T w .non .non
  | bl (b : Bool) : Rep T w (.bl b) (.bl b)
  | int (i : Int) : Rep T w (.int i) (.int i)
  | str (s : Str) : Rep T w (.str s) (.str s)
  | tup {l : List D} {a : Addr} {vs : List V} (h : SqT T.K w.G a vs) (r : Reps T w l vs) : Rep T w (.tup l) (.ref a)
  | scr {l : List Int} {a : Addr} (h : SqL T.K w.G a (l.map V.int)) : Rep T w (.scr l) (.ref a)
  | lst {l : List D} {a : Addr} {vs : List V} (h : w.G a = some (.lst vs)) (r : Reps T w l vs) : Rep T w (.lst l) (.ref a)
  | dct {l : List (D × D)} {a : Addr} {kvs : List (Key × V)} (h : w.G a = some (.dK kvs)) (r : RepK T w l kvs) : Rep T w (.dct l) (.ref a)
  | obj {c : String} {l : List D} {a dx : Addr} {fs : List (Str × V)} (h : w.G a = some (.ins (He.ga T.K (c : Str)) dx fs)) (n : fs.map (·.1) = (T.cf c).map Str.ofString) (r : Reps T w l (fs.map (·.2))) : Rep T w (.obj c l) (.ref a)
  | ref {n : Nat} {a : Addr} (h : w.am[n]? = some a) : Rep T w (.ref n) (.ref a)
  | fn (x : String) : Rep T w (.fn x) (.ref (He.ga T.K (x : Str)))
inductive Reps (T : Tb) (w : Wd) : List D → List V → Prop
  | nil : Reps T w [] []
  | cons {d : D} {v : V} {l : List D} {vs : List V} (h : Rep T w d v) (r : Reps T w l vs) : Reps T w (d :: l) (v :: vs)
inductive RepK (T : Tb) (w : Wd) : List (D × D) → List (Key × V) → Prop
  | nil : RepK T w [] []
  | int {i : Int} {d : D} {v : V} {l : List (D × D)} {vs : List (Key × V)} (h : Rep T w d v) (r : RepK T w l vs) : RepK T w ((.int i, d) :: l) ((.inl i, v) :: vs)
  | str {s : Str} {d : D} {v : V} {l : List (D × D)} {vs : List (Key × V)} (h : Rep T w d v) (r : RepK T w l vs) : RepK T w ((.str s, d) :: l) ((.inr s, v) :: vs)
end
/-- the world has grown; the lists that are being made stay -/
structure Wd.sb (w w' : Wd) : Prop where
  G : ∀ a o, w.G a = some o → w'.G a = some o
  am : ∃ t, w'.am = w.am ++ t
structure Wd.le (w w' : Wd) : Prop where
  tosb : w.sb w'
  hid : w'.hid = w.hid
theorem Wd.sb.trans {w w1 w2 : Wd} (a : w.sb w1) (b : w1.sb w2) : w.sb w2 := ⟨fun c o h => b.G c o (a.G c o h), by
  obtain ⟨t, e⟩ := a.am
  obtain ⟨u, e'⟩ := b.am
  exact ⟨t ++ u, by rw [e', e, List.append_assoc]⟩⟩
theorem Wd.le.refl (w : Wd) : w.le w := ⟨⟨fun _ _ h => h, [], by simp⟩, rfl⟩
theorem Wd.le.trans {w w1 w2 : Wd} (a : w.le w1) (b : w1.le w2) : w.le w2 := ⟨a.tosb.trans b.tosb, b.hid.trans a.hid⟩
theorem Wd.sb.at {w w' : Wd} (h : w.sb w') {n : Nat} {a : Addr} (e : w.am[n]? = some a) : w'.am[n]? = some a := by
  obtain ⟨t, q⟩ := h.am
  have hl := (List.getElem?_eq_some_iff.mp e).1
  rw [q, List.getElem?_append_left hl]
  exact e
theorem rd_le {w w' : Wd} (h : w.sb w') {a : Addr} {u : HO} (r : Rd w.G a u) : Rd w'.G a u := r.elim (fun r => .inl (h.G _ _ r)) fun ⟨o, r⟩ => .inr ⟨o, h.G _ _ r⟩
theorem sqt_le {K : PySem.W.Frag} {w w' : Wd} (h : w.sb w') {a : Addr} {xs : List V} (r : SqT K w.G a xs) : SqT K w'.G a xs := r.elim (fun r => .inl (rd_le h r)) .inr
theorem sql_le {K : PySem.W.Frag} {w w' : Wd} (h : w.sb w') {a : Addr} {xs : List V} (r : SqL K w.G a xs) : SqL K w'.G a xs := r.elim (fun r => .inl (rd_le h r)) .inr
theorem Wd.le.app (w : Wd) (p : Addr) : w.le ⟨w.G, w.am ++ [p], w.hid⟩ := ⟨⟨fun _ _ h => h, [p], rfl⟩, rfl⟩
mutual
theorem Rep.monoS {T : Tb} {w w' : Wd} (h : w.sb w') : ∀ {d : D} {v : V}, Rep T w d v → Rep T w' d v
  | _, _, .non => .non
  | _, _, .bl b => .bl b
  | _, _, .int i => .int i
  | _, _, .str s => .str s
  | _, _, .tup q r => .tup (sqt_le h q) (r.monoS h)
  | _, _, .scr q => .scr (sql_le h q)
  | _, _, .lst q r => .lst (h.G _ _ q) (r.monoS h)
  | _, _, .dct q r => .dct (h.G _ _ q) (r.monoS h)
  | _, _, .obj q n r => .obj (h.G _ _ q) n (r.monoS h)
  | _, _, .ref q => .ref (h.at q)
  | _, _, .fn x => .fn x
theorem Reps.monoS {T : Tb} {w w' : Wd} (h : w.sb w') : ∀ {l : List D} {vs : List V}, Reps T w l vs → Reps T w' l vs
  | _, _, .nil => .nil
  | _, _, .cons q r => .cons (q.monoS h) (r.monoS h)
theorem RepK.monoS {T : Tb} {w w' : Wd} (h : w.sb w') : ∀ {l : List (D × D)} {vs : List (Key × V)}, RepK T w l vs → RepK T w' l vs
  | _, _, .nil => .nil
  | _, _, .int q r => .int (q.monoS h) (r.monoS h)
  | _, _, .str q r => .str (q.monoS h) (r.monoS h)
end
theorem Rep.mono {T : Tb} {w w' : Wd} (h : w.le w') {d : D} {v : V} (r : Rep T w d v) : Rep T w' d v := r.monoS h.tosb
theorem Reps.mono {T : Tb} {w w' : Wd} (h : w.le w') {d : List D} {v : List V} (r : Reps T w d v) : Reps T w' d v := r.monoS h.tosb
theorem RepK.mono {T : Tb} {w w' : Wd} (h : w.le w') {d : List (D × D)} {v : List (Key × V)} (r : RepK T w d v) : RepK T w' d v := r.monoS h.tosb
theorem Reps.length {T : Tb} {w : Wd} : ∀ {l : List D} {vs : List V}, Reps T w l vs → l.length = vs.length
  | _, _, .nil => rfl
  | _, _, .cons _ r => by rw [List.length_cons, List.length_cons, r.length]
theorem Reps.get {T : Tb} {w : Wd} : ∀ {l : List D} {vs : List V} {i : Nat} {d : D}, Reps T w l vs → l[i]? = some d → ∃ v, vs[i]? = some v ∧ Rep T w d v
  | _, _, _, _, .nil, e => by simp at e
  | _, _, 0, _, .cons q _, e => by simp at e; subst e; exact ⟨_, rfl, q⟩
  | _, _, i + 1, d, .cons _ r, e => by
    obtain ⟨v, h1, h2⟩ := Reps.get (i := i) (d := d) r (by simpa using e)
    exact ⟨v, by simpa using h1, h2⟩
theorem Reps.append {T : Tb} {w : Wd} : ∀ {l m : List D} {vs us : List V}, Reps T w l vs → Reps T w m us → Reps T w (l ++ m) (vs ++ us)
  | _, _, _, _, .nil, s => s
  | _, _, _, _, .cons q r, s => .cons q (Reps.append r s)
theorem Reps.take {T : Tb} {w : Wd} : ∀ {l : List D} {vs : List V} (n : Nat), Reps T w l vs → Reps T w (l.take n) (vs.take n)
  | _, _, 0, _ => .nil
  | _, _, _ + 1, .nil => .nil
  | _, _, n + 1, .cons q r => .cons q (Reps.take n r)
theorem Reps.drop {T : Tb} {w : Wd} : ∀ {l : List D} {vs : List V} (n : Nat), Reps T w l vs → Reps T w (l.drop n) (vs.drop n)
  | _, _, 0, r => r
  | _, _, _ + 1, .nil => .nil
  | _, _, n + 1, .cons _ r => Reps.drop n r
theorem Reps.set {T : Tb} {w : Wd} {d : D} {v : V} (q : Rep T w d v) : ∀ {l : List D} {vs : List V} (i : Nat), Reps T w l vs → Reps T w (l.set i d) (vs.set i v)
  | _, _, _, .nil => .nil
  | _, _, 0, .cons _ r => .cons q r
  | _, _, i + 1, .cons p r => .cons p (Reps.set q i r)
theorem Reps.reverse {T : Tb} {w : Wd} : ∀ {l : List D} {vs : List V}, Reps T w l vs → Reps T w l.reverse vs.reverse
  | _, _, .nil => .nil
  | _, _, .cons q r => by rw [List.reverse_cons, List.reverse_cons]; exact (Reps.reverse r).append (.cons q .nil)
/-! ### the changing things -/
def CellR (T : Tb) (w : Wd) (H : Hp) (a : Addr) : Cell → Prop
  | .dead => True
  | .lst l => ∃ vs, H a = some (.lst vs) ∧ Reps T w l vs
  | .dct l => ∃ kvs, H a = some (.dK kvs) ∧ RepK T w l kvs
  | .ins c fs => ∃ dx gs, H a = some (.ins (He.ga T.K (c : Str)) dx gs) ∧ gs.map (·.1) = fs.map (fun p => Str.ofString p.1) ∧ Reps T w (fs.map (·.2)) (gs.map (·.2))
  | .dcT l => ∃ kvs : List (List Key × V), H a = some (.dT kvs) ∧ kvs.map (·.1) = l.map (fun p => p.1.map Sum.inl) ∧ Reps T w (l.map (·.2)) (kvs.map (·.2))
structure WR (T : Tb) (w : Wd) (S : Store) (H : Hp) : Prop where
  sub : ∀ a o, w.G a = some o → H a = some o
  len : w.am.length = S.length
  nd : w.am.Nodup
  has : ∀ a ∈ w.am, ∃ o, H a = some o
  out : ∀ (n : Nat) c a, S[n]? = some c → w.am[n]? = some a → c ≠ .dead → w.G a = none
  cell : ∀ (n : Nat) c a, S[n]? = some c → w.am[n]? = some a → CellR T w H a c
  tabs : LamX.Tabs T.tabs H
  hn : (w.hid.map (·.1)).Nodup
  hd : ∀ p ∈ w.hid, w.G p.1 = none ∧ p.1 ∉ w.am ∧ ∃ vs, H p.1 = some (.lst vs) ∧ Reps T w p.2 vs
/-- .. of a frame's slots -/
def ER (T : Tb) (w : Wd) (env : Env) (σ : St) : Prop := env.length = σ.length ∧ ∀ (i : Nat) d, env[i]? = some (some d) → ∃ v, σ[i]? = some (some v) ∧ Rep T w d v
theorem ER.monoS {T : Tb} {w w' : Wd} (h : w.sb w') {env : Env} {σ : St} (r : ER T w env σ) : ER T w' env σ := ⟨r.1, fun i d e => by
  obtain ⟨v, h1, h2⟩ := r.2 i d e
  exact ⟨v, h1, h2.monoS h⟩⟩
theorem ER.mono {T : Tb} {w w' : Wd} (h : w.le w') {env : Env} {σ : St} (r : ER T w env σ) : ER T w' env σ := ⟨r.1, fun i d e => by
  obtain ⟨v, h1, h2⟩ := r.2 i d e
  exact ⟨v, h1, h2.mono h⟩⟩
theorem ER.set {T : Tb} {w : Wd} {env : Env} {σ : St} {d : D} {v : V} (r : ER T w env σ) (q : Rep T w d v) (i : Nat) : ER T w (env.set i (some d)) (σ.set i (some v)) := ⟨by rw [List.length_set, List.length_set, r.1], fun j e h => by
  by_cases hj : i = j
  · subst hj
    rw [List.getElem?_set] at h ⊢
    simp only [if_true] at h ⊢
    by_cases hl : i < env.length
    · rw [if_pos hl] at h
      have e' : d = e := by simpa using h
      subst e'
      rw [if_pos (by rw [← r.1]; exact hl)]
      exact ⟨v, rfl, q⟩
    · rw [if_neg hl] at h
      cases h
  · rw [List.getElem?_set_ne hj] at h ⊢
    exact r.2 j e h⟩
/-- an exception as it lies -/
def XRep (T : Tb) (w : Wd) (H : Hp) (c : String) (fs : List D) (cls : Value) (dx : Option Addr) : Prop :=
  cls = .ref (He.ga T.K (c : Str)) ∧ ((fs = [] ∧ dx = none) ∨ ∃ a gs, dx = some a ∧ H a = some (.xd gs) ∧ (∀ f ∈ T.cf c, ∃ v, gs.lookup (Str.ofString f) = some v) ∧ Reps T w fs ((T.cf c).map fun f : String => (gs.lookup (Str.ofString f)).getD .non))
/-- a result, as it must lie -/
def RP {α : Type} (r : R α) (Pk : α → Store → Prop) (Pe : String → List D → Store → Prop) : Prop := match r with
  | .ok a S => Pk a S
  | .err c fs S => Pe c fs S
  | .bad => False
theorem RP.mono {α : Type} {r : R α} {Pk Pk' : α → Store → Prop} {Pe Pe' : String → List D → Store → Prop} (h : RP r Pk Pe) (hk : ∀ a S, Pk a S → Pk' a S) (he : ∀ c fs S, Pe c fs S → Pe' c fs S) : RP r Pk' Pe' := by
  cases r with
  | ok a S => exact hk _ _ h
  | err c fs S => exact he _ _ _ h
  | bad => exact h
theorem RP.bnd {α β : Type} {r : R α} {f : α → Store → R β} {Pk : β → Store → Prop} {Pe : String → List D → Store → Prop} (h : RP (r.bnd f) Pk Pe) : RP r (fun a S => RP (f a S) Pk Pe) Pe := by
  cases r with
  | ok a S => exact h
  | err c fs S => exact h
  | bad => exact h
/-- the exception's wish -/
def XW (T : Tb) (w : Wd) (E : XK) : String → List D → Store → Prop := fun c fs S => ∀ w' H' cls dx, w.le w' → WR T w' S H' → XRep T w' H' c fs cls dx → E cls dx H'
theorem XW.le {T : Tb} {w w1 : Wd} {E : XK} (h : w.le w1) {c : String} {fs : List D} {S : Store} (x : XW T w E c fs S) : XW T w1 E c fs S := fun w' H' cls dx l r q => x w' H' cls dx (h.trans l) r q
/-- readings -/
def tI (T : Tb) (E : XK) (f : EX) : TE := fun σ H Q => ∃ w env S, WR T w S H ∧ ER T w env σ ∧ RP (f env S) (fun d S' => ∀ w' H' v, w.le w' → WR T w' S' H' → Rep T w' d v → Q v H') (XW T w E)
def tIb (T : Tb) (E : XK) (f : BX) : TT := fun σ H Q => ∃ w env S, WR T w S H ∧ ER T w env σ ∧ RP (f env S) (fun b S' => ∀ w' H', w.le w' → WR T w' S' H' → Q b H') (XW T w E)
def tIa (T : Tb) (E : XK) (f : AX) : TA := fun σ H Q => ∃ w env S, WR T w S H ∧ ER T w env σ ∧ RP (f env S) (fun ds S' => ∀ w' H' vs, w.le w' → WR T w' S' H' → Reps T w' ds vs → Q vs H') (XW T w E)
def CP (T : Tb) (w : Wd) (D : Ends) (c : Ctl) (S : Store) : Prop := match c with
  | .nx e => ∀ w' H' σ', w.le w' → WR T w' S H' → ER T w' e σ' → D.nx σ' H'
  | .bk e => ∀ w' H' σ', w.le w' → WR T w' S H' → ER T w' e σ' → D.bk σ' H'
  | .ct e => ∀ w' H' σ', w.le w' → WR T w' S H' → ER T w' e σ' → D.ct σ' H'
  | .rt d => ∀ w' H' v, w.le w' → WR T w' S H' → Rep T w' d v → D.rt v H'
def tIs (T : Tb) (E : XK) (f : ES) : TS := fun D σ H => ∃ w env S, WR T w S H ∧ ER T w env σ ∧ RP (f env S) (CP T w D) (XW T w E)
/-- judgements -/
def IE (T : Tb) (E : XK) (X : Cx) (e : Expr) (f : EX) : Prop := PE X e (tI T E f)
def IB (T : Tb) (E : XK) (X : Cx) (e : Expr) (f : BX) : Prop := PT X e (tIb T E f)
def IW (T : Tb) (E : XK) (X : Cx) (e : Expr) (f : BX) : Prop := PW X e (tIb T E f)
def IA (T : Tb) (E : XK) (X : Cx) (es : List Expr) (f : AX) : Prop := PA X es (tIa T E f)
def IS (T : Tb) (E : XK) (X : Cx) (st : Stmt) (f : ES) : Prop := PS X st (tIs T E f)
def ISs (T : Tb) (E : XK) (X : Cx) (sts : List Stmt) (f : ES) : Prop := PSs X sts (tIs T E f)
theorem PE.mono {X : Cx} {e : Expr} {t t' : TE} (h : PE X e t) (k : ∀ σ H Q, t' σ H Q → t σ H Q) : PE X e t' := ⟨fun pins s σ H Q I q => h.run pins s σ H Q I (k _ _ _ q)⟩
theorem PT.mono {X : Cx} {e : Expr} {t t' : TT} (h : PT X e t) (k : ∀ σ H Q, t' σ H Q → t σ H Q) : PT X e t' := ⟨fun pins s σ H Q I q => h.run pins s σ H Q I (k _ _ _ q)⟩
theorem PW.mono {X : Cx} {e : Expr} {t t' : TT} (h : PW X e t) (k : ∀ σ H Q, t' σ H Q → t σ H Q) : PW X e t' := ⟨fun wh pins s σ H Q I q => h.run wh pins s σ H Q I (k _ _ _ q)⟩
theorem PA.mono {X : Cx} {es : List Expr} {t t' : TA} (h : PA X es t) (k : ∀ σ H Q, t' σ H Q → t σ H Q) : PA X es t' := ⟨fun pos pins s σ H Q I q => h.run pos pins s σ H Q I (k _ _ _ q)⟩
theorem PS.mono {X : Cx} {st : Stmt} {t t' : TS} (h : PS X st t) (k : ∀ D σ H, t' D σ H → t D σ H) : PS X st t' := ⟨fun pins s σ H D I q => h.run pins s σ H D I (k _ _ _ q)⟩
theorem PSs.mono {X : Cx} {st : List Stmt} {t t' : TS} (h : PSs X st t) (k : ∀ D σ H, t' D σ H → t D σ H) : PSs X st t' := ⟨fun pins s σ H D I q => h.run pins s σ H D I (k _ _ _ q)⟩

/-! ### heaps -/
theorem CellR.keep {T : Tb} {w w' : Wd} {H H' : Hp} {a : Addr} {c : Cell} (h : CellR T w H a c) (l : w.sb w') (k : ∀ o, H a = some o → H' a = some o) : CellR T w' H' a c := by
  cases c with
  | dead => trivial
  | lst l1 =>
    obtain ⟨vs, h1, h2⟩ := h
    exact ⟨vs, k _ h1, h2.monoS l⟩
  | dct l1 =>
    obtain ⟨vs, h1, h2⟩ := h
    exact ⟨vs, k _ h1, h2.monoS l⟩
  | ins c fs =>
    obtain ⟨dx, gs, h1, h2, h3⟩ := h
    exact ⟨dx, gs, k _ h1, h2, h3.monoS l⟩
  | dcT l1 =>
    obtain ⟨kvs, h1, h2, h3⟩ := h
    exact ⟨kvs, k _ h1, h2, h3.monoS l⟩
/-- neither a table nor a code object -/
def NoTab (o : HO) : Prop := (∀ ps, o ≠ .tbl ps) ∧ ∀ c q, o ≠ LamX.CodeO c q
theorem noTab_lst {xs : List V} : NoTab (.lst xs) := ⟨fun _ z => (by cases z), fun _ _ z => (by unfold LamX.CodeO at z; cases z)⟩
theorem noTab_dK {xs : List (Key × V)} : NoTab (.dK xs) := ⟨fun _ z => (by cases z), fun _ _ z => (by unfold LamX.CodeO at z; cases z)⟩
theorem noTab_dT {xs : List (List Key × V)} : NoTab (.dT xs) := ⟨fun _ z => (by cases z), fun _ _ z => (by unfold LamX.CodeO at z; cases z)⟩
theorem noTab_ins {C dx : Addr} {fs : List (Str × V)} : NoTab (.ins C dx fs) := ⟨fun _ z => (by cases z), fun _ _ z => (by unfold LamX.CodeO at z; cases z)⟩
theorem tabs_upd {ts : List (Addr × Str)} {H : Hp} {a : Addr} {o o' : HO} (t : LamX.Tabs ts H) (ha : H a = some o) (n : NoTab o) : LamX.Tabs ts (upd H a o') := fun p hp => by
  obtain ⟨ps, h1, h2, h3⟩ := t p hp
  refine ⟨ps, ?_, h2, fun pos cv hc => ?_⟩
  · rw [upd_ne (fun z => by rw [z, ha] at h1; exact n.1 _ (Option.some.inj h1))]
    exact h1
  · obtain ⟨c, e1, e2⟩ := h3 pos cv hc
    refine ⟨c, e1, ?_⟩
    rw [upd_ne (fun z => by rw [z, ha] at e2; exact n.2 _ _ (Option.some.inj e2))]
    exact e2
theorem tabs_new {ts : List (Addr × Str)} {H : Hp} {a : Addr} {o' : HO} (t : LamX.Tabs ts H) (ha : H a = none) : LamX.Tabs ts (upd H a o') := t.ext fun b o e => by
  rw [upd_ne (ne_of_none e ha)]
  exact e
theorem CellR.noTab {T : Tb} {w : Wd} {H : Hp} {a : Addr} {c : Cell} (h : CellR T w H a c) (hc : c ≠ .dead) : ∃ o, H a = some o ∧ NoTab o := by
  cases c with
  | dead => exact absurd rfl hc
  | lst l1 =>
    obtain ⟨vs, h1, h2⟩ := h
    exact ⟨_, h1, noTab_lst⟩
  | dct l1 =>
    obtain ⟨vs, h1, h2⟩ := h
    exact ⟨_, h1, noTab_dK⟩
  | dcT l1 =>
    obtain ⟨vs, h1, _⟩ := h
    exact ⟨_, h1, noTab_dT⟩
  | ins c fs =>
    obtain ⟨dx, gs, h1, h2, h3⟩ := h
    exact ⟨_, h1, noTab_ins⟩
section
variable {T : Tb} {w : Wd} {S : Store} {H : Hp} {p a : Addr} {o : HO}
theorem WR.free (r : WR T w S H) (hp : H p = none) : w.G p = none := by
  cases e : w.G p with
  | none => rfl
  | some o => rw [r.sub _ _ e] at hp; cases hp
/-- a new thing that stands still -/
theorem WR.new (r : WR T w S H) (hp : H p = none) (o : HO) : w.le ⟨upd w.G p o, w.am, w.hid⟩ ∧ WR T ⟨upd w.G p o, w.am, w.hid⟩ S (upd H p o) := by
  have hG := r.free hp
  have l : w.le ⟨upd w.G p o, w.am, w.hid⟩ := ⟨⟨fun a u e => by show upd w.G p o a = some u; rw [upd_ne (ne_of_none e hG)]; exact e, [], by simp⟩, rfl⟩
  have k : ∀ a u, H a = some u → upd H p o a = some u := fun a u e => by rw [upd_ne (ne_of_none e hp)]; exact e
  refine ⟨l, ?_, r.len, r.nd, fun a ha => ?_, fun n c a h1 h2 h3 => ?_, fun n c a h1 h2 => ?_, tabs_new r.tabs hp, r.hn, fun q hq => ?_⟩
  · intro a u e
    have e : upd w.G p o a = some u := e
    by_cases h : a = p
    · subst h
      rw [upd_same] at e ⊢
      exact e
    · rw [upd_ne h] at e ⊢
      exact r.sub _ _ e
  · obtain ⟨u, e⟩ := r.has a ha
    exact ⟨u, k _ _ e⟩
  · show upd w.G p o a = none
    obtain ⟨u, e, _⟩ := (r.cell n c a h1 h2).noTab h3
    rw [upd_ne (ne_of_none e hp)]
    exact r.out n c a h1 h2 h3
  · exact (r.cell n c a h1 h2).keep l.tosb fun u e => k _ _ e
  · obtain ⟨z1, z2, vs, z3, z4⟩ := r.hd q hq
    refine ⟨?_, z2, vs, k _ _ z3, z4.mono l⟩
    show upd w.G p o q.1 = none
    rw [upd_ne (ne_of_none z3 hp)]
    exact z1
/-- .. and its like, by the heap alone -/
theorem WR.grow {H' : Hp} (r : WR T w S H) (k : ∀ a u, H a = some u → H' a = some u) : WR T w S H' :=
  ⟨fun a u e => k _ _ (r.sub _ _ e), r.len, r.nd, fun a ha => (r.has a ha).elim fun u e => ⟨u, k _ _ e⟩, r.out, fun n c a h1 h2 => (r.cell n c a h1 h2).keep (Wd.le.refl _).tosb fun u e => k _ _ e, r.tabs.ext k, r.hn, fun q hq => (r.hd q hq).elim fun z1 z => ⟨z1, z.1, z.2.elim fun vs z => ⟨vs, k _ _ z.1, z.2⟩⟩⟩
/-- a new thing that will change -/
theorem WR.alloc (r : WR T w S H) (hp : H p = none) {o : HO} {c : Cell} (hc : CellR T ⟨w.G, w.am ++ [p], w.hid⟩ (upd H p o) p c) :
    w.le ⟨w.G, w.am ++ [p], w.hid⟩ ∧ WR T ⟨w.G, w.am ++ [p], w.hid⟩ (S ++ [c]) (upd H p o) ∧ (w.am ++ [p])[S.length]? = some p := by
  have l : w.le ⟨w.G, w.am ++ [p], w.hid⟩ := Wd.le.app w p
  have k : ∀ a u, H a = some u → upd H p o a = some u := fun a u e => by rw [upd_ne (ne_of_none e hp)]; exact e
  have hn : p ∉ w.am := fun z => by
    obtain ⟨u, e⟩ := r.has p z
    rw [hp] at e
    cases e
  have at_ : (w.am ++ [p])[S.length]? = some p := by rw [← r.len]; simp
  refine ⟨l, ⟨fun a u e => k _ _ (r.sub _ _ e), by simp [r.len], ?_, fun a ha => ?_, fun n c1 a h1 h2 h3 => ?_, fun n c1 a h1 h2 => ?_, tabs_new r.tabs hp, r.hn, fun q hq => ?_⟩, at_⟩
  · exact List.nodup_append.mpr ⟨r.nd, by simp, fun a ha b hb => by
      have e : b = p := by simpa using hb
      subst e
      exact fun z => hn (z ▸ ha)⟩
  · rcases List.mem_append.mp ha with ha | ha
    · obtain ⟨u, e⟩ := r.has a ha
      exact ⟨u, k _ _ e⟩
    · have e : a = p := by simpa using ha
      subst e
      exact ⟨o, upd_same⟩
  · have h2 : (w.am ++ [p])[n]? = some a := h2
    by_cases hl : n < S.length
    · rw [List.getElem?_append_left hl] at h1
      rw [List.getElem?_append_left (by rw [r.len]; exact hl)] at h2
      exact r.out n c1 a h1 h2 h3
    · have hle := (List.getElem?_eq_some_iff.mp h1).1
      rw [List.length_append, List.length_singleton] at hle
      have e : n = S.length := by omega
      subst e
      rw [at_] at h2
      cases h2
      exact r.free hp
  · have h2 : (w.am ++ [p])[n]? = some a := h2
    by_cases hl : n < S.length
    · rw [List.getElem?_append_left hl] at h1
      rw [List.getElem?_append_left (by rw [r.len]; exact hl)] at h2
      exact (r.cell n c1 a h1 h2).keep l.tosb fun u e => k _ _ e
    · have hle := (List.getElem?_eq_some_iff.mp h1).1
      rw [List.length_append, List.length_singleton] at hle
      have e : n = S.length := by omega
      subst e
      rw [at_] at h2
      cases h2
      have e1 : c1 = c := by
        rw [List.getElem?_append_right (Nat.le_refl _)] at h1
        simpa using h1.symm
      subst e1
      exact hc
  · obtain ⟨z1, z2, vs, z3, z4⟩ := r.hd q hq
    refine ⟨z1, fun z => ?_, vs, k _ _ z3, z4.mono l⟩
    rcases List.mem_append.mp z with z | z
    · exact z2 z
    · have e : q.1 = p := by simpa using z
      rw [e, hp] at z3
      cases z3
theorem WR.at_ne (r : WR T w S H) {n m : Nat} {a b : Addr} (h1 : w.am[n]? = some a) (h2 : w.am[m]? = some b) (h : n ≠ m) : a ≠ b := fun z => by
  subst z
  obtain ⟨l1, e1⟩ := List.getElem?_eq_some_iff.mp h1
  obtain ⟨l2, e2⟩ := List.getElem?_eq_some_iff.mp h2
  exact h ((List.getElem_inj r.nd).mp (e1.trans e2.symm))
/-- a thing is changed -/
theorem WR.write (r : WR T w S H) {n : Nat} {c c' : Cell} (hS : S[n]? = some c) (ha : w.am[n]? = some a) (hd : c ≠ .dead) {o' : HO} (hc : CellR T w (upd H a o') a c') : WR T w (S.set n c') (upd H a o') := by
  obtain ⟨o, e, nt⟩ := (r.cell n c a hS ha).noTab hd
  have hG := r.out n c a hS ha hd
  have hl := (List.getElem?_eq_some_iff.mp hS).1
  refine ⟨fun b u q => ?_, by rw [List.length_set]; exact r.len, r.nd, fun b hb => ?_, fun m c1 b h1 h2 h3 => ?_, fun m c1 b h1 h2 => ?_, tabs_upd r.tabs e nt, r.hn, fun q hq => ?_⟩
  · rw [upd_ne (ne_of_none q hG)]
    exact r.sub _ _ q
  · obtain ⟨u, q⟩ := r.has b hb
    by_cases h : b = a
    · subst h
      exact ⟨o', upd_same⟩
    · exact ⟨u, by rw [upd_ne h]; exact q⟩
  · by_cases h : m = n
    · subst h
      rw [ha] at h2
      cases h2
      exact hG
    · rw [List.getElem?_set_ne (Ne.symm h)] at h1
      exact r.out m c1 b h1 h2 h3
  · by_cases h : m = n
    · subst h
      rw [ha] at h2
      cases h2
      rw [List.getElem?_set_self hl] at h1
      cases h1
      exact hc
    · rw [List.getElem?_set_ne (Ne.symm h)] at h1
      have hne := r.at_ne h2 ha h
      exact (r.cell m c1 b h1 h2).keep (Wd.le.refl _).tosb fun u q => by rw [upd_ne hne]; exact q
  · obtain ⟨z1, z2, vs, z3, z4⟩ := r.hd q hq
    exact ⟨z1, z2, vs, by rw [upd_ne (fun z => z2 (by rw [z]; exact List.mem_of_getElem? ha))]; exact z3, z4⟩
/-- a thing stands still from now on -/
theorem WR.freeze (r : WR T w S H) {n : Nat} {c : Cell} (hS : S[n]? = some c) (ha : w.am[n]? = some a) (hd : c ≠ .dead) (ho : H a = some o) : w.le ⟨upd w.G a o, w.am, w.hid⟩ ∧ WR T ⟨upd w.G a o, w.am, w.hid⟩ (S.set n .dead) H := by
  have hG := r.out n c a hS ha hd
  have hl := (List.getElem?_eq_some_iff.mp hS).1
  have l : w.le ⟨upd w.G a o, w.am, w.hid⟩ := ⟨⟨fun b u e => by show upd w.G a o b = some u; rw [upd_ne (ne_of_none e hG)]; exact e, [], by simp⟩, rfl⟩
  refine ⟨l, fun b u e => ?_, by rw [List.length_set]; exact r.len, r.nd, r.has, fun m c1 b h1 h2 h3 => ?_, fun m c1 b h1 h2 => ?_, r.tabs, r.hn, fun q hq => ?_⟩
  · have e : upd w.G a o b = some u := e
    by_cases h : b = a
    · subst h
      rw [upd_same] at e
      rw [← e]
      exact ho
    · rw [upd_ne h] at e
      exact r.sub _ _ e
  · have h2 : w.am[m]? = some b := h2
    by_cases h : m = n
    · subst h
      rw [List.getElem?_set_self hl] at h1
      cases h1
      exact absurd rfl h3
    · rw [List.getElem?_set_ne (Ne.symm h)] at h1
      show upd w.G a o b = none
      rw [upd_ne (r.at_ne h2 ha h)]
      exact r.out m c1 b h1 h2 h3
  · have h2 : w.am[m]? = some b := h2
    by_cases h : m = n
    · subst h
      rw [List.getElem?_set_self hl] at h1
      cases h1
      trivial
    · rw [List.getElem?_set_ne (Ne.symm h)] at h1
      exact (r.cell m c1 b h1 h2).keep l.tosb fun _ q => q
  · obtain ⟨z1, z2, vs, z3, z4⟩ := r.hd q hq
    refine ⟨?_, z2, vs, z3, z4.mono l⟩
    show upd w.G a o q.1 = none
    rw [upd_ne (fun z => z2 (by rw [z]; exact List.mem_of_getElem? ha))]
    exact z1
end
theorem sqt_sub {T : Tb} {w : Wd} {S : Store} {H : Hp} (r : WR T w S H) {a : Addr} {xs : List V} (h : SqT T.K w.G a xs) : SqT T.K H a xs := h.elim (fun h => .inl (h.elim (fun h => .inl (r.sub _ _ h)) fun ⟨o, h⟩ => .inr ⟨o, r.sub _ _ h⟩)) .inr
theorem sql_sub {T : Tb} {w : Wd} {S : Store} {H : Hp} (r : WR T w S H) {a : Addr} {xs : List V} (h : SqL T.K w.G a xs) : SqL T.K H a xs := h.elim (fun h => .inl (h.elim (fun h => .inl (r.sub _ _ h)) fun ⟨o, h⟩ => .inr ⟨o, r.sub _ _ h⟩)) .inr
theorem rd_sub {T : Tb} {w : Wd} {S : Store} {H : Hp} (r : WR T w S H) {a : Addr} {u : HO} (h : Rd w.G a u) : Rd H a u := h.elim (fun h => .inl (r.sub _ _ h)) fun ⟨o, h⟩ => .inr ⟨o, r.sub _ _ h⟩
end Ro
end

section
set_option Elab.async false
set_option linter.all false
set_option maxRecDepth 100000
set_option maxHeartbeats 4000000
namespace Ro
open PySem PySem.Spec PyProof.Rows L2
variable {T : Tb} {E : XK} {X : Cx} {a b c : Expr} {es : List Expr} {f g h : EX} {fa : AX} {fb gb : BX} {pos : Pos}
/-- two expressions in a row -/
theorem tI_two {k : D → D → Store → R D} {σ : St} {H : Hp} {Q : VK} (q : tI T E (fun env S => (f env S).bnd fun x S1 => (g env S1).bnd fun y S2 => k x y S2) σ H Q) :
    tI T E f σ H fun x H1 => tI T E g σ H1 fun y H2 => ∃ w d e S, WR T w S H2 ∧ Rep T w d x ∧ Rep T w e y ∧ RP (k d e S) (fun d S' => ∀ w' H' v, w.le w' → WR T w' S' H' → Rep T w' d v → Q v H') (XW T w E) := by
  obtain ⟨w, env, S, r, e, h⟩ := q
  refine ⟨w, env, S, r, e, (RP.bnd h).mono (fun d S1 h1 w1 H1 x l1 r1 p1 => ⟨w1, env, S1, r1, e.mono l1, (RP.bnd h1).mono (fun d2 S2 h2 w2 H2 y l2 r2 p2 => ⟨w2, d, d2, S2, r2, p1.mono l2, p2, ?_⟩) (fun _ _ _ x => x.le l1)⟩) (fun _ _ _ x => x)⟩
  exact h2.mono (fun d S' q w' H' v l => q w' H' v ((l1.trans l2).trans l)) fun _ _ _ x => x.le (l1.trans l2)
theorem tI_one {k : D → Store → R D} {σ : St} {H : Hp} {Q : VK} (q : tI T E (fun env S => (f env S).bnd fun x S1 => k x S1) σ H Q) :
    tI T E f σ H fun x H1 => ∃ w d S, WR T w S H1 ∧ Rep T w d x ∧ RP (k d S) (fun d S' => ∀ w' H' v, w.le w' → WR T w' S' H' → Rep T w' d v → Q v H') (XW T w E) := by
  obtain ⟨w, env, S, r, e, h⟩ := q
  refine ⟨w, env, S, r, e, (RP.bnd h).mono (fun d S1 h1 w1 H1 x l1 r1 p1 => ⟨w1, d, S1, r1, p1, ?_⟩) (fun _ _ _ x => x)⟩
  exact h1.mono (fun d S' q w' H' v l => q w' H' v (l1.trans l)) fun _ _ _ x => x.le l1
/-! ### names, constants -/
theorem ie_var {i : Nat} {x : Str} (hN : X.N[i]? = some x) (hv : Vis X.env.scope x) (hd : (x == ("__debug__" : Str)) = false := by decide +kernel) (hcd : (x == ("__classdict__" : Str)) = false := by decide +kernel) : IE T E X (.Name x pos) (eVar i) :=
  PE.mono (pe_var hN hv hd hcd) fun σ H Q ⟨w, env, S, r, e, q⟩ => by
    unfold eVar at q
    cases z : env[i]? with
    | none => rw [z] at q; exact q.elim
    | some o =>
      rw [z] at q
      cases o with
      | none => exact q.elim
      | some d =>
        obtain ⟨v, h1, h2⟩ := e.2 i d z
        exact ⟨v, h1, q w H v (Wd.le.refl _) r h2⟩
theorem ie_c {e : Expr} {d : D} {v : V} (h : PE X e (tC v)) (k : ∀ w, Rep T w d v) : IE T E X e (eC d) :=
  PE.mono h fun σ H Q ⟨w, env, S, r, e, q⟩ => q w H v (Wd.le.refl _) r (k w)
theorem ie_int {i : Int} {j : Nat} : IE T E X (.Constant (.int i) j pos) (eC (.int i)) := ie_c pe_int fun _ => .int i
theorem ie_bl {i : Bool} {j : Nat} : IE T E X (.Constant (.bool i) j pos) (eC (.bl i)) := ie_c pe_bl fun _ => .bl i
theorem ie_non {j : Nat} : IE T E X (.Constant .none j pos) (eC .non) := ie_c pe_non fun _ => .non
theorem ie_str {i : Str} {j : Nat} : IE T E X (.Constant (.str i) j pos) (eC (.str i)) := ie_c pe_str fun _ => .str i
theorem ie_glob {x : Str} {d : D} {v : V} {u : Value} (hg : Gl X x) (hm : X.mg x = some u) (r : RelV v u) (k : ∀ w, Rep T w d v) (hd : (x == ("__debug__" : Str)) = false := by decide +kernel) : IE T E X (.Name x pos) (eC d) := ie_c (pe_glob hg hm r hd) k
/-! ### operators -/
def rOp (T : Tb) (op : D → D → Option D) : R2 := fun x y H Q => ∃ w d e r S, WR T w S H ∧ Rep T w d x ∧ Rep T w e y ∧ op d e = some r ∧ ∀ w' H' z, w.le w' → WR T w' S H' → Rep T w' r z → Q z H'
theorem rOp_of {op : D → D → Option D} {w : Wd} {d e : D} {S : Store} {x y : V} {H : Hp} {Q : VK} (r : WR T w S H) (p : Rep T w d x) (q : Rep T w e y) (h : RP (lift (op d e) S) (fun d S' => ∀ w' H' v, w.le w' → WR T w' S' H' → Rep T w' d v → Q v H') (XW T w E)) : rOp T op x y H Q := by
  cases z : op d e with
  | none => rw [z] at h; exact h.elim
  | some k => rw [z] at h; exact ⟨w, d, e, k, S, r, p, q, z, fun w' H' v l r' p' => h w' H' v l r' p'⟩
theorem ie_op {o : Operator} {op : D → D → Option D} (ho : OpR X (binaryOp o) (rOp T op)) (ha : IE T E X a f) (hb : IE T E X b g) : IE T E X (.BinOp a o b pos) (eOp op f g) :=
  PE.mono (pe_op ho ha hb) fun σ H Q q => by
    have q2 := tI_two (k := fun x y S => lift (op x y) S) q
    obtain ⟨w, env, S, r, e, h⟩ := q2
    refine ⟨w, env, S, r, e, h.mono (fun d S1 h1 w1 H1 x l1 r1 p1 => ?_) fun _ _ _ x => x⟩
    obtain ⟨w2, env2, S2, r2, e2, h2⟩ := h1 w1 H1 x l1 r1 p1
    refine ⟨w2, env2, S2, r2, e2, h2.mono (fun d S1 h1 w1 H1 x l1 r1 p1 => ?_) fun _ _ _ x => x⟩
    obtain ⟨w3, d3, e3, S3, r3, p3, q3, h3⟩ := h1 w1 H1 x l1 r1 p1
    exact rOp_of r3 p3 q3 h3
theorem ie_cmp {o : CmpOp} {op : D → D → Option D} (ho : OpR X (compareOp o) (rOp T op)) (ha : IE T E X a f) (hb : IE T E X b g) (hm : behindInMarks o b = false) : IE T E X (.Compare a [o] [b] pos) (eOp op f g) :=
  PE.mono (pe_cmpR ho ha hb hm) fun σ H Q q => by
    have q2 := tI_two (k := fun x y S => lift (op x y) S) q
    obtain ⟨w, env, S, r, e, h⟩ := q2
    refine ⟨w, env, S, r, e, h.mono (fun d S1 h1 w1 H1 x l1 r1 p1 => ?_) fun _ _ _ x => x⟩
    obtain ⟨w2, env2, S2, r2, e2, h2⟩ := h1 w1 H1 x l1 r1 p1
    refine ⟨w2, env2, S2, r2, e2, h2.mono (fun d S1 h1 w1 H1 x l1 r1 p1 => ?_) fun _ _ _ x => x⟩
    obtain ⟨w3, d3, e3, S3, r3, p3, q3, h3⟩ := h1 w1 H1 x l1 r1 p1
    exact rOp_of r3 p3 q3 h3
/-- a value of a test -/
theorem tI_bVal {σ : St} {H : Hp} {Q : Bool → Hp → Prop} (q : tIb T E (bVal f) σ H Q) : tI T E f σ H fun x H1 => ∃ k, x = .bl k ∧ Q k H1 := by
  obtain ⟨w, env, S, r, e, h⟩ := q
  refine ⟨w, env, S, r, e, (RP.bnd h).mono (fun d S1 h1 w1 H1 x l1 r1 p1 => ?_) (fun _ _ _ x => x)⟩
  cases p1 with
  | bl k => exact ⟨k, rfl, h1 w1 H1 l1 r1⟩
  | _ => exact h1.elim
theorem ib_cmp {o : CmpOp} {op : D → D → Option D} (ho : OpR X (compareOp o) (rOp T op)) (ha : IE T E X a f) (hb : IE T E X b g) (hm : behindInMarks o b = false) : IB T E X (.Compare a [o] [b] pos) (bVal (eOp op f g)) :=
  PT.mono (pt_cmpR ho ha hb hm) fun σ H Q q => by
    have q2 := tI_two (k := fun x y S => lift (op x y) S) (tI_bVal q)
    obtain ⟨w, env, S, r, e, h⟩ := q2
    refine ⟨w, env, S, r, e, h.mono (fun d S1 h1 w1 H1 x l1 r1 p1 => ?_) fun _ _ _ x => x⟩
    obtain ⟨w2, env2, S2, r2, e2, h2⟩ := h1 w1 H1 x l1 r1 p1
    refine ⟨w2, env2, S2, r2, e2, h2.mono (fun d S1 h1 w1 H1 x l1 r1 p1 => ?_) fun _ _ _ x => x⟩
    obtain ⟨w3, d3, e3, S3, r3, p3, q3, h3⟩ := h1 w1 H1 x l1 r1 p1
    exact rOp_of r3 p3 q3 h3
/-- an expression that is a bool, as a test -/
theorem ib_val (he : IE T E X a f) (hw : ∀ whole, isTrue a X.env whole = (do let v ← whole; standAt a.pos; holding [v] (truthy v)) := by intro _; rfl) : IB T E X a (bVal f) :=
  PT.mono (pt_val he hw) fun σ H Q q => tI_bVal q
theorem iw_pt (h : IW T E X a fb) : IB T E X a fb := PW.pt h
theorem ib_not (h : IB T E X a fb) : IB T E X (.UnaryOp .Not a pos) (bNot fb) :=
  PT.mono (pt_not h) fun σ H Q ⟨w, env, S, r, e, q⟩ => ⟨w, env, S, r, e, (RP.bnd q).mono (fun _ _ h1 => h1) fun _ _ _ x => x⟩
theorem iw_and1 (h : IB T E X a fb) : IW T E X (.BoolOp .And [a] pos) fb := pw_and1 h
theorem iw_or1 (h : IB T E X a fb) : IW T E X (.BoolOp .Or [a] pos) fb := pw_or1 h
theorem iw_and (h : IB T E X a fb) (h2 : IW T E X (.BoolOp .And (b :: es) pos) gb) : IW T E X (.BoolOp .And (a :: b :: es) pos) (bAnd fb gb) :=
  PW.mono (pw_and h h2) fun σ H Q ⟨w, env, S, r, e, q⟩ => ⟨w, env, S, r, e, (RP.bnd q).mono (fun k S1 h1 w1 H1 l1 r1 => by
    cases k with
    | true => exact ⟨w1, env, S1, r1, e.mono l1, RP.mono h1 (fun k2 S2 h2 w2 H2 l2 r2 => h2 w2 H2 (l1.trans l2) r2) fun _ _ _ x => x.le l1⟩
    | false => exact h1 w1 H1 l1 r1) fun _ _ _ x => x⟩
theorem iw_or (h : IB T E X a fb) (h2 : IW T E X (.BoolOp .Or (b :: es) pos) gb) : IW T E X (.BoolOp .Or (a :: b :: es) pos) (bOr fb gb) :=
  PW.mono (pw_or h h2) fun σ H Q ⟨w, env, S, r, e, q⟩ => ⟨w, env, S, r, e, (RP.bnd q).mono (fun k S1 h1 w1 H1 l1 r1 => by
    cases k with
    | false => exact ⟨w1, env, S1, r1, e.mono l1, RP.mono h1 (fun k2 S2 h2 w2 H2 l2 r2 => h2 w2 H2 (l1.trans l2) r2) fun _ _ _ x => x.le l1⟩
    | true => exact h1 w1 H1 l1 r1) fun _ _ _ x => x⟩
theorem ie_one {o : BoolOp} (h : IE T E X a f) : IE T E X (.BoolOp o [a] pos) f := pe_one h
theorem ie_and (h : IE T E X a f) (h2 : IE T E X (.BoolOp .And (b :: es) pos) g) : IE T E X (.BoolOp .And (a :: b :: es) pos) (eAnd f g) :=
  PE.mono (pe_and h h2) fun σ H Q ⟨w, env, S, r, e, q⟩ => ⟨w, env, S, r, e, (RP.bnd q).mono (fun d S1 h1 w1 H1 x l1 r1 p1 => by
    cases p1 with
    | bl k =>
      refine ⟨k, rfl, ?_⟩
      cases k with
      | true => exact ⟨w1, env, S1, r1, e.mono l1, RP.mono h1 (fun k2 S2 h2 w2 H2 v l2 r2 => h2 w2 H2 v (l1.trans l2) r2) fun _ _ _ x => x.le l1⟩
      | false => exact h1 w1 H1 _ l1 r1 (.bl false)
    | _ => exact (show False from h1).elim) fun _ _ _ x => x⟩
theorem ie_or (h : IE T E X a f) (h2 : IE T E X (.BoolOp .Or (b :: es) pos) g) : IE T E X (.BoolOp .Or (a :: b :: es) pos) (eOr f g) :=
  PE.mono (pe_or h h2) fun σ H Q ⟨w, env, S, r, e, q⟩ => ⟨w, env, S, r, e, (RP.bnd q).mono (fun d S1 h1 w1 H1 x l1 r1 p1 => by
    cases p1 with
    | bl k =>
      refine ⟨k, rfl, ?_⟩
      cases k with
      | false => exact ⟨w1, env, S1, r1, e.mono l1, RP.mono h1 (fun k2 S2 h2 w2 H2 v l2 r2 => h2 w2 H2 v (l1.trans l2) r2) fun _ _ _ x => x.le l1⟩
      | true => exact h1 w1 H1 _ l1 r1 (.bl true)
    | _ => exact (show False from h1).elim) fun _ _ _ x => x⟩
theorem ie_not (h : IE T E X a f) : IE T E X (.UnaryOp .Not a pos) (eNot f) :=
  PE.mono (pe_not h) fun σ H Q ⟨w, env, S, r, e, q⟩ => ⟨w, env, S, r, e, (RP.bnd q).mono (fun d S1 h1 w1 H1 x l1 r1 p1 => by
    cases p1 with
    | bl k => exact ⟨k, rfl, h1 w1 H1 _ l1 r1 (.bl (!k))⟩
    | _ => exact (show False from h1).elim) fun _ _ _ x => x⟩
theorem ie_if (hc : IB T E X c fb) (ha : IE T E X a f) (hb : IE T E X b g) : IE T E X (.IfExp c a b pos) (eIf fb f g) :=
  PE.mono (pe_ifExp hc ha hb) fun σ H Q ⟨w, env, S, r, e, q⟩ => ⟨w, env, S, r, e, (RP.bnd q).mono (fun k S1 h1 w1 H1 l1 r1 => by
    cases k with
    | true => exact ⟨w1, env, S1, r1, e.mono l1, RP.mono h1 (fun k2 S2 h2 w2 H2 v l2 r2 => h2 w2 H2 v (l1.trans l2) r2) fun _ _ _ x => x.le l1⟩
    | false => exact ⟨w1, env, S1, r1, e.mono l1, RP.mono h1 (fun k2 S2 h2 w2 H2 v l2 r2 => h2 w2 H2 v (l1.trans l2) r2) fun _ _ _ x => x.le l1⟩) fun _ _ _ x => x⟩
end Ro
end

section
set_option Elab.async false
set_option linter.all false
set_option maxRecDepth 100000
set_option maxHeartbeats 4000000
namespace Ro
open PySem PySem.Spec PyProof.Rows L2
variable {T : Tb} {E : XK} {X : Cx} {a b c : Expr} {es : List Expr} {f g h : EX} {fa ga : AX} {fb gb : BX} {pos : Pos}
/-! ### argument lists, displays -/
theorem ia_nil : IA T E X [] aNil := PA.mono pa_nil fun σ H Q ⟨w, env, S, r, e, q⟩ => q w H [] (Wd.le.refl _) r .nil
theorem ia_cons (ha : IE T E X a f) (hr : IA T E X es fa) (hs : starEach (a :: es) X.env = (false, eval a X.env) :: starEach es X.env := by rfl) : IA T E X (a :: es) (aCons f fa) :=
  PA.mono (pa_cons ha hr hs) fun σ H Q ⟨w, env, S, r, e, q⟩ => ⟨w, env, S, r, e, (RP.bnd q).mono (fun d S1 h1 w1 H1 x l1 r1 p1 => ⟨w1, env, S1, r1, e.mono l1, (RP.bnd h1).mono (fun ds S2 h2 w2 H2 xs l2 r2 p2 => h2 w2 H2 _ (l1.trans l2) r2 (.cons (p1.mono l2) p2)) fun _ _ _ x => x.le l1⟩) fun _ _ _ x => x⟩
theorem ie_tup {k : Nat} (h : IA T E X es fa) : IE T E X (.Tuple es k pos) (eTup fa) :=
  PE.mono (pe_tup h) fun σ H Q ⟨w, env, S, r, e, q⟩ => ⟨w, env, S, r, e, (RP.bnd q).mono (fun ds S1 h1 w1 H1 xs l1 r1 p1 => by
    by_cases hl : ds.length ≤ LINE
    · rw [if_pos hl] at h1
      refine ⟨by rw [sizeLine_eq, ← p1.length]; exact hl, fun p hp => ?_⟩
      obtain ⟨l2, r2⟩ := r1.new hp (.tup xs)
      exact h1 _ _ _ (l1.trans l2) r2 (.tup (.inl (.inl upd_same)) (p1.mono l2))
    · rw [if_neg hl] at h1
      exact (show False from h1).elim) fun _ _ _ x => x⟩
theorem ie_lst (h : IA T E X es fa) : IE T E X (.List es pos) (eLst fa) :=
  PE.mono (pe_lst h) fun σ H Q ⟨w, env, S, r, e, q⟩ => ⟨w, env, S, r, e, (RP.bnd q).mono (fun ds S1 h1 w1 H1 xs l1 r1 p1 => by
    by_cases hl : ds.length ≤ LINE
    · rw [if_pos hl] at h1
      refine ⟨by rw [sizeLine_eq, ← p1.length]; exact hl, fun p hp => ?_⟩
      obtain ⟨l2, r2⟩ := r1.new hp (.lst xs)
      exact h1 _ _ _ (l1.trans l2) r2 (.lst upd_same (p1.mono l2))
    · rw [if_neg hl] at h1
      exact (show False from h1).elim) fun _ _ _ x => x⟩
theorem ie_lstM (h : IA T E X es fa) : IE T E X (.List es pos) (eLstM fa) :=
  PE.mono (pe_lst h) fun σ H Q ⟨w, env, S, r, e, q⟩ => ⟨w, env, S, r, e, (RP.bnd q).mono (fun ds S1 h1 w1 H1 xs l1 r1 p1 => by
    by_cases hl : ds.length ≤ LINE
    · rw [if_pos hl] at h1
      refine ⟨by rw [sizeLine_eq, ← p1.length]; exact hl, fun p hp => ?_⟩
      obtain ⟨l2, r2, at_⟩ := r1.alloc (o := .lst xs) (c := .lst ds) hp ⟨xs, upd_same, p1.mono (Wd.le.app _ _)⟩
      exact h1 _ _ _ (l1.trans l2) r2 (.ref at_)
    · rw [if_neg hl] at h1
      exact (show False from h1).elim) fun _ _ _ x => x⟩
/-! ### chains -/
theorem rd_chain {op op' : D → D → Option D} {σ : St} {H : Hp} {Q : VK} (q : tI T E (eChain op op' f g h) σ H Q) : tChain (rOp T op) (rOp T op') (tI T E f) (tI T E g) (tI T E h) σ H Q := by
  obtain ⟨w, env, S, r, e, q⟩ := q
  refine ⟨w, env, S, r, e, (RP.bnd q).mono (fun d S1 h1 w1 H1 x l1 r1 p1 => ⟨w1, env, S1, r1, e.mono l1, (RP.bnd h1).mono (fun d2 S2 h2 w2 H2 y l2 r2 p2 => ?_) (fun _ _ _ x => x.le l1)⟩) (fun _ _ _ x => x)⟩
  cases z : op d d2 with
  | none => rw [z] at h2; exact (show False from h2).elim
  | some k =>
    rw [z] at h2
    refine ⟨w2, d, d2, k, S2, r2, p1.mono l2, p2, z, fun w3 H3 v l3 r3 p3 => ?_⟩
    cases p3 with
    | bl kk =>
      refine ⟨kk, rfl, ?_⟩
      cases kk with
      | true =>
        rw [if_pos rfl]
        refine ⟨w3, env, S2, r3, e.mono ((l1.trans l2).trans l3), (RP.bnd h2).mono (fun d3 S3 h3 w4 H4 v4 l4 r4 p4 => ?_) fun _ _ _ x => x.le ((l1.trans l2).trans l3)⟩
        have := rOp_of (E := E) (Q := Q) r4 (p2.mono (l3.trans l4)) p4 (RP.mono h3 (fun d S' q w' H' v l => q w' H' v ((((l1.trans l2).trans l3).trans l4).trans l)) fun _ _ _ x => x.le (((l1.trans l2).trans l3).trans l4))
        exact this
      | false =>
        rw [if_neg Bool.false_ne_true]
        exact h2 w3 H3 _ ((l1.trans l2).trans l3) r3 (.bl false)
    | _ => exact (show False from h2).elim
theorem ie_chain {o o' : CmpOp} {op op' : D → D → Option D} (ho : OpR X (compareOp o) (rOp T op)) (ho' : OpR X (compareOp o') (rOp T op')) (ha : IE T E X a f) (hb : IE T E X b g) (hc : IE T E X c h) (hm : lastMarks [o, o'] [b, c] = false := by with_unfolding_all rfl) : IE T E X (.Compare a [o, o'] [b, c] pos) (eChain op op' f g h) :=
  PE.mono (pe_chain (pos := pos) ho ho' ha hb hc hm) fun σ H Q q => rd_chain q
theorem ib_chain {o o' : CmpOp} {op op' : D → D → Option D} (ho : OpR X (compareOp o) (rOp T op)) (ho' : OpR X (compareOp o') (rOp T op')) (ha : IE T E X a f) (hb : IE T E X b g) (hc : IE T E X c h) (hm : lastMarks [o, o'] [b, c] = false := by with_unfolding_all rfl) : IB T E X (.Compare a [o, o'] [b, c] pos) (bVal (eChain op op' f g h)) :=
  PT.mono (pt_chain (pos := pos) ho ho' ha hb hc hm) fun σ H Q q => rd_chain (tI_bVal q)
theorem ib_of (hK : X.K = T.K := by rfl) (he : IE T E X a f) (hw : ∀ whole, isTrue a X.env whole = (do let v ← whole; standAt a.pos; holding [v] (truthy v)) := by intro _; rfl) : IB T E X a (bOf f) :=
  PT.mono (pt_truth he hw) fun σ H Q ⟨w, env, S, r, e, q⟩ => ⟨w, env, S, r, e, (RP.bnd q).mono (fun d S1 h1 w1 H1 x l1 r1 p1 => by
    cases p1 with
    | non => exact ⟨_, rfl, h1 w1 H1 l1 r1⟩
    | bl b => exact ⟨_, rfl, h1 w1 H1 l1 r1⟩
    | int i =>
      refine ⟨_, rfl, ?_⟩
      have z := h1 w1 H1 l1 r1
      have e : (i != 0) = decide (i ≠ 0) := by by_cases h : i = 0 <;> simp [h]
      rw [e]
      exact z
    | str s =>
      by_cases hl : s.length ≤ LINE
      · have h1' : RP (lift (if s.length ≤ LINE then some (decide (s.length ≠ 0)) else none) S1) (fun b S' => ∀ (w' : Wd) (H' : Hp), w.le w' → WR T w' S' H' → Q b H') (XW T w E) := h1
        rw [if_pos hl] at h1'
        refine ⟨_, ⟨by rw [sizeLine_eq]; exact hl, rfl⟩, ?_⟩
        have z := h1' w1 H1 l1 r1
        have e : ((s.length : Int) != 0) = decide (s.length ≠ 0) := by by_cases h : s.length = 0 <;> simp [h]
        rw [e]
        exact z
      · have h1' : RP (lift (if s.length ≤ LINE then some (decide (s.length ≠ 0)) else none) S1) (fun b S' => ∀ (w' : Wd) (H' : Hp), w.le w' → WR T w' S' H' → Q b H') (XW T w E) := h1
        rw [if_neg hl] at h1'
        exact (show False from h1').elim
    | tup q2 r2 =>
      refine ⟨_, .inr (.inl ⟨_, by rw [hK]; exact sqt_sub r1 q2, rfl⟩), ?_⟩
      have z := h1 w1 H1 l1 r1
      cases r2 <;> exact z
    | lst q2 r2 =>
      refine ⟨_, .inl ⟨_, .inl (.inl (r1.sub _ _ q2)), rfl⟩, ?_⟩
      have z := h1 w1 H1 l1 r1
      cases r2 <;> exact z
    | dct q2 r2 =>
      refine ⟨_, .inr (.inr ⟨_, r1.sub _ _ q2, rfl⟩), ?_⟩
      have z := h1 w1 H1 l1 r1
      cases r2 <;> exact z
    | _ => exact (show False from h1).elim) fun _ _ _ x => x⟩
/-! ### statements -/
variable {st : Stmt} {sts rest : List Stmt} {s t : ES}
theorem CP.le {w w' : Wd} {D : Ends} {c : Ctl} {S : Store} (l : w.le w') (h : CP T w D c S) : CP T w' D c S := by
  cases c with
  | nx e => exact fun w2 H2 σ2 l2 => h w2 H2 σ2 (l.trans l2)
  | rt d => exact fun w2 H2 v l2 => h w2 H2 v (l.trans l2)
  | bk e => exact fun w2 H2 σ2 l2 => h w2 H2 σ2 (l.trans l2)
  | ct e => exact fun w2 H2 σ2 l2 => h w2 H2 σ2 (l.trans l2)
theorem is_one (h : IS T E X st s) : ISs T E X [st] s := pss_one h
theorem is_nil : ISs T E X [] sPass := PSs.mono pss_nil fun D σ H ⟨w, env, S, r, e, q⟩ => q w H σ (Wd.le.refl _) r e
theorem is_pass : IS T E X (.Pass pos) sPass := PS.mono ps_pass fun D σ H ⟨w, env, S, r, e, q⟩ => q w H σ (Wd.le.refl _) r e
theorem is_cons (h1 : IS T E X st s) (h2 : ISs T E X rest t) : ISs T E X (st :: rest) (sSeq s t) :=
  PSs.mono (pss_cons h1 h2) fun D σ H ⟨w, env, S, r, e, q⟩ => ⟨w, env, S, r, e, (RP.bnd q).mono (fun c S1 h1 => by
    cases c with
    | nx e1 => exact fun w1 H1 σ1 l1 r1 p1 => ⟨w1, e1, S1, r1, p1, RP.mono h1 (fun c S2 h2 => CP.le l1 h2) fun _ _ _ x => x.le l1⟩
    | rt d => exact h1
    | bk e => exact h1
    | ct e => exact h1) fun _ _ _ x => x⟩
theorem is_set {i : Nat} {x : Str} {p' : Pos} (hN : X.N.Nodup) (hi : X.N[i]? = some x) (hx : Loc X.env.scope x) (he : IE T E X a f) (hs : swapsWith a (some (.Name x p')) pos.line X.env = pure false := by rfl) (hf : X.fn x = true ∨ X.env.scope.names.lookup x = some .local := by first | exact .inl rfl | exact .inr rfl | assumption) :
    IS T E X (.Assign [.Name x p'] a pos) (sSet i f) :=
  PS.mono (ps_set hN hi hx he hs hf) fun D σ H ⟨w, env, S, r, e, q⟩ => ⟨w, env, S, r, e, (RP.bnd q).mono (fun d S1 h1 w1 H1 v l1 r1 p1 => h1 w1 H1 _ l1 r1 ((e.mono l1).set p1 i)) fun _ _ _ x => x⟩
theorem is_ret (he : IE T E X a f) : IS T E X (.Return (some a) pos) (sRet f) :=
  PS.mono (ps_ret he) fun D σ H ⟨w, env, S, r, e, q⟩ => ⟨w, env, S, r, e, (RP.bnd q).mono (fun d S1 h1 w1 H1 v l1 r1 p1 => h1 w1 H1 v l1 r1 p1) fun _ _ _ x => x⟩
theorem is_expr (he : IE T E X a f) (hs : swapsWith a none pos.line X.env = pure false := by rfl) : IS T E X (.Expr a pos) (sExpr f) :=
  PS.mono (ps_expr he hs) fun D σ H ⟨w, env, S, r, e, q⟩ => ⟨w, env, S, r, e, (RP.bnd q).mono (fun d S1 h1 w1 H1 v l1 r1 p1 => h1 w1 H1 _ l1 r1 (e.mono l1)) fun _ _ _ x => x⟩
theorem is_if {bs cs : List Stmt} (hc : IB T E X c fb) (ha : ISs T E X bs s) (hb : ISs T E X cs t) : IS T E X (.If c bs cs pos) (sIf fb s t) :=
  PS.mono (ps_if hc ha hb) fun D σ H ⟨w, env, S, r, e, q⟩ => ⟨w, env, S, r, e, (RP.bnd q).mono (fun k S1 h1 w1 H1 l1 r1 => by
    cases k with
    | true => exact ⟨w1, env, S1, r1, e.mono l1, RP.mono h1 (fun c S2 h2 => CP.le l1 h2) fun _ _ _ x => x.le l1⟩
    | false => exact ⟨w1, env, S1, r1, e.mono l1, RP.mono h1 (fun c S2 h2 => CP.le l1 h2) fun _ _ _ x => x.le l1⟩) fun _ _ _ x => x⟩
/-! ### targets -/
theorem wipe_len (σ : St) : ∀ vs : List Nat, (wipe σ vs).length = σ.length := wipe_length σ
theorem wipe_get (σ : St) (j : Nat) : ∀ vs : List Nat, (wipe σ vs)[j]? = if j ∈ vs then (if j < σ.length then some none else none) else σ[j]?
  | [] => by simp [wipe]
  | v :: vs => by
    show ((wipe σ vs).set v none)[j]? = _
    by_cases h : v = j
    · subst h
      rw [List.getElem?_set]
      simp [wipe_len]
    · rw [List.getElem?_set_ne h, wipe_get σ j vs]
      have e : (j ∈ v :: vs) ↔ j ∈ vs := by simp [Ne.symm h]
      simp only [e]
theorem wipe_set {σ : St} {i : Nat} {x : Option V} {vs : List Nat} (h : i ∈ vs) : wipe (σ.set i x) vs = wipe σ vs := by
  apply List.ext_getElem?
  intro j
  rw [wipe_get, wipe_get, List.length_set]
  by_cases hj : j ∈ vs
  · rw [if_pos hj, if_pos hj]
  · rw [if_neg hj, if_neg hj, List.getElem?_set_ne (fun z => hj (by rw [← z]; exact h))]
theorem wipe_wipe (σ : St) (vs : List Nat) : wipe (wipe σ vs) vs = wipe σ vs := by
  apply List.ext_getElem?
  intro j
  rw [wipe_get, wipe_get, wipe_len]
  by_cases hj : j ∈ vs
  · rw [if_pos hj, if_pos hj]
  · rw [if_neg hj, if_neg hj]
def gI (T : Tb) (vs : List Nat) (p : Pat) : TG := fun v σ H Q => ∃ w env S d e, WR T w S H ∧ ER T w env σ ∧ Rep T w d v ∧ p d env = some e ∧ ∀ σ', ER T w e σ' → wipe σ' vs = wipe σ vs → Q σ' H
def gIs (T : Tb) (vs : List Nat) (p : List D → Env → Option Env) : TGs := fun us σ H Q => ∃ w env S ds e, WR T w S H ∧ ER T w env σ ∧ Reps T w ds us ∧ p ds env = some e ∧ ∀ σ', ER T w e σ' → wipe σ' vs = wipe σ vs → Q σ' H
def IG (T : Tb) (X : Cx) (vs : List Nat) (tg : Expr) (p : Pat) : Prop := PG X tg (gI T vs p)
def IGs (T : Tb) (X : Cx) (vs : List Nat) (tg : List Expr) (p : List D → Env → Option Env) : Prop := PGs X tg (gIs T vs p)
theorem PG.mono {X : Cx} {e : Expr} {t t' : TG} (h : PG X e t) (k : ∀ v σ H Q, t' v σ H Q → t v σ H Q) : PG X e t' := ⟨fun pins s σ H v u Q I r q => h.run pins s σ H v u Q I r (k _ _ _ _ q)⟩
theorem PGs.mono {X : Cx} {e : List Expr} {t t' : TGs} (h : PGs X e t) (k : ∀ v σ H Q, t' v σ H Q → t v σ H Q) : PGs X e t' := ⟨fun pins s σ H v u Q I r q => h.run pins s σ H v u Q I r (k _ _ _ _ q)⟩
variable {vs : List Nat}
theorem ig_name {i : Nat} {x : Str} (hN : X.N.Nodup) (hi : X.N[i]? = some x) (hx : Loc X.env.scope x) (hv : i ∈ vs := by decide) (hf : X.fn x = true ∨ X.env.scope.names.lookup x = some .local := by first | exact .inl rfl | exact .inr rfl | assumption) : IG T X vs (.Name x pos) (pName i) :=
  PG.mono (pg_name hN hi hx hf) fun v σ H Q ⟨w, env, S, d, e, r, q, p, h, k⟩ => by
    cases h
    exact k _ (q.set p i) (wipe_set hv)
theorem igs_nil : IGs T X vs [] pNil := PGs.mono pgs_nil fun v σ H Q ⟨w, env, S, d, e, r, q, p, h, k⟩ => by
  cases p with
  | nil => cases h; exact ⟨rfl, k _ q rfl⟩
  | cons _ _ => cases h
theorem igs_cons {p : Pat} {ps : List D → Env → Option Env} (h1 : IG T X vs a p) (h2 : IGs T X vs es ps) (hs : (assignEach (a :: es) X.env).map (·.2) = assign a X.env :: (assignEach es X.env).map (·.2) := by rfl) : IGs T X vs (a :: es) (pCons p ps) :=
  PGs.mono (pgs_cons h1 h2 hs) fun v σ H Q ⟨w, env, S, d, e, r, q, p0, h, k⟩ => by
    cases p0 with
    | nil => cases h
    | @cons d1 v1 ds us p1 p2 =>
      have h : (p d1 env).bind (fun e => ps ds e) = some e := h
      cases z : p d1 env with
      | none => rw [z] at h; cases h
      | some e1 =>
        rw [z] at h
        exact ⟨_, _, rfl, w, env, S, d1, e1, r, q, p1, z, fun σ1 q1 z1 => ⟨w, e1, S, ds, e, r, q1, p2, h, fun σ2 q2 z2 => k σ2 q2 (z2.trans z1)⟩⟩
theorem ig_tup {ps : List D → Env → Option Env} {k n : Nat} (hc : X.calm = true) (h : IGs T X vs es ps) (hl : ∀ ds env e, ps ds env = some e → ds.length = n) (hK : X.K = T.K := by rfl)
    (hn : (assignEach es X.env).length = n := by rfl) (hst : (assignEach es X.env).findIdx? (·.1) = none := by rfl) : IG T X vs (.Tuple es k pos) (pTup ps) :=
  PG.mono (pg_tup hc h hn hst) fun v σ H Q ⟨w, env, S, d, e, r, q, p0, h, k⟩ => by
    cases p0 with
    | tup q2 r2 => exact ⟨_, _, rfl, by rw [hK]; exact sqt_sub r q2, by rw [← r2.length]; exact hl _ _ _ h, w, env, S, _, e, r, q, r2, h, k⟩
    | _ => cases h
theorem is_unp {p : Pat} (he : IE T E X a f) (hg : IG T X vs b p) (hs : swapsWithSole [b] a pos.line X.env = pure false := by rfl) (hw : swappedStores [b] a X.env = pure none := by rfl) (h1 : (assignEach [b] X.env).map (·.2) = [assign b X.env] := by rfl) : IS T E X (.Assign [b] a pos) (sUnp p f) :=
  PS.mono (ps_asg he hg hs hw h1) fun D σ H ⟨w, env, S, r, e, q⟩ => ⟨w, env, S, r, e, (RP.bnd q).mono (fun d S1 h1 w1 H1 v l1 r1 p1 => by
    cases z : p d env with
    | none => rw [z] at h1; exact (show False from h1).elim
    | some e1 =>
      rw [z] at h1
      exact ⟨w1, env, S1, d, e1, r1, e.mono l1, p1, z, fun σ' q' _ => h1 w1 H1 σ' l1 r1 q'⟩) fun _ _ _ x => x⟩
end Ro
end

section
set_option Elab.async false
set_option linter.all false
set_option maxRecDepth 100000
set_option maxHeartbeats 4000000
namespace Ro
open PySem PySem.Spec PyProof.Rows L2
variable {T : Tb} {E : XK} {X : Cx} {a b c : Expr} {es : List Expr} {f g h : EX} {fa ga : AX} {fb gb : BX} {pos : Pos} {st : Stmt} {sts rest : List Stmt} {s t : ES}
/-! ### what is walked -/
structure ItR (T : Tb) (w : Wd) (ds : List D) (J : It) : Prop where
  goS : ∀ (i : Nat) H w' S, w.sb w' → WR T w' S H → i < ds.length → J.go i H
  stopS : ∀ (i : Nat) H w' S, w.sb w' → WR T w' S H → ds.length ≤ i → J.stop i H
  yldS : ∀ (i : Nat) H x H' w' S d, w.sb w' → WR T w' S H → ds[i]? = some d → J.yld i H x H' → ∃ w2, w'.le w2 ∧ WR T w2 S H' ∧ Rep T w2 d x
theorem ItR.go {T : Tb} {w : Wd} {ds : List D} {J : It} (it : ItR T w ds J) (i : Nat) (H : Hp) (w' : Wd) (S : Store) (l : w.le w') (r : WR T w' S H) (h : i < ds.length) : J.go i H := it.goS i H w' S l.tosb r h
theorem ItR.stop {T : Tb} {w : Wd} {ds : List D} {J : It} (it : ItR T w ds J) (i : Nat) (H : Hp) (w' : Wd) (S : Store) (l : w.le w') (r : WR T w' S H) (h : ds.length ≤ i) : J.stop i H := it.stopS i H w' S l.tosb r h
theorem ItR.yld {T : Tb} {w : Wd} {ds : List D} {J : It} (it : ItR T w ds J) (i : Nat) (H : Hp) (x : V) (H' : Hp) (w' : Wd) (S : Store) (d : D) (l : w.le w') (r : WR T w' S H) (hd : ds[i]? = some d) (y : J.yld i H x H') : ∃ w2, w'.le w2 ∧ WR T w2 S H' ∧ Rep T w2 d x := it.yldS i H x H' w' S d l.tosb r hd y
def tII (T : Tb) (E : XK) (fa : AX) : TI := fun σ H R => ∃ w env S, WR T w S H ∧ ER T w env σ ∧ RP (fa env S) (fun ds S' => ∀ w' H' J, w.le w' → WR T w' S' H' → ItR T w' ds J → R J H') (XW T w E)
def II (T : Tb) (E : XK) (X : Cx) (tg iter : Expr) (fa : AX) : Prop := PI X tg iter (tII T E fa)
theorem PI.mono {X : Cx} {tg e : Expr} {t t' : TI} (h : PI X tg e t) (k : ∀ σ H R, t' σ H R → t σ H R) : PI X tg e t' := ⟨fun pins s σ H R I q => h.run pins s σ H R I (k _ _ _ q)⟩
theorem is_for {tg iter : Expr} {body : List Stmt} {p : Pat} (hp : PassesOwn (model X.prog X.w) X.A X.env X.xe) (hc : X.calm = true) (hi : II T E X tg iter fa) {vs : List Nat} (hg : IG T X vs tg p) (hb : ISs T E X body s) (hs : ∀ x, foldedSetIterable iter X.env x = pure x := by intro _; rfl) : IS T E X (.For tg iter body [] pos) (sFor fa p s) :=
  PS.mono (ps_for hp hc hi hg hb hs) fun D σ H ⟨w, env, S, r, e, q⟩ => ⟨w, env, S, r, e, (RP.bnd q).mono (fun ds S1 h1 w1 H1 J l1 r1 it => by
    refine ⟨fun i m σ H => m = ds.length - i ∧ i ≤ ds.length ∧ ∃ w env S, w1.le w ∧ WR T w S H ∧ ER T w env σ ∧ RP (loop p s (ds.drop i) env S) (CP T w D) (XW T w E),
      ⟨ds.length, by simp, Nat.zero_le _, w1, env, S1, Wd.le.refl _, r1, e.mono l1, RP.mono h1 (fun c S2 h2 => CP.le l1 h2) fun _ _ _ x => x.le l1⟩, ?_⟩
    rintro i m σ H ⟨rfl, hi, w, env, S, l, r, e, q⟩
    by_cases hlt : i < ds.length
    · refine .inr ⟨it.go i H w S l r hlt, fun σ H => i + 1 ≤ ds.length ∧ ∃ w env S, w1.le w ∧ WR T w S H ∧ ER T w env σ ∧ RP (loop p s (ds.drop (i + 1)) env S) (CP T w D) (XW T w E), fun σ' H' h => ⟨ds.length - (i + 1), by omega, rfl, h⟩, fun x H' y => ?_⟩
      obtain ⟨w2, l2, r2, p2⟩ := it.yld i H x H' w S ds[i] l r (List.getElem?_eq_getElem hlt) y
      rw [List.drop_eq_getElem_cons hlt] at q
      unfold loop at q
      cases z : p ds[i] env with
      | none => rw [z] at q; exact (show False from q).elim
      | some e1 =>
        rw [z] at q
        refine ⟨w2, env, S, ds[i], e1, r2, e.mono l2, p2, z, fun σ2 q2 _ => ⟨w2, e1, S, r2, q2, (RP.bnd q).mono (fun c S3 h3 => ?_) fun _ _ _ x => x.le l2⟩⟩
        cases c with
        | nx e3 => exact fun w4 H4 σ4 l4 r4 q4 => ⟨hlt, w4, e3, S3, (l.trans l2).trans l4, r4, q4, RP.mono h3 (fun c S5 h5 => CP.le (l2.trans l4) h5) fun _ _ _ x => x.le (l2.trans l4)⟩
        | ct e3 => exact fun w4 H4 σ4 l4 r4 q4 => ⟨hlt, w4, e3, S3, (l.trans l2).trans l4, r4, q4, RP.mono h3 (fun c S5 h5 => CP.le (l2.trans l4) h5) fun _ _ _ x => x.le (l2.trans l4)⟩
        | bk e3 => exact fun w4 H4 σ4 l4 => h3 w4 H4 σ4 (l2.trans l4)
        | rt d => exact fun w4 H4 v l4 => h3 w4 H4 v (l2.trans l4)
    · have e0 : ds.drop i = [] := List.drop_of_length_le (by omega)
      rw [e0] at q
      exact .inl ⟨it.stop i H w S l r (by omega), q w H σ (Wd.le.refl _) r e⟩) fun _ _ _ x => x⟩
/-- a list, a tuple that stands still -/
def itSeq (f : EX) : AX := fun env S => (f env S).bnd fun d S1 => match d with
  | .lst l => .ok l S1
  | _ => .bad
def itTup (f : EX) : AX := fun env S => (f env S).bnd fun d S1 => match d with
  | .tup l => .ok l S1
  | _ => .bad
theorem itR_lst {w : Wd} {l : List D} {p : Addr} {vs : List V} (q : SqL T.K w.G p vs) (r : Reps T w l vs) : ItR T w l (Itl T.K p) where
  goS := fun i H w' S l1 r1 hi => by
    obtain ⟨v, h1, _⟩ := r.get (List.getElem?_eq_getElem hi)
    exact ⟨vs, v, sql_sub r1 (sql_le l1 q), h1⟩
  stopS := fun i H w' S l1 r1 hi => ⟨vs, sql_sub r1 (sql_le l1 q), by rw [← r.length]; exact hi⟩
  yldS := fun i H x H' w' S d l1 r1 hd y => by
    obtain ⟨rfl, y⟩ := y
    obtain ⟨v, h1, h2⟩ := r.get hd
    have e := y vs (sql_sub r1 (sql_le l1 q))
    rw [h1] at e
    cases e
    exact ⟨w', Wd.le.refl _, r1, h2.monoS l1⟩
theorem itR_tup {w : Wd} {l : List D} {p : Addr} {vs : List V} (q : SqT T.K w.G p vs) (r : Reps T w l vs) : ItR T w l (Itt T.K p) where
  goS := fun i H w' S l1 r1 hi => by
    obtain ⟨v, h1, _⟩ := r.get (List.getElem?_eq_getElem hi)
    exact ⟨vs, v, sqt_sub r1 (sqt_le l1 q), h1⟩
  stopS := fun i H w' S l1 r1 hi => ⟨vs, sqt_sub r1 (sqt_le l1 q), by rw [← r.length]; exact hi⟩
  yldS := fun i H x H' w' S d l1 r1 hd y => by
    obtain ⟨rfl, y⟩ := y
    obtain ⟨v, h1, h2⟩ := r.get hd
    have e := y vs (sqt_sub r1 (sqt_le l1 q))
    rw [h1] at e
    cases e
    exact ⟨w', Wd.le.refl _, r1, h2.monoS l1⟩
theorem ii_lst {tg : Expr} (hK : X.K = T.K) (h : IE T E X a f) : II T E X tg a (itSeq f) :=
  PI.mono (pi_list h) fun σ H Rr ⟨w, env, S, r, e, q⟩ => ⟨w, env, S, r, e, (RP.bnd q).mono (fun d S1 h1 w1 H1 v l1 r1 p1 => by
    cases p1 with
    | lst q2 r2 =>
      refine ⟨_, rfl, ⟨_, .inl (.inl (r1.sub _ _ q2))⟩, ?_⟩
      rw [hK]
      exact h1 w1 H1 _ l1 r1 (itR_lst (.inl (.inl q2)) r2)
    | _ => exact (show False from h1).elim) fun _ _ _ x => x⟩
theorem ii_tup {tg : Expr} (hK : X.K = T.K) (h : IE T E X a f) : II T E X tg a (itTup f) :=
  PI.mono (pi_tup h) fun σ H Rr ⟨w, env, S, r, e, q⟩ => ⟨w, env, S, r, e, (RP.bnd q).mono (fun d S1 h1 w1 H1 v l1 r1 p1 => by
    cases p1 with
    | tup q2 r2 =>
      refine ⟨_, rfl, ⟨_, by rw [hK]; exact sqt_sub r1 q2⟩, ?_⟩
      rw [hK]
      exact h1 w1 H1 _ l1 r1 (itR_tup q2 r2)
    | _ => exact (show False from h1).elim) fun _ _ _ x => x⟩
/-- lo, lo + 1, .. -/
def rngL (lo : Int) (n : Nat) : List D := (List.range n).map fun i : Nat => D.int (lo + (i : Int))
def small62 (i : Int) : Bool := decide (-(2 ^ 62) ≤ i ∧ i < 2 ^ 62)
def itR1 (fa : AX) : AX := fun env S => (fa env S).bnd fun ds S1 => match ds with
  | [.int j] => if small62 j then .ok (rngL 0 j.toNat) S1 else .bad
  | _ => .bad
def itR2 (fa : AX) : AX := fun env S => (fa env S).bnd fun ds S1 => match ds with
  | [.int i, .int j] => if small62 i && small62 j then .ok (rngL i (j - i).toNat) S1 else .bad
  | _ => .bad
theorem itR_rng {w : Wd} {lo : Int} {n : Nat} : ItR T w (rngL lo n) (Itr lo n) where
  goS := fun i H w' S l1 r1 hi => by
    have e : (rngL lo n).length = n := by unfold rngL; simp
    rw [e] at hi
    exact hi
  stopS := fun i H w' S l1 r1 hi => by
    have e : (rngL lo n).length = n := by unfold rngL; simp
    rw [e] at hi
    exact hi
  yldS := fun i H x H' w' S d l1 r1 hd y => by
    obtain ⟨rfl, rfl⟩ := y
    unfold rngL at hd
    rw [List.getElem?_map] at hd
    cases z : (List.range n)[i]? with
    | none => rw [z] at hd; cases hd
    | some k =>
      rw [z] at hd
      obtain ⟨hl, e⟩ := List.getElem?_eq_some_iff.mp z
      rw [List.getElem_range] at e
      subst e
      cases hd
      exact ⟨w', Wd.le.refl _, r1, .int _⟩
theorem ii_r1 {tg : Expr} {p : Pos} (hg : Gl X "range") (hm : X.mg "range" = none) (ha : IA T E X [a] fa) (hs : starEach [a] X.env = [(false, eval a X.env)] := by rfl) : II T E X tg (.Call (.Name "range" p) [a] [] pos) (itR1 fa) :=
  PI.mono (pi_range1 hg hm ha hs) fun σ H Rr ⟨w, env, S, r, e, q⟩ => ⟨w, env, S, r, e, (RP.bnd q).mono (fun ds S1 h1 w1 H1 v l1 r1 p1 => by
    split at h1
    · rename_i j
      cases p1 with
      | cons p2 p3 =>
        cases p2; cases p3
        by_cases hj : small62 j
        · rw [if_pos hj] at h1
          have hj' := of_decide_eq_true hj
          exact ⟨j, rfl, hj'.1, hj'.2, h1 w1 H1 _ l1 r1 itR_rng⟩
        · rw [if_neg hj] at h1
          exact (show False from h1).elim
    · exact (show False from h1).elim) fun _ _ _ x => x⟩
theorem ii_r2 {tg : Expr} {p : Pos} (hg : Gl X "range") (hm : X.mg "range" = none) (ha : IA T E X [a, b] fa) (hs : starEach [a, b] X.env = [(false, eval a X.env), (false, eval b X.env)] := by rfl) (hs2 : starEach [b] X.env = [(false, eval b X.env)] := by rfl) : II T E X tg (.Call (.Name "range" p) [a, b] [] pos) (itR2 fa) :=
  PI.mono (pi_range2 hg hm ha hs hs2) fun σ H Rr ⟨w, env, S, r, e, q⟩ => ⟨w, env, S, r, e, (RP.bnd q).mono (fun ds S1 h1 w1 H1 v l1 r1 p1 => by
    split at h1
    · rename_i i j
      cases p1 with
      | cons p2 p3 =>
        cases p3 with
        | cons p3 p4 =>
          cases p2; cases p3; cases p4
          by_cases hj : (small62 i && small62 j) = true
          · rw [if_pos hj] at h1
            have hj1 := of_decide_eq_true (Bool.and_eq_true_iff.mp hj).1
            have hj2 := of_decide_eq_true (Bool.and_eq_true_iff.mp hj).2
            exact ⟨i, j, rfl, ⟨hj1.1, hj1.2, hj2.1, hj2.2⟩, h1 w1 H1 _ l1 r1 itR_rng⟩
          · rw [if_neg hj] at h1
            exact (show False from h1).elim
    · exact (show False from h1).elim) fun _ _ _ x => x⟩
/-! ### raise, calls, defs -/
def spI (T : Tb) (n : Nat) (m : Fn) : Sp := fun vs H Q E => vs.length = n ∧ ∃ w ds S, WR T w S H ∧ Reps T w ds vs ∧ RP (m ds S) (fun d S' => ∀ w' H' v, w.le w' → WR T w' S' H' → Rep T w' d v → Q v H') (XW T w E)
theorem er_start {w : Wd} {N : List Str} {ds : List D} {vs : List V} (r : Reps T w ds vs) : ER T w (ds.map some ++ List.replicate (N.length - ds.length) none) (L2.start N vs) := by
  refine ⟨by simp [L2.start, r.length], fun i d h => ?_⟩
  by_cases hi : i < ds.length
  · rw [List.getElem?_append_left (by simpa using hi), List.getElem?_map] at h
    cases z : ds[i]? with
    | none => rw [z] at h; cases h
    | some d2 =>
      rw [z] at h
      have e : d2 = d := by simpa using h
      subst e
      obtain ⟨v, h1, h2⟩ := r.get z
      refine ⟨v, ?_, h2⟩
      unfold L2.start
      rw [List.getElem?_append_left (by rw [List.length_map, ← r.length]; exact hi), List.getElem?_map, h1]
      rfl
  · rw [List.getElem?_append_right (by simpa using hi)] at h
    rw [List.getElem?_replicate] at h
    split at h <;> cases h
/-- room, and no repr under way -/
structure RG (k : Nat) (A : Around) : Prop where
  rm : Room k A
  gd : A.guards = some []
theorem RG.mono {j k : Nat} {A : Around} (r : RG k A) (h : j ≤ k) : RG j A := ⟨r.rm.mono h, r.gd⟩
theorem RG.deeper {k : Nat} {A : Around} (r : RG (k + 1) A) (env : PySem.Env) : RG k (A.deeper env) := ⟨r.rm.deeper env, r.gd⟩
theorem RG.in1 {k : Nat} {A : Around} (r : RG (k + 1) A) : RG k A.in1 := ⟨r.rm.in1, r.gd⟩
theorem RG.make {k : Nat} {A : Around} (r : RG (k + 1) A) (c : Addr) (us : List Value) (kw : List (Str × Value)) : RG k (A.under (.builtin "type.__call__" ⟨.ref c :: us, kw⟩)) :=
  ⟨r.rm.make c us kw, by
    have e := r.gd
    have g : Code.guards (.builtin "type.__call__" ⟨.ref c :: us, kw⟩) = [] := by
      unfold Code.guards
      rw [if_neg (by show ¬ (guardIds.contains "type.__call__" = true); decide)]
    show pushGuards (Code.guards (.builtin "type.__call__" ⟨.ref c :: us, kw⟩)) A.guards = some []
    rw [g]
    exact e⟩
/-- .. a def that runs wherever there is room and no repr is under way -/
structure FnG (P : Program) (w : World) (K : PySem.W.Frag) (mg : Str → Option Value) (base : Heap) (k : Nat) (fp : Addr) (fd : FuncData) (ps : List Str) (sp : Sp) : Prop where
  run : ∀ (A : Around) (below : List PySem.Env) (s : Shared) (H : Hp) (ar : Args) (us : List Value) (vs : List V) (Q : VK) (E : XK), RG k A → Env0 P w K mg base A below s H → BindsTo s fd ar (ps.zip us) → Vals vs us → sp vs H Q E →
    codeAny (model P w) A (.call (.ref fp) ar) (CR (L2.CX P w) below P w H s Q E) s
theorem FnG.mono {P : Program} {w : World} {K : PySem.W.Frag} {mg : Str → Option Value} {base : Heap} {j k : Nat} {fp : Addr} {fd : FuncData} {ps : List Str} {sp : Sp} (F : FnG P w K mg base j fp fd ps sp) (h : j ≤ k) : FnG P w K mg base k fp fd ps sp :=
  ⟨fun A below s H ar us vs Q E hr => F.run A below s H ar us vs Q E (hr.mono h)⟩
theorem fnG_of {P : Program} {w : World} {K : PySem.W.Frag} {mg : Str → Option Value} {base : Heap} {k : Nat} {fp : Addr} {nm ql : Str} {prm : Arguments} {bd : List Stmt} {scp : Scope} {dV kV doc pm cdv ct oc : Value} {an od : Option Addr}
    {osl : Array (Option Value)} {N ps : List Str} {sp : Sp} (look : K.lookup fp = some ⟨oc, od, .func (PySem.W.fnOf nm ql prm bd scp dV kV doc pm an cdv ct), osl⟩) (code : PySem.W.codeIn K cdv ql = true) (Sc : FnScope N ps scp)
    (len : ∀ vs H Q E, sp vs H Q E → vs.length = ps.length)
    (h : ∀ (A : Around) (below : List PySem.Env) (s : Shared) (H : Hp) (vs : List V) (Q : VK) (E : XK), RG k (A.deeper (envOfC ql scp s.heap.objs.size fp cdv)) → sp vs H Q E →
      ∃ t, PSs (cxOf (L2.CX P w) P w K mg base N ql scp fp cdv A below s H E) bd t ∧ t { nx := fun _ H' => Q .non H', rt := Q } (L2.start N vs) H) :
    FnG P w K mg base (k + 1) fp (PySem.W.fnOf nm ql prm bd scp dV kV doc pm an cdv ct) ps sp := by
  constructor
  intro A below s H ar us vs Q E hr env0 hbd rv hsp
  have hlen := len _ _ _ _ hsp
  have inK : K.In s.heap := env0.mod.kin.keeps fun b o q => (env0.bs b o q).1
  have noLim : s.heap.NoLimit := env0.mod.nolimit.keeps fun b o q => (env0.bs b o q).1
  have kinds : ∀ z ∈ ps.zip us, scp.names.lookup z.1 = some .local ∨ (scp.names.lookup z.1 = some .cell ∧ ((cellsFrom (s.heap.objs.size + 1) scp.names []).lookup z.1).isSome = true) := by
    rintro ⟨n, v⟩ hz
    rcases Sc.par n (List.of_mem_zip hz).1 with k1 | k1
    · exact Or.inl k1
    · exact Or.inr ⟨k1, PySem.W.cellsFrom_some _ _ _ (Or.inl k1)⟩
  refine codeAny_call_function hr.rm.depth (inK _ _ look) rfl Sc.co Sc.gen rfl (PySem.W.codeRec_of inK code) (hbd _ _ _ _ ?_)
  refine wpAny_newFunctionEnv_cells Sc.kind kinds fun en hen st hx => ?_
  subst hen
  obtain ⟨t, runs, ends⟩ := h A below s H vs Q E (hr.deeper _) hsp
  have J0 : Inv (cxOf (L2.CX P w) P w K mg base N ql scp fp cdv A below s H E) [] (L2.start N vs) H st := inv_start Sc hr.rm.hd env0 hlen rv hx
  refine ⟨noLim.keeps hx.toInCall.keep, codeAny_func (wpAny_mono (runs.run [] st (L2.start N vs) H _ J0 ends) (fun fl st' hs => ?_) fun e st' hs => hs)⟩
  cases fl with
  | ret u =>
    obtain ⟨v, _, H', J, r1, q⟩ := hs
    exact ⟨v, H', J.os, J.bare, J.base, J.hok, r1, q⟩
  | next =>
    obtain ⟨_, H', J, q⟩ := hs
    exact ⟨V.non, H', J.os, J.bare, J.base, J.hok, rfl, q⟩
  | brk => exact hs.elim fun _ z => z.elim fun _ z => z.2.elim
  | cont => exact hs.elim fun _ z => z.elim fun _ z => z.2.elim
/-- a call by it -/
theorem FnG.callBy {X : Cx} {n k : Nat} {fp : Addr} {fd : FuncData} {ps ks : List Str} {sp : Sp} {gg : List Value → List Value → List Value} {gV : List V → List V → List V} {E : XK} {pins : List (Addr × Obj)} {σ : St} {H : Hp} {s : Shared} {Q : VK} {us ws : List Value} {vs zs : List V}
    (F : FnG X.prog X.w X.K X.mg X.base k fp fd ps sp) (hr : RG k X.A) (hb : KBn X.K fd ps n ks gg gV) (hx : Passes (L2.CX X.prog X.w) X E) (I : Inv X pins σ H s) (rv : Vals vs us) (rz : Vals zs ws) (l1 : vs.length = n) (l2 : zs.length = ks.length) (h : sp (gV vs zs) H Q E) :
    wpAny (model X.prog X.w) X.A (call (.ref fp) us (ks.zip ws)) (EP X pins σ Q) X.xe s := by
  have all := hb.rel rv rz
  have run := F.run X.A X.stack s H ⟨us, ks.zip ws⟩ (gg us ws) (gV vs zs) Q E hr I.env0 (hb.to s us ws I.kIn (rv.length.symm.trans l1) (rz.length.symm.trans l2)) all h
  refine wpAny_call (codeAny_mono run fun r st hq => ?_)
  match r, hq with
  | .error e, hq => exact hx pins σ H s e st I hq
  | .ok (.ret u), hq => exact I.after hq
/-- a new thing by its __init__ -/
theorem FnG.makes {X : Cx} {n k : Nat} {C fp : Addr} {fd : FuncData} {ps ks : List Str} {sp : Sp} {gg : List Value → List Value → List Value} {gV : List V → List V → List V} {E : XK} {pins : List (Addr × Obj)} {σ : St} {H : Hp} {s : Shared} {Q : VK} {us ws : List Value} {vs zs : List V}
    (M : Mk X.K C fp) (F : FnG X.prog X.w X.K X.mg X.base k fp fd ps sp) (hr : RG (k + 1) X.A) (hb : KBn X.K fd ps (n + 1) ks gg gV) (hx : Passes (L2.CX X.prog X.w) X E) (I : Inv X pins σ H s) (rv : Vals vs us) (rz : Vals zs ws) (l1 : vs.length = n) (l2 : zs.length = ks.length)
    (h : ∀ x dx, H x = none → H dx = none → dx ≠ x → sp (gV (.ref x :: vs) zs) (upd (upd H dx (.own x)) x (.ins C dx [])) (fun v H2 => v = .non ∧ Q (.ref x) H2) E) :
    wpAny (model X.prog X.w) X.A (call (.ref C) us (ks.zip ws)) (EP X pins σ Q) X.xe s := by
  have start := h (s.heap.objs.size + 1) s.heap.objs.size (I.hok.fresh (by omega)) (I.hok.fresh (by omega)) (by intro z; exact absurd z (Nat.ne_of_lt (Nat.lt_succ_self _)))
  have J := Inv.made (C := C) I
  have rv1 : Vals (V.ref (s.heap.objs.size + 1) :: vs) (Value.ref (s.heap.objs.size + 1) :: us) := .cons rfl rv
  have n1 : (Value.ref (s.heap.objs.size + 1) :: us).length = n + 1 := by rw [← rv1.length, List.length_cons, l1]
  have run := F.run _ X.stack _ _ ⟨Value.ref (s.heap.objs.size + 1) :: us, ks.zip ws⟩ _ _ _ E (hr.make C us (ks.zip ws)) (J.env0.make C us (ks.zip ws)) (hb.to _ _ ws J.kIn n1 (rz.length.symm.trans l2)) (hb.rel rv1 rz) start
  refine wpAny_call (make_map (f := fp) I.kIn M.makes M.init (beq_iff_eq.mp M.fn) (codeAny_mono run fun r st hq => ?_))
  match r, hq with
  | .error e, hq => exact hx pins σ _ _ e st J hq
  | .ok (.ret u), hq =>
    obtain ⟨v, H', J3, r3, e3, q3⟩ := J.after hq
    subst e3
    exact ⟨r3, V.ref (s.heap.objs.size + 1), H', J3, rfl, q3⟩
/-- a def of the text keeps what its mirror says -/
structure OkF (T : Tb) (P : Program) (w : World) (mg : Str → Option Value) (base : Heap) (k : Nat) (d : He.DefD) (ps : List Str) (m : Fn) : Prop where
  ex : ∃ fd, FunD T.K d.name d.qual d.params d.body d.scope (d.dvs T.K) [] (He.fAd T.K d.at_) fd ∧ FnG P w T.K mg base k (He.fAd T.K d.at_) fd ps (spI T ps.length m)
theorem OkF.mono {T : Tb} {P : Program} {w : World} {mg : Str → Option Value} {base : Heap} {j k : Nat} {d : He.DefD} {ps : List Str} {m : Fn} (F : OkF T P w mg base j d ps m) (h : j ≤ k) : OkF T P w mg base k d ps m := by
  obtain ⟨fd, F1, F2⟩ := F.ex
  exact ⟨fd, F1, F2.mono h⟩
theorem OkF.mk' {P : Program} {w : World} {mg : Str → Option Value} {base : Heap} {k : Nat} {d : He.DefD} {ps N : List Str} {body : ES} {fd : FuncData}
    (F : FunD T.K d.name d.qual d.params d.body d.scope (d.dvs T.K) [] (He.fAd T.K d.at_) fd) (Sc : FnScope N ps d.scope)
    (h : ∀ (cdv : Value) (A : Around) (outer : List PySem.Env) (s : Shared) (H : Hp) (E : XK), RG k (A.deeper (envOfC d.qual d.scope s.heap.objs.size (He.fAd T.K d.at_) cdv)) →
      ISs T E (cxOf (L2.CX P w) P w T.K mg base N d.qual d.scope (He.fAd T.K d.at_) cdv A outer s H E) d.body body) : OkF T P w mg base (k + 1) d ps (fnM N.length body) := by
  refine ⟨fd, F, ?_⟩
  obtain ⟨oc, od, dV, kV, doc, pm, an, cdv, ct, osl, rfl, lk, hcd, _, _⟩ := F.ex
  refine fnG_of lk hcd Sc (fun vs H Q E h => h.1) fun A outer s H vs Q E hr hsp => ⟨_, h cdv A outer s H E hr, ?_⟩
  obtain ⟨hl, w0, ds, S, r, q, hm⟩ := hsp
  refine ⟨w0, _, S, r, er_start q, (RP.bnd hm).mono (fun c S1 h1 => ?_) fun _ _ _ x => x⟩
  cases c with
  | rt d => exact h1
  | nx e => exact fun w' H' σ' l r' q' => h1 w' H' .non l r' .non
  | bk e => exact (show False from h1).elim
  | ct e => exact (show False from h1).elim
end Ro
end

section
set_option Elab.async false
set_option linter.all false
set_option maxRecDepth 100000
set_option maxHeartbeats 4000000
namespace Ro
open PySem PySem.Spec PyProof.Rows L2
variable {T : Tb} {E : XK} {X : Cx} {a b c : Expr} {es : List Expr} {f g h : EX} {fa ga fk : AX} {fb gb : BX} {pos : Pos} {st : Stmt} {sts rest : List Stmt} {s t : ES}
/-! ### how values are put -/
theorem vals_get_none {xs : List V} {us : List Value} (r : Vals xs us) {i : Nat} (h : xs[i]? = none) : us[i]? = none := r.none_of h
theorem reps_get_none {w : Wd} {xs : List D} {us : List V} (r : Reps T w xs us) {i : Nat} (h : xs[i]? = none) : us[i]? = none := by
  have e := List.getElem?_eq_none_iff.mp h
  exact List.getElem?_eq_none_iff.mpr (by rw [← r.length]; exact e)
theorem vals_pick : ∀ (pk : List (Nat × Nat)) {vs ds zs : List V} {us its ws : List Value}, Vals vs us → Vals ds its → Vals zs ws → Vals (pick pk vs ds zs) (pick pk us its ws)
  | [], _, _, _, _, _, _, _, _, _ => .nil
  | q :: pk, vs, ds, zs, us, its, ws, h1, h2, h3 => by
    have ih := vals_pick pk h1 h2 h3
    have key : ∀ {xs : List V} {ys : List Value}, Vals xs ys → Vals (xs[q.2]?).toList (ys[q.2]?).toList := fun {xs ys} r => by
      cases e : xs[q.2]? with
      | none => rw [r.none_of e]; exact .nil
      | some x =>
        obtain ⟨y, e1, e2⟩ := r.get e
        rw [e1]
        exact .cons e2 .nil
    show Vals (((if q.1 = 0 then vs else if q.1 = 1 then ds else zs)[q.2]?).toList ++ pick pk vs ds zs) (((if q.1 = 0 then us else if q.1 = 1 then its else ws)[q.2]?).toList ++ pick pk us its ws)
    refine Vals.append ?_ ih
    by_cases c1 : q.1 = 0
    · rw [if_pos c1, if_pos c1]; exact key h1
    · rw [if_neg c1, if_neg c1]
      by_cases c2 : q.1 = 1
      · rw [if_pos c2, if_pos c2]; exact key h2
      · rw [if_neg c2, if_neg c2]; exact key h3
theorem reps_pick {w : Wd} : ∀ (pk : List (Nat × Nat)) {vs ds zs : List D} {us its ws : List V}, Reps T w vs us → Reps T w ds its → Reps T w zs ws → Reps T w (pick pk vs ds zs) (pick pk us its ws)
  | [], _, _, _, _, _, _, _, _, _ => .nil
  | q :: pk, vs, ds, zs, us, its, ws, h1, h2, h3 => by
    have ih := reps_pick pk h1 h2 h3
    have key : ∀ {xs : List D} {ys : List V}, Reps T w xs ys → Reps T w (xs[q.2]?).toList (ys[q.2]?).toList := fun {xs ys} r => by
      cases e : xs[q.2]? with
      | none => rw [reps_get_none r e]; exact .nil
      | some x =>
        obtain ⟨y, e1, e2⟩ := r.get e
        rw [e1]
        exact .cons e2 .nil
    show Reps T w (((if q.1 = 0 then vs else if q.1 = 1 then ds else zs)[q.2]?).toList ++ pick pk vs ds zs) (((if q.1 = 0 then us else if q.1 = 1 then its else ws)[q.2]?).toList ++ pick pk us its ws)
    refine Reps.append ?_ ih
    by_cases c1 : q.1 = 0
    · rw [if_pos c1, if_pos c1]; exact key h1
    · rw [if_neg c1, if_neg c1]
      by_cases c2 : q.1 = 1
      · rw [if_pos c2, if_pos c2]; exact key h2
      · rw [if_neg c2, if_neg c2]; exact key h3
/-- a call's binding -/
structure KBD (T : Tb) (fd : FuncData) (ps : List Str) (n : Nat) (ks : List Str) (pk : List (Nat × Nat)) (dfs : List D) : Prop where
  ex : ∃ its dvs, KBn T.K fd ps n ks (fun us ws => pick pk us its ws) (fun vs zs => pick pk vs dvs zs) ∧ ∀ w, Reps T w dfs dvs
def dvD : He.Dv → D
  | .bl b => .bl b
  | .int i => .int i
  | .str s => .str s
  | _ => .non
def dvOk : He.Dv → Bool
  | .non => true
  | .bl _ => true
  | .int _ => true
  | .str _ => true
  | _ => false
theorem reps_dfl {K : PySem.W.Frag} {w : Wd} : ∀ {l : List He.Dv}, l.all dvOk = true → Reps T w (l.map dvD) (l.map (He.Dv.v K))
  | [], _ => .nil
  | d :: l, h => by
    obtain ⟨h1, h2⟩ := Bool.and_eq_true_iff.mp (show (dvOk d && l.all dvOk) = true from h)
    refine .cons ?_ (reps_dfl h2)
    cases d <;> first | exact .non | exact .bl _ | exact .int _ | exact .str _ | cases h1
/-- no default is asked -/
theorem kbd_n {x qual : Str} {params : Arguments} {body : List Stmt} {scope : Scope} {f : Addr} {fd : FuncData} {ps ks : List Str} {n : Nat} {pk : List (Nat × Nat)} (F : FunD T.K x qual params body scope [] [] f fd)
    (h : ∀ (kV doc pm : Value) (an : Option Addr) (cdv ct : Value) (us ws : List Value), us.length = n → ws.length = ks.length → bindArgs (PySem.W.fnOf x qual params body scope .none kV doc pm an cdv ct) ⟨us, ks.zip ws⟩ = pure (ps.zip (pick pk us [] ws))) : KBD T fd ps n ks pk [] := by
  obtain ⟨oc, od, dV, kV, doc, pm, an, cdv, ct, osl, rfl, lk, hcd, hD, hK⟩ := F.ex
  rcases hD with ⟨_, rfl⟩ | ⟨e, _⟩
  · exact ⟨[], [], ⟨fun s us ws X l1 l2 => .of_eq (h kV doc pm an cdv ct us ws l1 l2), fun r1 r2 => vals_pick pk r1 .nil r2⟩, fun _ => .nil⟩
  · exact absurd rfl e
theorem kbd_d {x qual : Str} {params : Arguments} {body : List Stmt} {scope : Scope} {f : Addr} {fd : FuncData} {ps ks : List Str} {n : Nat} {pk : List (Nat × Nat)} {l : List He.Dv} (F : FunD T.K x qual params body scope (l.map (He.Dv.v T.K)) [] f fd) (hl : l.all dvOk = true) (hd : l ≠ [])
    (h : ∀ (T : Addr) (kV doc pm : Value) (an : Option Addr) (cdv ct : Value) (us its ws : List Value), us.length = n → its.length = l.length → ws.length = ks.length →
      ∃ k, bindArgs (PySem.W.fnOf x qual params body scope (.ref T) kV doc pm an cdv ct) ⟨us, ks.zip ws⟩ = seqItems? (.ref T) >>= k ∧ k (some its.toArray) = pure (ps.zip (pick pk us its ws))) : KBD T fd ps n ks pk (l.map dvD) := by
  obtain ⟨its, hb⟩ := F.kbindsD (ps := ps) n ks (fun us its ws => pick pk us its ws) (by simpa using hd) (fun r1 r2 r3 => vals_pick pk r1 r2 r3) (fun T kV doc pm an cdv ct us its ws h1 h2 h3 => h T kV doc pm an cdv ct us its ws h1 (by simpa using h2) h3)
  exact ⟨its, _, hb, fun w => reps_dfl hl⟩
/-! ### keywords -/
def IK (T : Tb) (E : XK) (X : Cx) (kws : List Keyword) (fa : AX) : Prop := PK X kws (tIa T E fa)
theorem PK.mono {X : Cx} {es : List Keyword} {t t' : TA} (h : PK X es t) (k : ∀ σ H Q, t' σ H Q → t σ H Q) : PK X es t' := ⟨fun pos pins s σ H Q I q => h.run pos pins s σ H Q I (k _ _ _ q)⟩
theorem ik_nil : IK T E X [] aNil := PK.mono pk_nil fun σ H Q ⟨w, env, S, r, e, q⟩ => q w H [] (Wd.le.refl _) r .nil
theorem ik_cons {kws : List Keyword} {nm : Option Str} {kpos : Pos} (ha : IE T E X a f) (hr : IK T E X kws fa) : IK T E X (⟨nm, a, kpos⟩ :: kws) (aCons f fa) :=
  PK.mono (pk_cons ha hr) fun σ H Q ⟨w, env, S, r, e, q⟩ => ⟨w, env, S, r, e, (RP.bnd q).mono (fun d S1 h1 w1 H1 x l1 r1 p1 => ⟨w1, env, S1, r1, e.mono l1, (RP.bnd h1).mono (fun ds S2 h2 w2 H2 xs l2 r2 p2 => h2 w2 H2 _ (l1.trans l2) r2 (.cons (p1.mono l2) p2)) fun _ _ _ x => x.le l1⟩) fun _ _ _ x => x⟩
/-! ### the written arguments of a call, evaluated -/
abbrev Pk (T : Tb) (w : Wd) (Q : VK) : D → Store → Prop := fun d S' => ∀ w' H' v, w.le w' → WR T w' S' H' → Rep T w' d v → Q v H'
def AK (T : Tb) (E : XK) (X : Cx) (es : List Expr) (kws : List Keyword) (pos : Pos) (ks : List Str) (fa fk : AX) : Prop :=
  ∀ (pins : List (Addr × Obj)) (s : Shared) (σ : St) (H : Hp) (w : Wd) (env : Env) (S : Store) (m : List D → List D → Store → R D) (Q : VK) (fv : Value) (first : List Value) (Qf : Value → Shared → Prop),
    Inv X pins σ H s → WR T w S H → ER T w env σ → PySem.W.keepIn X.K fv = true → RP ((fa env S).bnd fun xs S1 => (fk env S1).bnd fun zs S2 => m xs zs S2) (Pk T w Q) (XW T w E) →
    (∀ s2 H2 us ws vs zs w2 xs ys S2, Inv X pins σ H2 s2 → w.le w2 → WR T w2 S2 H2 → Vals vs us → Vals zs ws → Reps T w2 xs vs → Reps T w2 ys zs → RP (m xs ys S2) (Pk T w2 Q) (XW T w2 E) → wpAny (model X.prog X.w) X.A (call fv (first ++ us) (ks.zip ws)) Qf X.xe s2) →
    wpAny (model X.prog X.w) X.A (callWith pos fv first (backTo pos (starEach es X.env)) (backToKw pos (keywordEach kws X.env))) Qf X.xe s
theorem ak_cons {kws : List Keyword} {ks : List Str} (ha : IA T E X (a :: es) fa) (hkw : IK T E X kws fk) (hall : (backToKw pos (keywordEach kws X.env)).all (·.1.isSome) = true := by rfl) (hks : (backToKw pos (keywordEach kws X.env)).filterMap (·.1) = ks := by rfl)
    (he : starEach (a :: es) X.env = (false, eval a X.env) :: starEach es X.env := by rfl) (hpl : ((backTo pos (starEach (a :: es) X.env)).any (·.1) || (backToKw pos (keywordEach kws X.env)).any (·.1.isNone)) = false := by rfl) : AK T E X (a :: es) kws pos ks fa fk := by
  intro pins s σ H w env S m Q fv first Qf I r e hk q k
  refine PySem.W.callWith_KW (h₀ := X.base) I.ok.mod.kin hk hall (thn (ha.run pos pins s σ H (fun vs2 H2 => ∃ w1 xs S1, w.le w1 ∧ WR T w1 S1 H2 ∧ Reps T w1 xs vs2 ∧ RP ((fk env S1).bnd fun zs S2 => m xs zs S2) (Pk T w Q) (XW T w E)) I ⟨w, env, S, r, e, (RP.bnd q).mono (fun xs S1 h1 w1 H1 vs l1 r1 p1 => ⟨w1, xs, S1, l1, r1, p1, h1⟩) fun _ _ _ x => x⟩) fun us s1 ⟨vs, H1, I1, rv, q1⟩ => ?_) hpl he
  · obtain ⟨w1, xs, S1, l1, r1, p1, h1⟩ := q1
    refine thn (hkw.run pos pins s1 σ H1 (fun zs H2 => ∃ w2 ys S2, w1.le w2 ∧ WR T w2 S2 H2 ∧ Reps T w2 ys zs ∧ RP (m xs ys S2) (Pk T w Q) (XW T w E)) I1 ⟨w1, env, S1, r1, e.mono l1, (RP.bnd h1).mono (fun ys S2 h2 w2 H2 zs l2 r2 p2 => ⟨w2, ys, S2, l2, r2, p2, h2⟩) fun _ _ _ x => x.le l1⟩) fun ws s2 ⟨zs, H2, I2, rz, w2, ys, S2, l2, r2, p2, h2⟩ => ⟨I2.kIn, ?_⟩
    rw [hks]
    exact k s2 H2 us ws vs zs w2 xs ys S2 I2 (l1.trans l2) r2 rv rz (p1.mono l2) p2 (RP.mono h2 (fun d S' q w' H' v l => q w' H' v ((l1.trans l2).trans l)) fun _ _ _ x => x.le (l1.trans l2))
theorem ak_nil {kws : List Keyword} {ks : List Str} (hkw : IK T E X kws fk) (hall : (backToKw pos (keywordEach kws X.env)).all (·.1.isSome) = true := by rfl) (hks : (backToKw pos (keywordEach kws X.env)).filterMap (·.1) = ks := by rfl)
    (hpl : ((backTo pos (starEach [] X.env)).any (·.1) || (backToKw pos (keywordEach kws X.env)).any (·.1.isNone)) = false := by rfl) : AK T E X [] kws pos ks aNil fk := by
  intro pins s σ H w env S m Q fv first Qf I r e hk q k
  refine PySem.W.callWith_KW0 (h₀ := X.base) I.ok.mod.kin hk hall (thn (hkw.run pos pins s σ H (fun zs H2 => ∃ w2 ys S2, w.le w2 ∧ WR T w2 S2 H2 ∧ Reps T w2 ys zs ∧ RP (m [] ys S2) (Pk T w Q) (XW T w E)) I ⟨w, env, S, r, e, (RP.bnd (show RP ((fk env S).bnd fun ys S2 => m [] ys S2) (Pk T w Q) (XW T w E) from q)).mono (fun ys S2 h2 w2 H2 zs l2 r2 p2 => ⟨w2, ys, S2, l2, r2, p2, h2⟩) fun _ _ _ x => x⟩) fun ws s2 ⟨zs, H2, I2, rz, w2, ys, S2, l2, r2, p2, h2⟩ => ⟨I2.kIn, ?_⟩) hpl
  rw [hks]
  exact k s2 H2 [] ws [] zs w2 [] ys S2 I2 l2 r2 .nil rz .nil p2 (RP.mono h2 (fun d S' q w' H' v l => q w' H' v (l2.trans l)) fun _ _ _ x => x.le l2)
/-! ### the callee runs -/
theorem fn_core {k n : Nat} {fd : FuncData} {fp : Addr} {ps ks : List Str} {m : Fn} {pk : List (Nat × Nat)} {dfs : List D} (F : FnG X.prog X.w T.K X.mg X.base k fp fd ps (spI T ps.length m)) (hK : X.K = T.K) (hr : RG k X.A) (hb : KBD T fd ps n ks pk dfs) (tk : Takes X fun c d _ H => E c d H)
    {pins : List (Addr × Obj)} {s : Shared} {σ : St} {H : Hp} {w : Wd} {S : Store} {us ws : List Value} {vs zs : List V} {xs ys : List D} {Q : VK} (I : Inv X pins σ H s) (r : WR T w S H) (rv : Vals vs us) (rz : Vals zs ws) (px : Reps T w xs vs) (py : Reps T w ys zs)
    (l1 : xs.length = n) (l2 : ys.length = ks.length) (l3 : (pick pk xs dfs ys).length = ps.length) (q : RP (m (pick pk xs dfs ys) S) (Pk T w Q) (XW T w E)) : wpAny (model X.prog X.w) X.A (call (.ref fp) us (ks.zip ws)) (EP X pins σ Q) X.xe s := by
  obtain ⟨its, dvs, kb, rd⟩ := hb.ex
  have F' : FnG X.prog X.w X.K X.mg X.base k fp fd ps (spI T ps.length m) := by rw [hK]; exact F
  have kb' : KBn X.K fd ps n ks (fun us ws => pick pk us its ws) (fun vs zs => pick pk vs dvs zs) := by rw [hK]; exact kb
  have pp := reps_pick pk px (rd w) py
  exact FnG.callBy F' hr kb' (passes_call tk fun _ _ _ _ h => h) I rv rz (by rw [← px.length]; exact l1) (by rw [← py.length]; exact l2) ⟨by rw [← pp.length]; exact l3, w, _, S, r, pp, q⟩
/-- how many, and put -/
def callM (m : Fn) (n kn pn : Nat) (pk : List (Nat × Nat)) (dfs : List D) : List D → List D → Store → R D := fun xs ys S => if xs.length = n ∧ ys.length = kn ∧ (pick pk xs dfs ys).length = pn then m (pick pk xs dfs ys) S else .bad
def eFn (m : List D → List D → Store → R D) (fa fk : AX) : EX := fun env S => (fa env S).bnd fun xs S1 => (fk env S1).bnd fun zs S2 => m xs zs S2
theorem callM_ok {m : Fn} {n kn pn : Nat} {pk : List (Nat × Nat)} {dfs xs ys : List D} {S : Store} {Pk : D → Store → Prop} {Pe : String → List D → Store → Prop} (h : RP (callM m n kn pn pk dfs xs ys S) Pk Pe) :
    xs.length = n ∧ ys.length = kn ∧ (pick pk xs dfs ys).length = pn ∧ RP (m (pick pk xs dfs ys) S) Pk Pe := by
  unfold callM at h
  by_cases c : xs.length = n ∧ ys.length = kn ∧ (pick pk xs dfs ys).length = pn
  · rw [if_pos c] at h
    exact ⟨c.1, c.2.1, c.2.2, h⟩
  · rw [if_neg c] at h
    exact (show False from h).elim
/-- f(.., k = ..) -/
theorem ie_fn {k n : Nat} {d : He.DefD} {x : Str} {p : Pos} {kws : List Keyword} {ps ks : List Str} {m : Fn} {pk : List (Nat × Nat)} {dfs : List D} (F : OkF T X.prog X.w X.mg X.base k d ps m) (hK : X.K = T.K) (hr : RG k X.A) (hg : Gl X x) (hm : X.mg x = some (.ref (He.fAd T.K d.at_)))
    (hb : ∀ fd, FunD T.K d.name d.qual d.params d.body d.scope (d.dvs T.K) [] (He.fAd T.K d.at_) fd → KBD T fd ps n ks pk dfs) (tk : Takes X fun c d _ H => E c d H) (ha : AK T E X es kws pos ks fa fk) (hdb : (x == ("__debug__" : Str)) = false := by decide +kernel) :
    IE T E X (.Call (.Name x p) es kws pos) (eFn (callM m n ks.length ps.length pk dfs) fa fk) := by
  obtain ⟨fd, FD, FO⟩ := F.ex
  refine ⟨fun pins s σ H Q I h => ?_⟩
  obtain ⟨w, env, S, r, e, q⟩ := h
  refine wpAny_Call_Name_kw (ld_glob I hg hm ?_ hdb)
  refine ha pins s σ H w env S _ Q _ [] _ I r e (by rw [hK]; exact FD.kp) q fun s2 H2 us ws vs zs w2 xs ys S2 I2 l2 r2 rv rz px py q2 => ?_
  obtain ⟨c1, c2, c3, q3⟩ := callM_ok q2
  exact fn_core FO hK hr (hb fd FD) tk I2 r2 rv rz px py c1 c2 c3 q3
end Ro
end

section
set_option Elab.async false
set_option linter.all false
set_option maxRecDepth 100000
set_option maxHeartbeats 4000000
namespace Ro
open PySem PySem.Spec PyProof.Rows L2
variable {T : Tb} {E : XK} {X : Cx} {a b c : Expr} {es : List Expr} {f g h : EX} {fa ga fk : AX} {fb gb : BX} {pos : Pos} {st : Stmt} {sts rest : List Stmt} {s t : ES}
/-! ### fields -/
theorem lookup_rep {w : Wd} {f : String} {d : D} : ∀ {fs : List (String × D)} {gs : List (Str × V)}, gs.map (·.1) = fs.map (fun p => Str.ofString p.1) → Reps T w (fs.map (·.2)) (gs.map (·.2)) → fs.lookup f = some d → ∃ v, gs.lookup (Str.ofString f) = some v ∧ Rep T w d v
  | [], _, _, _, h => by cases h
  | (k, e) :: fs, [], h1, _, _ => by cases h1
  | (k, e) :: fs, (k2, v) :: gs, h1, h2, h3 => by
    have h1' : k2 :: gs.map (·.1) = Str.ofString k :: fs.map (fun p => Str.ofString p.1) := h1
    injection h1' with e1 e2
    have h2' : Reps T w (e :: fs.map (·.2)) (v :: gs.map (·.2)) := h2
    cases h2' with
    | cons r1 r2 =>
      rw [List.lookup_cons] at h3 ⊢
      by_cases hk : f = k
      · subst hk
        rw [beq_self_eq_true] at h3
        have e3 : e = d := Option.some.inj h3
        subst e3
        rw [e1, beq_self_eq_true]
        exact ⟨v, rfl, r1⟩
      · rw [beq_eq_false_iff_ne.mpr hk] at h3
        have hk2 : Str.ofString f ≠ k2 := fun z => hk (ofString_inj.mp (z.trans e1))
        rw [beq_eq_false_iff_ne.mpr hk2]
        exact lookup_rep e2 r2 h3
theorem lookup_none {f : String} : ∀ {fs : List (String × D)} {gs : List (Str × V)}, gs.map (·.1) = fs.map (fun p => Str.ofString p.1) → fs.lookup f = none → gs.lookup (Str.ofString f) = none
  | [], [], _, _ => rfl
  | [], _ :: _, h, _ => by cases h
  | (k, e) :: fs, [], h1, _ => by cases h1
  | (k, e) :: fs, (k2, v) :: gs, h1, h3 => by
    have h1' : k2 :: gs.map (·.1) = Str.ofString k :: fs.map (fun p => Str.ofString p.1) := h1
    injection h1' with e1 e2
    rw [List.lookup_cons] at h3 ⊢
    by_cases hk : f = k
    · subst hk
      rw [beq_self_eq_true] at h3
      cases h3
    · rw [beq_eq_false_iff_ne.mpr hk] at h3
      have hk2 : Str.ofString f ≠ k2 := fun z => hk (ofString_inj.mp (z.trans e1))
      rw [beq_eq_false_iff_ne.mpr hk2]
      exact lookup_none e2 h3
theorem put_rep {w : Wd} {f : String} {d : D} {v : V} (q : Rep T w d v) : ∀ {fs : List (String × D)} {gs : List (Str × V)}, gs.map (·.1) = fs.map (fun p => Str.ofString p.1) → Reps T w (fs.map (·.2)) (gs.map (·.2)) →
    (putF (Str.ofString f) v gs).map (·.1) = (setF f d fs).map (fun p => Str.ofString p.1) ∧ Reps T w ((setF f d fs).map (·.2)) ((putF (Str.ofString f) v gs).map (·.2))
  | [], [], _, _ => ⟨rfl, .cons q .nil⟩
  | [], _ :: _, h, _ => by cases h
  | (k, e) :: fs, [], h1, _ => by cases h1
  | (k, e) :: fs, (k2, u) :: gs, h1, h2 => by
    have h1' : k2 :: gs.map (·.1) = Str.ofString k :: fs.map (fun p => Str.ofString p.1) := h1
    injection h1' with e1 e2
    have h2' : Reps T w (e :: fs.map (·.2)) (u :: gs.map (·.2)) := h2
    cases h2' with
    | cons r1 r2 =>
      show (if k2 = Str.ofString f then (k2, v) :: gs else (k2, u) :: putF (Str.ofString f) v gs).map (·.1) = (if k = f then (f, d) :: fs else (k, e) :: setF f d fs).map (fun p => Str.ofString p.1) ∧ Reps T w ((if k = f then (f, d) :: fs else (k, e) :: setF f d fs).map (·.2)) ((if k2 = Str.ofString f then (k2, v) :: gs else (k2, u) :: putF (Str.ofString f) v gs).map (·.2))
      by_cases hk : k = f
      · subst hk
        rw [if_pos e1, if_pos rfl]
        exact ⟨by rw [List.map_cons, List.map_cons, e2, e1], .cons q r2⟩
      · rw [if_neg hk, if_neg (fun z => hk (ofString_inj.mp (e1.symm.trans z)))]
        obtain ⟨h3, h4⟩ := put_rep q e2 r2
        exact ⟨by rw [List.map_cons, List.map_cons, e1, h3], .cons r1 h4⟩
theorem zip_fst : ∀ {ns : List String} {ds : List D}, ns.length = ds.length → (ns.zip ds).map (fun p => Str.ofString p.1) = ns.map Str.ofString ∧ (ns.zip ds).map (·.2) = ds
  | [], [], _ => ⟨rfl, rfl⟩
  | [], _ :: _, h => by cases h
  | _ :: _, [], h => by cases h
  | n :: ns, d :: ds, h => by
    obtain ⟨h1, h2⟩ := zip_fst (ns := ns) (ds := ds) (Nat.succ.inj h)
    exact ⟨by rw [List.zip_cons_cons, List.map_cons, List.map_cons, h1], by rw [List.zip_cons_cons, List.map_cons, h2]⟩
/-- a thing with fields, as it lies -/
theorem inst_of {w : Wd} {S : Store} {H : Hp} {x : V} {cf : String → List String} (hcf : T.cf = cf) (r : WR T w S H) {d : D} (p : Rep T w d x) :
    (∀ c ds, d = .obj c ds → ∃ a dx gs, x = .ref a ∧ H a = some (.ins (He.ga T.K (c : Str)) dx gs) ∧ gs.map (·.1) = ((cf c).zip ds).map (fun p => Str.ofString p.1) ∧ Reps T w (((cf c).zip ds).map (·.2)) (gs.map (·.2))) ∧
    (∀ n c fs, d = .ref n → S[n]? = some (.ins c fs) → ∃ a dx gs, x = .ref a ∧ w.am[n]? = some a ∧ H a = some (.ins (He.ga T.K (c : Str)) dx gs) ∧ gs.map (·.1) = fs.map (fun p => Str.ofString p.1) ∧ Reps T w (fs.map (·.2)) (gs.map (·.2))) := by
  constructor
  · rintro c ds rfl
    cases p with
    | obj h n q =>
      rename_i a dx fs
      have hl : (cf c).length = ds.length := by
        rw [hcf] at n
        have e := congrArg List.length n
        rw [List.length_map, List.length_map] at e
        rw [q.length, List.length_map]
        exact e.symm
      obtain ⟨z1, z2⟩ := zip_fst hl
      exact ⟨a, dx, fs, rfl, r.sub _ _ h, by rw [z1, n, hcf], by rw [z2]; exact q⟩
  · rintro n c fs rfl hS
    cases p with
    | ref h =>
      obtain ⟨dx, gs, h1, h2, h3⟩ := r.cell n _ _ hS h
      exact ⟨_, dx, gs, rfl, h, h1, h2, h3⟩
theorem ie_attr {cf : String → List String} {cs : List String} {fn : String} (hcf : T.cf = cf) (hK : X.K = T.K) (hc : ∀ c ∈ cs, Cls T.K (He.ga T.K (c : Str)) ∧ NoAttr T.K (He.ga T.K (c : Str)) (fn : Str)) (ha : IE T E X a f) (hb : attributeBase a (fn : Str) X.env (eval a X.env) = eval a X.env := by rfl) :
    IE T E X (.Attribute a (fn : Str) pos) (eAttr cf cs fn f) :=
  PE.mono (pe_fld ha hb) fun σ H Q ⟨w, env, S, r, e, q⟩ => ⟨w, env, S, r, e, (RP.bnd q).mono (fun d S1 h1 w1 H1 x l1 r1 p1 => by
    cases z : attrD cf cs fn d S1 with
    | none => rw [z] at h1; exact (show False from h1).elim
    | some y =>
      rw [z] at h1
      obtain ⟨i1, i2⟩ := inst_of hcf r1 p1
      unfold attrD at z
      split at z
      · rename_i c ds
        by_cases hcs : cs.contains c = true
        · rw [if_pos hcs] at z
          obtain ⟨p, dx, gs, rfl, h3, h4, h5⟩ := i1 c ds rfl
          obtain ⟨v, h6, h7⟩ := lookup_rep h4 h5 z
          obtain ⟨c1, c2⟩ := hc c (by simpa using hcs)
          rw [hK]
          exact ⟨p, _, dx, gs, v, rfl, h3, c1, c2, h6, h1 w1 H1 v l1 r1 h7⟩
        · rw [if_neg hcs] at z; cases z
      · rename_i n
        split at z
        · rename_i c fs hS
          by_cases hcs : cs.contains c = true
          · rw [if_pos hcs] at z
            obtain ⟨p, dx, gs, rfl, _, h3, h4, h5⟩ := i2 n c fs rfl hS
            obtain ⟨v, h6, h7⟩ := lookup_rep h4 h5 z
            obtain ⟨c1, c2⟩ := hc c (by simpa using hcs)
            rw [hK]
            exact ⟨p, _, dx, gs, v, rfl, h3, c1, c2, h6, h1 w1 H1 v l1 r1 h7⟩
          · rw [if_neg hcs] at z; cases z
        · cases z
      · cases z) fun _ _ _ x => x⟩
theorem is_setattr {cs : List String} {fn : String} {pos' : Pos} (hK : X.K = T.K) (hc : ∀ c ∈ cs, Cls T.K (He.ga T.K (c : Str)) ∧ NoAttr T.K (He.ga T.K (c : Str)) (fn : Str)) (ho : IE T E X a f) (hv : IE T E X b g) (hs : swapsWith b (some (.Attribute a (fn : Str) pos')) pos.line X.env = pure false := by rfl) :
    IS T E X (.Assign [.Attribute a (fn : Str) pos'] b pos) (sSetAttr cs fn f g) :=
  PS.mono (ps_fld ho hv hs) fun D σ H ⟨w, env, S, r, e, q⟩ => ⟨w, env, S, r, e, (RP.bnd q).mono (fun y S1 h1 w1 H1 yv l1 r1 p1 => ⟨w1, env, S1, r1, e.mono l1, (RP.bnd h1).mono (fun x S2 h2 w2 H2 xv l2 r2 p2 => by
    split at h2
    · rename_i n
      split at h2
      · rename_i c fs hS
        by_cases hcs : (cs.contains c && decide (fs.length < 1000)) = true
        · rw [if_pos hcs] at h2
          obtain ⟨k1, k2⟩ := Bool.and_eq_true_iff.mp hcs
          obtain ⟨p, dx, gs, rfl, hn, h3, h4, h5⟩ := (inst_of rfl r2 p2).2 n c fs rfl hS
          obtain ⟨c1, c2⟩ := hc c (by simpa using k1)
          have hlen : gs.length < 1000 := by
            have e1 := congrArg List.length h4
            rw [List.length_map, List.length_map] at e1
            rw [e1]
            exact of_decide_eq_true k2
          obtain ⟨h6, h7⟩ := put_rep (T := T) (w := w2) (f := fn) (p1.mono l2) h4 h5
          have r3 := r2.write hS hn (by intro z; cases z) (o' := .ins (He.ga T.K (c : Str)) dx (putF (Str.ofString fn) yv gs)) (c' := .ins c (setF fn y fs)) ⟨dx, _, upd_same, h6, h7⟩
          rw [hK]
          exact ⟨p, _, dx, gs, rfl, h3, c1, c2, hlen, h2 w2 _ σ (l1.trans l2) r3 (e.mono (l1.trans l2))⟩
        · rw [if_neg hcs] at h2; exact (show False from h2).elim
      · exact (show False from h2).elim
    · exact (show False from h2).elim) fun _ _ _ x => x.le l1⟩) fun _ _ _ x => x⟩
/-! ### methods -/
theorem inst_at {w : Wd} {S : Store} {H : Hp} {x : V} {cf : String → List String} {c m : String} {d : D} (hcf : T.cf = cf) (r : WR T w S H) (p : Rep T w d x) (h : isInst cf c m d S = true) : ∃ a dx gs, x = .ref a ∧ H a = some (.ins (He.ga T.K (c : Str)) dx gs) ∧ gs.lookup (Str.ofString m) = none := by
  obtain ⟨i1, i2⟩ := inst_of hcf r p
  unfold isInst at h
  split at h
  · rename_i c' ds
    obtain ⟨h1, h2⟩ := Bool.and_eq_true_iff.mp h
    have e : c' = c := by simpa using h1
    subst e
    obtain ⟨a, dx, gs, e1, e2, e3, e4⟩ := i1 c' ds rfl
    refine ⟨a, dx, gs, e1, e2, lookup_none e3 ?_⟩
    have hn : m ∉ cf c' := by simpa using h2
    rw [List.lookup_eq_none_iff]
    rintro ⟨k, v⟩ hp
    have hk : k ∈ cf c' := (List.of_mem_zip hp).1
    simp only [bne_iff_ne, ne_eq, beq_eq_false_iff_ne]
    intro z
    subst z
    exact hn hk
  · rename_i n
    split at h
    · rename_i c' fs hS
      obtain ⟨h1, h2⟩ := Bool.and_eq_true_iff.mp h
      have e : c' = c := by simpa using h1
      subst e
      obtain ⟨a, dx, gs, e1, _, e2, e3, e4⟩ := i2 n c' fs rfl hS
      exact ⟨a, dx, gs, e1, e2, lookup_none e3 (by simpa using h2)⟩
    · cases h
  · cases h
theorem ie_meth {cf : String → List String} {cn mn : String} {k n : Nat} {d : He.DefD} {apos : Pos} {pl : Sem Bool} {kws : List Keyword} {ps ks : List Str} {m : Fn} {pk : List (Nat × Nat)} {dfs : List D} (hcf : T.cf = cf) (F : OkF T X.prog X.w X.mg X.base k d ps m) (hK : X.K = T.K) (hr : RG k X.A)
    (hc : Cls T.K (He.ga T.K (cn : Str))) (hm : Meth T.K (He.ga T.K (cn : Str)) (mn : Str) (He.fAd T.K d.at_))
    (hb : ∀ fd, FunD T.K d.name d.qual d.params d.body d.scope (d.dvs T.K) [] (He.fAd T.K d.at_) fd → KBD T fd ps (n + 1) ks pk dfs) (tk : Takes X fun c d _ H => E c d H) (ho : IE T E X a f) (ha : AK T E X es kws pos ks fa fk)
    (ht : eval (.Call (.Attribute a (mn : Str) apos) es kws pos) X.env = (do
      let ov ← eval a X.env
      standAt apos.atName
      let (f, first) ← holding [ov] (getMethod ov (mn : Str) pl)
      callWith pos f first (backTo pos (starEach es X.env)) (backToKw pos (keywordEach kws X.env))) := by rfl) :
    IE T E X (.Call (.Attribute a (mn : Str) apos) es kws pos) (eMeth cf cn mn (callM m (n + 1) ks.length ps.length pk dfs) f fa fk) := by
  obtain ⟨fd, FD, FO⟩ := F.ex
  refine ⟨fun pins s σ H Q I h => ?_⟩
  obtain ⟨w, env, S, r, e, q⟩ := h
  refine PySem.W.methodCall_KW (pl := pl) (thn (ho.run pins s σ H (fun x H1 => ∃ w1 d1 S1, w.le w1 ∧ WR T w1 S1 H1 ∧ Rep T w1 d1 x ∧ isInst cf cn mn d1 S1 = true ∧ RP ((fa env S1).bnd fun xs S2 => (fk env S2).bnd fun zs S3 => callM m (n + 1) ks.length ps.length pk dfs (d1 :: xs) zs S3) (Pk T w Q) (XW T w E)) I ⟨w, env, S, r, e, (RP.bnd q).mono (fun d1 S1 h1 w1 H1 x l1 r1 p1 => by
    by_cases hi : isInst cf cn mn d1 S1 = true
    · rw [if_pos hi] at h1
      exact ⟨w1, d1, S1, l1, r1, p1, hi, h1⟩
    · rw [if_neg hi] at h1
      exact (show False from h1).elim) fun _ _ _ x => x⟩) fun u s1 ⟨x, H1, I1, rx, w1, d1, S1, l1, r1, p1, hi, h1⟩ => ?_) ht
  obtain ⟨p, dx, gs, rfl, h3, h4⟩ := inst_at hcf r1 p1 hi
  obtain rfl : u = Value.ref p := rx
  refine getmeth_ok I1 h3 (by rw [hK]; exact hc) (by rw [hK]; exact hm) h4 ?_
  refine ha pins s1 σ H1 w1 env S1 _ Q _ [.ref p] _ I1 r1 (e.mono l1) (by rw [hK]; exact hm.kp) (RP.mono h1 (fun d S' q w' H' v l => q w' H' v (l1.trans l)) fun _ _ _ x => x.le l1) fun s2 H2 us ws vs zs w2 xs ys S2 I2 l2 r2 rv rz px py q2 => ?_
  obtain ⟨c1, c2, c3, q3⟩ := callM_ok q2
  exact fn_core FO hK hr (hb fd FD) tk I2 r2 (.cons (show RelV (V.ref p) (Value.ref p) from rfl) rv) rz (.cons (p1.mono l2) px) py c1 c2 c3 q3
end Ro
end

section
set_option Elab.async false
set_option linter.all false
set_option maxRecDepth 100000
set_option maxHeartbeats 4000000
namespace Ro
open PySem PySem.Spec PyProof.Rows L2
variable {T : Tb} {E : XK} {X : Cx} {a b c : Expr} {es : List Expr} {f g h : EX} {fa ga fk : AX} {fb gb : BX} {pos : Pos} {st : Stmt} {sts rest : List Stmt} {s t : ES}
/-! ### operators by values -/
theorem orOp {fn : Value → Value → Sem Value} {r : R2} {op : D → D → Option D} (h : OpR X fn r) (k : ∀ x y H Q, rOp T op x y H Q → r x y H Q) : OpR X fn (rOp T op) := fun pins s σ H x y v u Q I rx ry q => h pins s σ H x y v u Q I rx ry (k _ _ _ _ q)
theorem orOp2 {fn : Value → Value → Sem Value} {op : D → D → Option D} (h : ∀ w d e r S x y H Q, WR T w S H → Rep T w d x → Rep T w e y → op d e = some r → (∀ w' H' z, w.le w' → WR T w' S H' → Rep T w' r z → Q z H') → ∃ r, OpR X fn r ∧ r x y H Q) : OpR X fn (rOp T op) := fun pins s σ H x y v u Q I rx ry q => by
  obtain ⟨w, d, e, r, S, h1, h2, h3, h4, h5⟩ := q
  obtain ⟨r', ho, q'⟩ := h w d e r S x y H Q h1 h2 h3 h4 h5
  exact ho pins s σ H x y v u Q I rx ry q'
theorem oi_add (hK : X.K = T.K) : OpR X (binaryOp .Add) (rOp T addD) := orOp2 fun w d e r S x y H Q h1 h2 h3 h4 h5 => by
  unfold addD at h4
  split at h4
  · cases h2; cases h3; cases h4
    exact ⟨_, op_add, _, _, rfl, rfl, h5 w H _ (Wd.le.refl _) h1 (.int _)⟩
  · cases h2; cases h3
    split at h4
    · rename_i hl
      cases h4
      exact ⟨_, op_add_str, _, _, rfl, rfl, by rw [sizeLine_eq]; exact hl, h5 w H _ (Wd.le.refl _) h1 (.str _)⟩
    · cases h4
  · rename_i l m
    cases h2 with
    | tup q2 r2 =>
    cases h3 with
    | tup q3 r3 =>
    split at h4
    · rename_i hl
      cases h4
      refine ⟨_, op_catA, _, _, _, _, rfl, rfl, by rw [hK]; exact sqt_sub h1 q2, by rw [hK]; exact sqt_sub h1 q3, by rw [sizeLine_eq, ← r2.length, ← r3.length]; exact hl, fun e => ?_, fun e1 e2 => ?_, fun e1 e2 p hp => ?_⟩
      · subst e
        cases r2
        exact h5 w H _ (Wd.le.refl _) h1 (.tup q3 r3)
      · subst e2
        cases r3
        rw [List.append_nil] at h5
        exact h5 w H _ (Wd.le.refl _) h1 (.tup q2 r2)
      · obtain ⟨l1, r1⟩ := h1.new hp (.tup _)
        exact h5 _ _ _ l1 r1 (.tup (.inl (.inl upd_same)) ((r2.append r3).mono l1))
    · cases h4
  · rename_i l m
    cases h2 with
    | lst q2 r2 =>
    cases h3 with
    | lst q3 r3 =>
    split at h4
    · rename_i hl
      cases h4
      refine ⟨_, op_cat, _, _, _, _, rfl, rfl, h1.sub _ _ q2, h1.sub _ _ q3, by rw [sizeLine_eq, ← r2.length, ← r3.length]; exact hl, fun p hp => ?_⟩
      obtain ⟨l1, r1⟩ := h1.new hp (.lst _)
      exact h5 _ _ _ l1 r1 (.lst upd_same ((r2.append r3).mono l1))
    · cases h4
  · cases h4
theorem oi_sub : OpR X (binaryOp .Sub) (rOp T subD) := orOp2 fun w d e r S x y H Q h1 h2 h3 h4 h5 => by
  unfold subD at h4
  split at h4
  · cases h2; cases h3; cases h4
    exact ⟨_, op_sub, _, _, rfl, rfl, h5 w H _ (Wd.le.refl _) h1 (.int _)⟩
  · cases h4
theorem oi_mul : OpR X (binaryOp .Mult) (rOp T mulD) := orOp2 fun w d e r S x y H Q h1 h2 h3 h4 h5 => by
  unfold mulD at h4
  split at h4
  · cases h2; cases h3
    split at h4
    · rename_i hl
      cases h4
      exact ⟨_, op_mulW, _, _, rfl, rfl, (by unfold CMulW; simpa [mulOk] using hl), h5 w H _ (Wd.le.refl _) h1 (.int _)⟩
    · cases h4
  · cases h4
theorem oi_fdiv : OpR X (binaryOp .FloorDiv) (rOp T fdivD) := orOp2 fun w d e r S x y H Q h1 h2 h3 h4 h5 => by
  unfold fdivD at h4
  split at h4
  · cases h2; cases h3
    split at h4
    · rename_i hl
      cases h4
      exact ⟨_, op_fdivW, _, _, rfl, rfl, hl, h5 w H _ (Wd.le.refl _) h1 (.int _)⟩
    · cases h4
  · cases h4
theorem oi_mod : OpR X (binaryOp .Mod) (rOp T modD) := orOp2 fun w d e r S x y H Q h1 h2 h3 h4 h5 => by
  unfold modD at h4
  split at h4
  · cases h2; cases h3
    split at h4
    · rename_i hl
      cases h4
      exact ⟨_, op_mod, _, _, rfl, rfl, hl, h5 w H _ (Wd.le.refl _) h1 (.int _)⟩
    · cases h4
  · cases h4
theorem oi_pow : OpR X (binaryOp .Pow) (rOp T powD) := orOp2 fun w d e r S x y H Q h1 h2 h3 h4 h5 => by
  unfold powD at h4
  split at h4
  · cases h2; cases h3
    split at h4
    · rename_i hl
      cases h4
      exact ⟨_, op_pow, _, _, rfl, rfl, hl, h5 w H _ (Wd.le.refl _) h1 (.int _)⟩
    · cases h4
  · cases h4
theorem oi_lt : OpR X (compareOp .Lt) (rOp T ltD) := orOp2 fun w d e r S x y H Q h1 h2 h3 h4 h5 => by
  unfold ltD at h4
  split at h4
  · cases h2; cases h3; cases h4
    exact ⟨_, op_lt, _, _, rfl, rfl, h5 w H _ (Wd.le.refl _) h1 (.bl _)⟩
  · cases h4
theorem oi_le : OpR X (compareOp .LtE) (rOp T leD) := orOp2 fun w d e r S x y H Q h1 h2 h3 h4 h5 => by
  unfold leD at h4
  split at h4
  · cases h2; cases h3; cases h4
    exact ⟨_, op_le, _, _, rfl, rfl, h5 w H _ (Wd.le.refl _) h1 (.bl _)⟩
  · cases h4
theorem oi_gt : OpR X (compareOp .Gt) (rOp T gtD) := orOp2 fun w d e r S x y H Q h1 h2 h3 h4 h5 => by
  unfold gtD at h4
  split at h4
  · cases h2; cases h3; cases h4
    exact ⟨_, op_gt, _, _, rfl, rfl, h5 w H _ (Wd.le.refl _) h1 (.bl _)⟩
  · cases h4
theorem oi_ge : OpR X (compareOp .GtE) (rOp T geD) := orOp2 fun w d e r S x y H Q h1 h2 h3 h4 h5 => by
  unfold geD at h4
  split at h4
  · cases h2; cases h3; cases h4
    exact ⟨_, op_ge, _, _, rfl, rfl, h5 w H _ (Wd.le.refl _) h1 (.bl _)⟩
  · cases h4
theorem rep_non {w : Wd} {d : D} {x : V} (p : Rep T w d x) : decide (x = .non) = isNonD d := by
  cases p <;> first | rfl | exact decide_eq_false (fun z => by cases z)
theorem oi_is : OpR X (compareOp .Is) (rOp T isND) := orOp2 fun w d e r S x y H Q h1 h2 h3 h4 h5 => by
  unfold isND at h4
  split at h4
  · rename_i hn
    cases h4
    have he : y = .non := of_decide_eq_true ((rep_non h3).trans hn)
    refine ⟨_, op_isN, he, ?_⟩
    rw [rep_non h2]
    exact h5 w H _ (Wd.le.refl _) h1 (.bl _)
  · cases h4
theorem oi_isnot : OpR X (compareOp .IsNot) (rOp T notND) := orOp2 fun w d e r S x y H Q h1 h2 h3 h4 h5 => by
  unfold notND at h4
  split at h4
  · rename_i hn
    cases h4
    have he : y = .non := of_decide_eq_true ((rep_non h3).trans hn)
    refine ⟨_, op_notN, he, ?_⟩
    rw [rep_non h2]
    exact h5 w H _ (Wd.le.refl _) h1 (.bl _)
  · cases h4
theorem ie_neg (h : IE T E X a f) : IE T E X (.UnaryOp .USub a pos) (eUn negD f) :=
  PE.mono (pe_un un_neg h) fun σ H Q ⟨w, env, S, r, e, q⟩ => ⟨w, env, S, r, e, (RP.bnd q).mono (fun d S1 h1 w1 H1 x l1 r1 p1 => by
    cases p1 with
    | int i => exact ⟨i, rfl, h1 w1 H1 _ l1 r1 (.int _)⟩
    | _ => exact (show False from h1).elim) fun _ _ _ x => x⟩
/-! ### subscripts -/
theorem reps_atP {w : Wd} {l : List D} {vs : List V} {i : Int} {d : D} (r : Reps T w l vs) (h : atP l i = some d) : ∃ v, atI vs i = some v ∧ Rep T w d v := by
  unfold atP at h
  cases z : pyIx l.length i with
  | none => rw [z] at h; cases h
  | some j =>
    rw [z] at h
    obtain ⟨v, h1, h2⟩ := r.get (show l[j]? = some d from h)
    refine ⟨v, ?_, h2⟩
    unfold atI
    rw [show ixN vs.length i = some j from by rw [← r.length]; exact z]
    exact h1
theorem ie_idx (hK : X.K = T.K) (ha : IE T E X a f) (hb : IE T E X b g) (hs : PlainIx b := by exact fun _ _ => rfl) : IE T E X (.Subscript a b pos) (eIdx f g) :=
  PE.mono (pe_ix ix_seq ha hb hs) fun σ H Q q => by
    have q2 := tI_two (k := fun x y S => lift (idxD x y) S) q
    obtain ⟨w, env, S, r, e, h⟩ := q2
    refine ⟨w, env, S, r, e, h.mono (fun d S1 h1 w1 H1 x l1 r1 p1 => ?_) fun _ _ _ x => x⟩
    obtain ⟨w2, env2, S2, r2, e2, h2⟩ := h1 w1 H1 x l1 r1 p1
    refine ⟨w2, env2, S2, r2, e2, h2.mono (fun d S1 h1 w1 H1 x l1 r1 p1 => ?_) fun _ _ _ x => x⟩
    obtain ⟨w3, d3, e3, S3, r3, p3, q3, h3⟩ := h1 w1 H1 x l1 r1 p1
    obtain ⟨w3, d3, e3, rr, S3, r3, p3, q3, hh, h3⟩ := rOp_of r3 p3 q3 h3
    unfold idxD at hh
    rw [hK]
    split at hh
    · cases q3
      cases p3 with
      | tup qq rq =>
        obtain ⟨v, a1, a2⟩ := reps_atP rq hh
        exact .inr (.inl ⟨_, _, _, v, rfl, rfl, sqt_sub r3 qq, a1, h3 w3 _ _ (Wd.le.refl _) r3 a2⟩)
    · cases q3
      cases p3 with
      | lst qq rq =>
        obtain ⟨v, a1, a2⟩ := reps_atP rq hh
        exact .inl ⟨_, _, _, v, rfl, rfl, .inl (.inl (r3.sub _ _ qq)), a1, h3 w3 _ _ (Wd.le.refl _) r3 a2⟩
    · rename_i l i
      cases q3
      cases p3 with
      | scr qq =>
        cases z : atP l i with
        | none => rw [z] at hh; cases hh
        | some k =>
          rw [z] at hh
          cases hh
          refine .inl ⟨_, _, _, .int k, rfl, rfl, sql_sub r3 qq, ?_, h3 w3 _ _ (Wd.le.refl _) r3 (.int _)⟩
          unfold atP at z
          unfold atI
          rw [List.length_map]
          cases z2 : pyIx l.length i with
          | none => rw [z2] at z; cases z
          | some j =>
            rw [z2] at z
            rw [show ixN l.length i = some j from z2]
            show (l.map V.int)[j]? = _
            rw [List.getElem?_map, show l[j]? = some k from z]
            rfl
    · rename_i s i
      cases q3
      cases p3
      split at hh
      · rename_i hl
        cases z : atP s.cps.toList i with
        | none => rw [z] at hh; cases hh
        | some c =>
          rw [z] at hh
          cases hh
          exact .inr (.inr ⟨s, i, c, rfl, rfl, by rw [sizeLine_eq]; exact hl, z, h3 w3 _ _ (Wd.le.refl _) r3 (.str _)⟩)
      · cases hh
    · cases hh
theorem ie_idxM (hK : X.K = T.K) (ha : IE T E X a f) (hb : IE T E X b g) (hs : PlainIx b := by exact fun _ _ => rfl) : IE T E X (.Subscript a b pos) (eIdxM f g) :=
  PE.mono (pe_ix ix_list ha hb hs) fun σ H Q q => by
    have q2 := tI_two (k := fun x y S => lift (idxM x y S) S) q
    obtain ⟨w, env, S, r, e, h⟩ := q2
    refine ⟨w, env, S, r, e, h.mono (fun d S1 h1 w1 H1 x l1 r1 p1 => ?_) fun _ _ _ x => x⟩
    obtain ⟨w2, env2, S2, r2, e2, h2⟩ := h1 w1 H1 x l1 r1 p1
    refine ⟨w2, env2, S2, r2, e2, h2.mono (fun d S1 h1 w1 H1 x l1 r1 p1 => ?_) fun _ _ _ x => x⟩
    obtain ⟨w3, d3, e3, S3, r3, p3, q3, h3⟩ := h1 w1 H1 x l1 r1 p1
    cases z : idxM d3 e3 S3 with
    | none => rw [z] at h3; exact (show False from h3).elim
    | some y =>
      rw [z] at h3
      unfold idxM at z
      split at z
      · rename_i n i
        split at z
        · rename_i l hS
          cases q3
          cases p3 with
          | ref hn =>
            obtain ⟨vs, c1, c2⟩ := r3.cell n _ _ hS hn
            obtain ⟨v, a1, a2⟩ := reps_atP c2 z
            exact ⟨_, _, _, v, rfl, rfl, .inl (.inl c1), a1, h3 w3 _ _ (Wd.le.refl _) r3 a2⟩
        · cases z
      · cases z
theorem is_setit {pos' : Pos} (hv : IE T E X c h) (ho : IE T E X a f) (hi : IE T E X b g) (hs : swapsWithSole [.Subscript a b pos'] c pos.line X.env = pure false := by rfl) (hw : swappedStores [.Subscript a b pos'] c X.env = pure none := by rfl)
    (h1 : (assignEach [.Subscript a b pos'] X.env).map (·.2) = [assign (.Subscript a b pos') X.env] := by rfl)
    (hasg : ∀ v, assign (.Subscript a b pos') X.env v = (do
      let ov ← holding [v] (eval a X.env)
      let iv ← holding [v, ov] (eval b X.env)
      standAt pos'
      holding [v, ov, iv] (setItem ov iv v)
      release [v, ov, iv] []) := by intro _; rfl) : IS T E X (.Assign [.Subscript a b pos'] c pos) (sSetIt f g h) :=
  PS.mono (ps_asg hv (pg_sub ho hi set_list hasg) hs hw h1) fun D σ H ⟨w, env, S, r, e, q⟩ => ⟨w, env, S, r, e, (RP.bnd q).mono (fun z S1 h1 w1 H1 zv l1 r1 p1 => ⟨w1, env, S1, r1, e.mono l1, (RP.bnd h1).mono (fun x S2 h2 w2 H2 xv l2 r2 p2 => ⟨w2, env, S2, r2, (e.mono l1).mono l2, (RP.bnd h2).mono (fun y S3 h3 w3 H3 yv l3 r3 p3 => by
    cases z2 : setM x y z S3 with
    | none => rw [z2] at h3; exact (show False from h3).elim
    | some S4 =>
      rw [z2] at h3
      unfold setM at z2
      split at z2
      · rename_i n i
        split at z2
        · rename_i l hS
          cases zj : pyIx l.length i with
          | none => rw [zj] at z2; cases z2
          | some j =>
            rw [zj] at z2
            cases z2
            cases p3
            cases (p2.mono l3) with
            | ref hn =>
              obtain ⟨vs, c1, c2⟩ := r3.cell n _ _ hS hn
              have lt := (l1.trans l2).trans l3
              refine ⟨_, vs, i, j, rfl, rfl, c1, by rw [← c2.length]; exact zj, ?_⟩
              exact h3 w3 _ σ lt (r3.write hS hn (by intro z; cases z) ⟨_, upd_same, c2.set ((p1.mono l2).mono l3) j⟩) (e.mono lt)
        · cases z2
      · cases z2) fun _ _ _ x => x.le (l1.trans l2)⟩) fun _ _ _ x => x.le l1⟩) fun _ _ _ x => x⟩
end Ro
end

section
set_option Elab.async false
set_option linter.all false
set_option maxRecDepth 100000
set_option maxHeartbeats 4000000
namespace Ro
open PySem PySem.Spec PyProof.Rows L2
variable {T : Tb} {E : XK} {X : Cx} {a b c : Expr} {es : List Expr} {f g h : EX} {fa ga fk : AX} {fb gb : BX} {pos : Pos} {st : Stmt} {sts rest : List Stmt} {s t : ES}
/-! ### standing still -/
theorem reps_obj {w : Wd} {fs : List (String × D)} {cf : List String} (h : fs.map (·.1) = cf) : fs.map (fun p => Str.ofString p.1) = cf.map Str.ofString := by
  rw [← h, List.map_map]
  rfl
theorem frzM_ok {cf : String → List String} (hcf : T.cf = cf) {w : Wd} {S : Store} {H : Hp} {x : V} {d : D} {Pk : D → Store → Prop} {Pe : String → List D → Store → Prop} (r : WR T w S H) (p : Rep T w d x) (h : RP (frzM cf (.ok d S)) Pk Pe) :
    ∃ w' d' S', w.le w' ∧ WR T w' S' H ∧ Rep T w' d' x ∧ Pk d' S' := by
  unfold frzM at h
  rw [bnd_ok] at h
  split at h
  · rename_i n
    cases p with
    | ref hn =>
    split at h
    · rename_i c fs hS
      split at h
      · rename_i he
        obtain ⟨dx, gs, h1, h2, h3⟩ := r.cell n _ _ hS hn
        obtain ⟨l, r'⟩ := r.freeze hS hn (by intro z; cases z) h1
        refine ⟨_, _, _, l, r', .obj (dx := dx) (fs := gs) upd_same ?_ (h3.mono l), h⟩
        rw [h2, hcf, ← he, List.map_map]
        rfl
      · exact (show False from h).elim
    · rename_i l0 hS
      obtain ⟨vs, h1, h2⟩ := r.cell n _ _ hS hn
      obtain ⟨l, r'⟩ := r.freeze hS hn (by intro z; cases z) h1
      exact ⟨_, _, _, l, r', .lst upd_same (h2.mono l), h⟩
    · rename_i l0 hS
      obtain ⟨vs, h1, h2⟩ := r.cell n _ _ hS hn
      obtain ⟨l, r'⟩ := r.freeze hS hn (by intro z; cases z) h1
      exact ⟨_, _, _, l, r', .dct upd_same (h2.mono l), h⟩
    · exact (show False from h).elim
  · exact (show False from h).elim
theorem frzM_bnd {cf : String → List String} {r : R D} {Pk : D → Store → Prop} {Pe : String → List D → Store → Prop} (h : RP (frzM cf r) Pk Pe) : RP r (fun d S => RP (frzM cf (.ok d S)) Pk Pe) Pe := by
  cases r with
  | ok d S => exact h
  | err c fs S => exact h
  | bad => exact h
theorem ie_frz {cf : String → List String} (hcf : T.cf = cf) (ha : IE T E X a f) : IE T E X a (eFrz cf f) :=
  PE.mono ha fun σ H Q ⟨w, env, S, r, e, q⟩ => ⟨w, env, S, r, e, (frzM_bnd q).mono (fun d S1 h1 w1 H1 x l1 r1 p1 => by
    obtain ⟨w2, d2, S2, l2, r2, p2, h2⟩ := frzM_ok hcf r1 p1 h1
    exact h2 w2 H1 x (l1.trans l2) r2 p2) fun _ _ _ x => x⟩
theorem is_frz {cf : String → List String} {i : Nat} (hcf : T.cf = cf) (h : IS T E X st s) : IS T E X st (sSeq s (sFrz cf i)) :=
  PS.mono h fun D σ H ⟨w, env, S, r, e, q⟩ => by
    refine ⟨w, env, S, r, e, ?_⟩
    refine RP.mono (RP.bnd q) (fun c S1 h1 => ?_) fun _ _ _ x => x
    cases c with
    | nx e1 =>
      intro w1 H1 σ1 l1 r1 q1
      have h2 := RP.bnd (show RP (sFrz cf i e1 S1) _ _ from h1)
      have h3 := frzM_bnd h2
      unfold eVar at h3
      cases z : e1[i]? with
      | none => rw [z] at h3; exact (show False from h3).elim
      | some o =>
        rw [z] at h3
        cases o with
        | none => exact (show False from h3).elim
        | some d =>
          obtain ⟨v, k1, k2⟩ := q1.2 i d z
          obtain ⟨w2, d2, S2, l2, r2, p2, h4⟩ := frzM_ok hcf r1 k2 h3
          refine h4 w2 H1 σ1 (l1.trans l2) r2 ?_
          have q2 := (q1.mono l2).set p2 i
          have es : σ1.set i (some v) = σ1 := by
            apply List.ext_getElem?
            intro j
            by_cases hj : i = j
            · subst hj
              have hl := (List.getElem?_eq_some_iff.mp k1).1
              rw [List.getElem?_set_self hl, k1]
            · rw [List.getElem?_set_ne hj]
          rw [es] at q2
          exact q2
    | rt d => exact h1
    | bk e => exact h1
    | ct e => exact h1
/-! ### new things -/
theorem make_core {k n : Nat} {cn : String} {fd : FuncData} {fp : Addr} {ps ks : List Str} {m : Fn} {pk : List (Nat × Nat)} {dfs : List D} (F : FnG X.prog X.w T.K X.mg X.base k fp fd ps (spI T ps.length m)) (M : Mk T.K (He.ga T.K (cn : Str)) fp) (hK : X.K = T.K) (hr : RG (k + 1) X.A) (hb : KBD T fd ps (n + 1) ks pk dfs) (tk : Takes X fun c d _ H => E c d H)
    {pins : List (Addr × Obj)} {s : Shared} {σ : St} {H : Hp} {w : Wd} {S : Store} {us ws : List Value} {vs zs : List V} {xs ys : List D} {Q : VK} (I : Inv X pins σ H s) (r : WR T w S H) (rv : Vals vs us) (rz : Vals zs ws) (px : Reps T w xs vs) (py : Reps T w ys zs)
    (q : RP (newM cn (callM m (n + 1) ks.length ps.length pk dfs) xs ys S) (Pk T w Q) (XW T w E)) : wpAny (model X.prog X.w) X.A (call (.ref (He.ga T.K (cn : Str))) us (ks.zip ws)) (EP X pins σ Q) X.xe s := by
  obtain ⟨its, dvs, kb, rd⟩ := hb.ex
  have F' : FnG X.prog X.w X.K X.mg X.base k fp fd ps (spI T ps.length m) := by rw [hK]; exact F
  have M' : Mk X.K (He.ga T.K (cn : Str)) fp := by rw [hK]; exact M
  have kb' : KBn X.K fd ps (n + 1) ks (fun us ws => pick pk us its ws) (fun vs zs => pick pk vs dvs zs) := by rw [hK]; exact kb
  have q1 := RP.bnd (show RP (newM cn (callM m (n + 1) ks.length ps.length pk dfs) xs ys S) _ _ from q)
  obtain ⟨c1, c2, c3, q2⟩ := callM_ok q1
  have l1 : xs.length = n := by simpa using c1
  refine FnG.makes M' F' hr kb' (passes_call tk fun _ _ _ _ h => h) I rv rz (by rw [← px.length]; exact l1) (by rw [← py.length]; exact c2) fun x dx hx hdx hne => ?_
  have hx2 : upd H dx (.own x) x = none := by rw [upd_ne hne.symm]; exact hx
  have r0 : WR T w S (upd H dx (.own x)) := r.grow fun a u e => by rw [upd_ne (ne_of_none e hdx)]; exact e
  obtain ⟨l2, r2, at_⟩ := r0.alloc (o := .ins (He.ga T.K (cn : Str)) dx []) (c := .ins cn []) hx2 ⟨dx, [], upd_same, rfl, .nil⟩
  have pp := reps_pick pk (T := T) (w := ⟨w.G, w.am ++ [x], w.hid⟩) (.cons (.ref at_) (px.mono l2)) (rd _) (py.mono l2)
  refine ⟨by rw [← pp.length]; exact c3, _, _, _, r2, pp, q2.mono (fun d S1 h1 w1 H1 v l3 r3 p3 => ?_) fun _ _ _ x => x.le l2⟩
  cases p3 with
  | non => exact ⟨rfl, h1 w1 H1 _ (l2.trans l3) r3 (.ref (l3.tosb.at at_))⟩
  | _ => exact (show False from h1).elim
/-- C(.., k = ..) -/
theorem ie_new {k n : Nat} {cn : String} {d : He.DefD} {p : Pos} {kws : List Keyword} {ps ks : List Str} {m : Fn} {pk : List (Nat × Nat)} {dfs : List D} (F : OkF T X.prog X.w X.mg X.base k d ps m) (M : Mk T.K (He.ga T.K (cn : Str)) (He.fAd T.K d.at_)) (hK : X.K = T.K) (hr : RG (k + 1) X.A) (hg : Gl X (cn : Str)) (hm : X.mg (cn : Str) = some (.ref (He.ga T.K (cn : Str))))
    (hb : ∀ fd, FunD T.K d.name d.qual d.params d.body d.scope (d.dvs T.K) [] (He.fAd T.K d.at_) fd → KBD T fd ps (n + 1) ks pk dfs) (tk : Takes X fun c d _ H => E c d H) (ha : AK T E X es kws pos ks fa fk) (hdb : ((cn : Str) == ("__debug__" : Str)) = false := by decide +kernel) :
    IE T E X (.Call (.Name (cn : Str) p) es kws pos) (eFn (newM cn (callM m (n + 1) ks.length ps.length pk dfs)) fa fk) := by
  obtain ⟨fd, FD, FO⟩ := F.ex
  refine ⟨fun pins s σ H Q I h => ?_⟩
  obtain ⟨w, env, S, r, e, q⟩ := h
  refine wpAny_Call_Name_kw (ld_glob I hg hm ?_ hdb)
  refine ha pins s σ H w env S _ Q _ [] _ I r e (by rw [hK]; exact M.kp) q fun s2 H2 us ws vs zs w2 xs ys S2 I2 l2 r2 rv rz px py q2 => ?_
  exact make_core FO M hK hr (hb fd FD) tk I2 r2 rv rz px py q2
/-! ### comprehensions -/
theorem er_wipe {w : Wd} {env : Env} {σ : St} (r : ER T w env σ) : ∀ vs : List Nat, ER T w (wipeE env vs) (wipe σ vs)
  | [] => r
  | v :: vs => by
    have ih := er_wipe r vs
    refine ⟨by show ((wipeE env vs).set v none).length = ((wipe σ vs).set v none).length; rw [List.length_set, List.length_set, ih.1], fun i d h => ?_⟩
    have h : ((wipeE env vs).set v none)[i]? = some (some d) := h
    show ∃ x, ((wipe σ vs).set v none)[i]? = some (some x) ∧ _
    by_cases hv : v = i
    · subst hv
      rw [List.getElem?_set] at h
      simp only [if_true] at h
      split at h <;> cases h
    · rw [List.getElem?_set_ne hv] at h ⊢
      exact ih.2 i d h
theorem RP.nox {α : Type} {r : R α} {Pk : α → Store → Prop} {Pe : String → List D → Store → Prop} (h : RP r.nox Pk Pe) (Pe' : String → List D → Store → Prop) : RP r Pk Pe' := by
  cases r with
  | ok a S => exact h
  | err c fs S => exact (show False from h).elim
  | bad => exact h
def ITs (T : Tb) (E : XK) (X : Cx) (ifs : List Expr) (fb : BX) : Prop := PTs X ifs (tIb T E fb)
theorem PTs.mono {X : Cx} {e : List Expr} {t t' : TT} (h : PTs X e t) (k : ∀ σ H Q, t' σ H Q → t σ H Q) : PTs X e t' := ⟨fun pins s σ H Q I q => h.run pins s σ H Q I (k _ _ _ q)⟩
theorem its_nil : ITs T E X [] bYes := PTs.mono pts_nil fun σ H Q ⟨w, env, S, r, e, q⟩ => q w H (Wd.le.refl _) r
theorem its_one (h : IB T E X c fb) : ITs T E X [c] fb := pts_one h
/-- the element's, the test's, the target's context within -/
abbrev BlkCx (X : Cx) (scope : Scope) : (Shared → Hp → Addr → List (Str × Addr) → List Addr → Cx) := fun s H C cl fp => X.blk s H scope (compEnvC scope cl C X.env) fp
abbrev E00 : XK := fun _ _ _ => False
/-- a list that is being made -/
theorem WR.hide {w : Wd} {S : Store} {H : Hp} {p : Addr} (r : WR T w S H) (hp : H p = none) : WR T ⟨w.G, w.am, (p, []) :: w.hid⟩ S (upd H p (.lst [])) := by
  have k : ∀ a u, H a = some u → upd H p (.lst []) a = some u := fun a u e => by rw [upd_ne (ne_of_none e hp)]; exact e
  have sb : Wd.sb w ⟨w.G, w.am, (p, []) :: w.hid⟩ := ⟨fun _ _ h => h, [], by simp⟩
  refine ⟨fun a u e => k _ _ (r.sub _ _ e), r.len, r.nd, fun a ha => (r.has a ha).elim fun u e => ⟨u, k _ _ e⟩, r.out, fun n c a h1 h2 => (r.cell n c a h1 h2).keep sb fun u e => k _ _ e, tabs_new r.tabs hp, ?_, fun q hq => ?_⟩
  · show (p :: w.hid.map (·.1)).Nodup
    refine List.nodup_cons.mpr ⟨fun z => ?_, r.hn⟩
    obtain ⟨q, hq, e⟩ := List.mem_map.mp z
    obtain ⟨_, _, vs, z3, _⟩ := r.hd q hq
    rw [e, hp] at z3
    cases z3
  · rcases List.mem_cons.mp hq with e | hq
    · subst e
      refine ⟨r.free hp, fun z => ?_, [], upd_same, .nil⟩
      obtain ⟨u, e⟩ := r.has p z
      rw [hp] at e
      cases e
    · obtain ⟨z1, z2, vs, z3, z4⟩ := r.hd q hq
      exact ⟨z1, z2, vs, k _ _ z3, z4.monoS sb⟩
theorem WR.hidPut {w : Wd} {S : Store} {H : Hp} {p : Addr} {l : List D} {hs : List (Addr × List D)} {d : D} {v : V} (r : WR T w S H) (hh : w.hid = (p, l) :: hs) (q : Rep T w d v) : ∃ vs, H p = some (.lst vs) ∧ vs.length = l.length ∧ WR T ⟨w.G, w.am, (p, l ++ [d]) :: hs⟩ S (upd H p (.lst (vs ++ [v]))) := by
  obtain ⟨z1, z2, vs, z3, z4⟩ := r.hd (p, l) (by rw [hh]; exact List.mem_cons_self ..)
  have hn := r.hn
  rw [hh] at hn
  have hn' : p ∉ hs.map (·.1) := (List.nodup_cons.mp (show (p :: hs.map (·.1)).Nodup from hn)).1
  have sb : Wd.sb w ⟨w.G, w.am, (p, l ++ [d]) :: hs⟩ := ⟨fun _ _ h => h, [], by simp⟩
  have k : ∀ a u, a ≠ p → H a = some u → upd H p (.lst (vs ++ [v])) a = some u := fun a u hne e => by rw [upd_ne hne]; exact e
  refine ⟨vs, z3, z4.length.symm, fun a u e => k _ _ (fun z => by rw [z] at e; rw [show w.G p = none from z1] at e; cases e) (r.sub _ _ e), r.len, r.nd, fun a ha => ?_, r.out, fun n c a h1 h2 => (r.cell n c a h1 h2).keep sb fun u e => k _ _ (fun z => z2 (by show p ∈ w.am; rw [← z]; exact List.mem_of_getElem? h2)) e, tabs_upd r.tabs z3 noTab_lst, hn, fun q2 hq => ?_⟩
  · obtain ⟨u, e⟩ := r.has a ha
    exact ⟨u, k _ _ (fun z => z2 (by show p ∈ w.am; rw [← z]; exact ha)) e⟩
  · rcases List.mem_cons.mp hq with e | hq
    · subst e
      exact ⟨z1, z2, _, upd_same, (z4.append (.cons q .nil)).monoS sb⟩
    · obtain ⟨y1, y2, us, y3, y4⟩ := r.hd q2 (by rw [hh]; exact List.mem_cons_of_mem _ hq)
      exact ⟨y1, y2, us, k _ _ (fun z => hn' (by rw [← z]; exact List.mem_map_of_mem hq)) y3, y4.monoS sb⟩
theorem WR.shown {w : Wd} {S : Store} {H : Hp} {p : Addr} {l : List D} {hs : List (Addr × List D)} (r : WR T w S H) (hh : w.hid = (p, l) :: hs) : ∃ vs, Wd.sb w ⟨upd w.G p (.lst vs), w.am, hs⟩ ∧ WR T ⟨upd w.G p (.lst vs), w.am, hs⟩ S H ∧ Rep T ⟨upd w.G p (.lst vs), w.am, hs⟩ (.lst l) (.ref p) := by
  obtain ⟨z1, z2, vs, z3, z4⟩ := r.hd (p, l) (by rw [hh]; exact List.mem_cons_self ..)
  have z1 : w.G p = none := z1
  have hn := r.hn
  rw [hh] at hn
  have hn2 := List.nodup_cons.mp (show (p :: hs.map (·.1)).Nodup from hn)
  have sb : Wd.sb w ⟨upd w.G p (.lst vs), w.am, hs⟩ := ⟨fun a u e => by show upd w.G p (.lst vs) a = some u; rw [upd_ne (ne_of_none e z1)]; exact e, [], by simp⟩
  refine ⟨vs, sb, ⟨fun a u e => ?_, r.len, r.nd, r.has, fun n c a h1 h2 h3 => ?_, fun n c a h1 h2 => (r.cell n c a h1 h2).keep sb fun _ e => e, r.tabs, hn2.2, fun q hq => ?_⟩, .lst upd_same (z4.monoS sb)⟩
  · have e : upd w.G p (.lst vs) a = some u := e
    by_cases h : a = p
    · subst h
      rw [upd_same] at e
      rw [← e]
      exact z3
    · rw [upd_ne h] at e
      exact r.sub _ _ e
  · show upd w.G p (.lst vs) a = none
    rw [upd_ne (fun z => z2 (by show p ∈ w.am; rw [← z]; exact List.mem_of_getElem? h2))]
    exact r.out n c a h1 h2 h3
  · obtain ⟨y1, y2, us, y3, y4⟩ := r.hd q (by rw [hh]; exact List.mem_cons_of_mem _ hq)
    refine ⟨?_, y2, us, y3, y4.monoS sb⟩
    show upd w.G p (.lst vs) q.1 = none
    rw [upd_ne (fun z => hn2.1 (by rw [← z]; exact List.mem_map_of_mem hq))]
    exact y1
theorem lc_noerr {p : Pat} {fb : BX} {el : EX} {env : Env} : ∀ {ds acc : List D} {S : Store} {c : String} {fs : List D} {S' : Store}, lcLoop p fb el env ds acc S = .err c fs S' → False
  | [], _, _, _, _, _, h => by cases h
  | d :: ds, acc, S, c, fs, S', h => by
    unfold lcLoop at h
    cases z : p d env with
    | none => rw [z] at h; cases h
    | some e1 =>
      rw [z] at h
      have h : ((fb e1 S).nox.bnd fun k S1 => if k then (el e1 S1).nox.bnd fun y S2 => if acc.length < LINE then lcLoop p fb el env ds (acc ++ [y]) S2 else .bad else lcLoop p fb el env ds acc S1) = .err c fs S' := h
      cases z1 : fb e1 S with
      | ok k S1 =>
        rw [z1, nox_ok, bnd_ok] at h
        cases k with
        | true =>
          rw [if_pos rfl] at h
          cases z2 : el e1 S1 with
          | ok y S2 =>
            rw [z2, nox_ok, bnd_ok] at h
            split at h
            · exact lc_noerr h
            · cases h
          | err _ _ _ => rw [z2] at h; cases h
          | bad => rw [z2] at h; cases h
        | false =>
          rw [if_neg Bool.false_ne_true] at h
          exact lc_noerr h
      | err _ _ _ => rw [z1] at h; cases h
      | bad => rw [z1] at h; cases h
theorem lc_read {p : Pat} {vs : List Nat} {fb : BX} {el : EX} {it : AX} {σ : St} {H : Hp} {Q : VK} (q : tI T E (eLC vs it p fb el) σ H Q) : tLc (tII T E it) (gI T vs p) (tIb T E00 fb) (tI T E00 el) vs σ H Q := by
  obtain ⟨w, env, S, r, e, q⟩ := q
  refine ⟨w, env, S, r, e, (RP.bnd q).mono (fun ds S1 h1 w1 H1 J l1 r1 it => ?_) fun _ _ _ x => x⟩
  intro Dp hD
  have h1 := RP.bnd h1
  have r0 := r1.hide hD
  have e1 := er_wipe (e.mono l1) vs
  refine ⟨fun i m H => m = ds.length - i ∧ i ≤ ds.length ∧ ∃ w2 acc S2, w1.sb w2 ∧ w2.hid = (Dp, acc) :: w1.hid ∧ WR T w2 S2 H ∧ RP (lcLoop p fb el (wipeE env vs) (ds.drop i) acc S2) (fun ys S' => ∀ w' H' v, w1.le w' → WR T w' S' H' → Rep T w' (.lst ys) v → Q v H') (fun _ _ _ => False), ⟨ds.length, by simp, Nat.zero_le _, ⟨w1.G, w1.am, (Dp, []) :: w1.hid⟩, [], S1, ⟨fun _ _ h => h, [], by simp⟩, rfl, r0, ?_⟩, ?_⟩
  · have h2 : RP (lcLoop p fb el (wipeE env vs) ds [] S1) (fun ys S' => ∀ w' H' v, w.le w' → WR T w' S' H' → Rep T w' (.lst ys) v → Q v H') (XW T w E) := h1
    cases z : lcLoop p fb el (wipeE env vs) ds [] S1 with
    | ok ys S2 =>
      rw [z] at h2
      show RP (lcLoop p fb el (wipeE env vs) (ds.drop 0) [] S1) _ _
      rw [List.drop_zero, z]
      exact fun w' H' v l => h2 w' H' v (l1.trans l)
    | err c fs S2 => exact (lc_noerr z).elim
    | bad => rw [z] at h2; exact h2.elim
  · rintro i m H ⟨rfl, hi, w2, acc, S2, sb, hh, r2, h2⟩
    by_cases hlt : i < ds.length
    · rw [List.drop_eq_getElem_cons hlt] at h2
      have it' : ∀ (i : Nat), True := fun _ => trivial
      refine .inr ⟨it.goS i H w2 S2 sb r2 hlt, fun H' => i + 1 ≤ ds.length ∧ ∃ w2 acc S2, w1.sb w2 ∧ w2.hid = (Dp, acc) :: w1.hid ∧ WR T w2 S2 H' ∧ RP (lcLoop p fb el (wipeE env vs) (ds.drop (i + 1)) acc S2) (fun ys S' => ∀ w' H' v, w1.le w' → WR T w' S' H' → Rep T w' (.lst ys) v → Q v H') (fun _ _ _ => False), fun H' h => ⟨ds.length - (i + 1), by omega, rfl, h⟩, fun x H' y => ?_⟩
      obtain ⟨w3, l3, r3, p3⟩ := it.yldS i H x H' w2 S2 ds[i] sb r2 (List.getElem?_eq_getElem hlt) y
      unfold lcLoop at h2
      cases z : p ds[i] (wipeE env vs) with
      | none => rw [z] at h2; exact (show False from h2).elim
      | some env1 =>
        rw [z] at h2
        have h2 := RP.nox (RP.bnd h2) (XW T w3 E00)
        refine ⟨w3, wipeE env vs, S2, ds[i], env1, r3, e1.monoS (sb.trans l3.tosb), p3, z, fun σ2 q2 z2 => ⟨z2.trans (wipe_wipe σ vs), w3, env1, S2, r3, q2, h2.mono (fun k S3 h3 w4 H4 l4 r4 => ?_) fun _ _ _ x => x⟩⟩
        have hh4 : w4.hid = (Dp, acc) :: w1.hid := by rw [l4.hid, l3.hid, hh]
        cases k with
        | false =>
          rw [if_neg Bool.false_ne_true] at h3
          dsimp only
          rw [if_neg Bool.false_ne_true]
          exact ⟨hlt, w4, acc, S3, (sb.trans l3.tosb).trans l4.tosb, hh4, r4, h3⟩
        | true =>
          rw [if_pos rfl] at h3
          dsimp only
          rw [if_pos rfl]
          have h3 := RP.nox (RP.bnd h3) (XW T w4 E00)
          refine ⟨w4, env1, S3, r4, q2.mono l4, h3.mono (fun y S5 h5 w5 H5 v l5 r5 p5 => ?_) fun _ _ _ x => x⟩
          by_cases hl : acc.length < LINE
          · rw [if_pos hl] at h5
            have hh5 : w5.hid = (Dp, acc) :: w1.hid := by rw [l5.hid, hh4]
            obtain ⟨us, k1, k2, k3⟩ := r5.hidPut hh5 p5
            have sb5 : w1.sb w5 := ((sb.trans l3.tosb).trans l4.tosb).trans l5.tosb
            exact ⟨us, k1, by rw [k2, sizeLine_eq]; exact hl, hlt, ⟨w5.G, w5.am, (Dp, acc ++ [y]) :: w1.hid⟩, acc ++ [y], S5, ⟨sb5.G, sb5.am⟩, rfl, k3, h5⟩
          · rw [if_neg hl] at h5
            exact (show False from h5).elim
    · have e0 : ds.drop i = [] := List.drop_of_length_le (by omega)
      rw [e0] at h2
      obtain ⟨us, k1, k2, k3⟩ := r2.shown hh
      exact .inl ⟨it.stopS i H w2 S2 sb r2 (by omega), h2 _ H _ ⟨sb.trans k1, rfl⟩ k2 k3⟩
theorem ie_lc {tg iter elt : Expr} {ifs : List Expr} {scope : Scope} {own : List (Str × Nat)} {p : Pat} {el : EX} {it : AX} (hc : X.calm = true) (hN : X.N.Nodup) (hi : II T E X tg iter it) (ok : BlkOk X.N X.env.scope scope own)
    (hg : ∀ (s : Shared) (H : Hp) (C : Addr) (cl : List (Str × Addr)) (fp : List Addr), IG T (X.blk s H scope (compEnvC scope cl C X.env) fp) (own.map (·.2)) tg p) (ht : ∀ (s : Shared) (H : Hp) (C : Addr) (cl : List (Str × Addr)) (fp : List Addr), ITs T E00 (X.blk s H scope (compEnvC scope cl C X.env) fp) ifs fb)
    (he : ∀ (s : Shared) (H : Hp) (C : Addr) (cl : List (Str × Addr)) (fp : List Addr), IE T E00 (X.blk s H scope (compEnvC scope cl C X.env) fp) elt el) (hs : ∀ x, foldedSetIterable iter X.env x = pure x := by intro _; rfl) :
    IE T E X (.ListComp elt [⟨tg, iter, ifs, 0⟩] scope pos) (eLC (own.map (·.2)) it p fb el) :=
  PE.mono (pe_lc hc hN hi ok hg ht he hs) fun σ H Q q => lc_read q
theorem is_setLc {i : Nat} {y : Str} {py spos : Pos} {tg iter elt : Expr} {ifs : List Expr} {scope : Scope} {own : List (Str × Nat)} {p : Pat} {el : EX} {it : AX} (hc : X.calm = true) (hN : X.N.Nodup) (hy : X.N[i]? = some y) (hyl : X.env.scope.names.lookup y = some .local)
    (hsw : swapsWith (.ListComp elt [⟨tg, iter, ifs, 0⟩] scope pos) (some (.Name y py)) spos.line X.env = pure true) (hi : II T E X tg iter it) (ok : BlkOk X.N X.env.scope scope own)
    (hg : ∀ (s : Shared) (H : Hp) (C : Addr) (cl : List (Str × Addr)) (fp : List Addr), IG T (X.blk s H scope (compEnvC scope cl C X.env) fp) (own.map (·.2)) tg p) (ht : ∀ (s : Shared) (H : Hp) (C : Addr) (cl : List (Str × Addr)) (fp : List Addr), ITs T E00 (X.blk s H scope (compEnvC scope cl C X.env) fp) ifs fb)
    (he : ∀ (s : Shared) (H : Hp) (C : Addr) (cl : List (Str × Addr)) (fp : List Addr), IE T E00 (X.blk s H scope (compEnvC scope cl C X.env) fp) elt el) (hs : ∀ x, foldedSetIterable iter X.env x = pure x := by intro _; rfl) :
    IS T E X (.Assign [.Name y py] (.ListComp elt [⟨tg, iter, ifs, 0⟩] scope pos) spos) (sSet i (eLC (own.map (·.2)) it p fb el)) :=
  PS.mono (ps_setLc hc hN hy hyl hsw hi ok hg ht he hs) fun D σ H ⟨w, env, S, r, e, q⟩ => lc_read (Q := fun v H' => D.nx (σ.set i (some v)) H') ⟨w, env, S, r, e, (RP.bnd q).mono (fun d S1 h1 w1 H1 v l1 r1 p1 => h1 w1 H1 _ l1 r1 ((e.mono l1).set p1 i)) fun _ _ _ x => x⟩
end Ro
end

section
set_option Elab.async false
set_option linter.all false
set_option maxRecDepth 100000
set_option maxHeartbeats 4000000
namespace Ro
open PySem PySem.Spec PyProof.Rows L2
variable {T : Tb} {E : XK} {X : Cx} {a b c e : Expr} {es : List Expr} {f g h : EX} {fa ga fk : AX} {fb gb : BX} {pos : Pos} {st : Stmt} {sts rest : List Stmt} {s t : ES}
/-! ### built-ins by their names -/
/-- a built-in by values: what HandS tells (r) follows from the mirror (m) -/
def BOk (T : Tb) (r : List V → Hp → VK → Prop) (m : List D → Option D) : Prop :=
  ∀ w S xs vs H d Q, WR T w S H → Reps T w xs vs → m xs = some d → (∀ w' H' v, w.le w' → WR T w' S H' → Rep T w' d v → Q v H') → r vs H Q
theorem tI_b {r : List V → Hp → VK → Prop} {m : List D → Option D} (h : BOk T r m) {σ : St} {H : Hp} {Q : VK} (q : tI T E (eB m fa) σ H Q) : tCB r (tIa T E fa) σ H Q := by
  obtain ⟨w, env, S, r0, e, q⟩ := q
  refine ⟨w, env, S, r0, e, (RP.bnd q).mono (fun xs S1 h1 w1 H1 vs l1 r1 p1 => ?_) fun _ _ _ x => x⟩
  cases z : m xs with
  | none => rw [z] at h1; exact (show False from h1).elim
  | some d =>
    rw [z] at h1
    exact h w1 S1 xs vs H1 d Q r1 p1 z fun w' H' v l => h1 w' H' v (l1.trans l)
theorem ie_b {x : Str} {p : Pos} {id : String} {r : List V → Hp → VK → Prop} {m : List D → Option D} (hc : CallR X (.builtin id) r) (hm : BOk T r m) (hg : Gl X x) (hn : X.mg x = none) (hv : bootBuiltins x = some (.builtin id)) (ha : IA T E X (a :: es) fa) (hx : x ≠ "__name__" := by decide +kernel) (hdb : (x == ("__debug__" : Str)) = false := by decide +kernel)
    (he : starEach (a :: es) X.env = (false, eval a X.env) :: starEach es X.env := by rfl) (hpl : (backTo pos (starEach es X.env)).any (·.1) = false := by rfl) : IE T E X (.Call (.Name x p) (a :: es) [] pos) (eB m fa) :=
  PE.mono (pe_callB hc hg hn hv ha hx hdb he hpl) fun σ H Q q => tI_b hm q
theorem ie_bt {x : Str} {p : Pos} {id : String} {r : List V → Hp → VK → Prop} {m : List D → Option D} (hc : CallR X (.type id) r) (hm : BOk T r m) (hg : Gl X x) (hn : X.mg x = none) (hv : bootBuiltins x = some (.type id)) (ha : IA T E X (a :: es) fa) (hx : x ≠ "__name__" := by decide +kernel) (hdb : (x == ("__debug__" : Str)) = false := by decide +kernel)
    (he : starEach (a :: es) X.env = (false, eval a X.env) :: starEach es X.env := by rfl) (hpl : (backTo pos (starEach es X.env)).any (·.1) = false := by rfl) : IE T E X (.Call (.Name x p) (a :: es) [] pos) (eB m fa) :=
  PE.mono (pe_callTy hc hg hn hv ha hx hdb he hpl) fun σ H Q q => tI_b hm q
theorem reps_one {w : Wd} {x : D} {vs : List V} (r : Reps T w [x] vs) : ∃ v, vs = [v] ∧ Rep T w x v := by
  cases r with
  | cons r1 r2 => cases r2; exact ⟨_, rfl, r1⟩
theorem reps_two {w : Wd} {x y : D} {vs : List V} (r : Reps T w [x, y] vs) : ∃ v u, vs = [v, u] ∧ Rep T w x v ∧ Rep T w y u := by
  cases r with
  | cons r1 r2 => cases r2 with
    | cons r3 r4 => cases r4; exact ⟨_, _, rfl, r1, r3⟩
theorem bo_abs : BOk T (fun xs H Q => ∃ i, xs = [.int i] ∧ Q (.int (if i < 0 then -i else i)) H) bAbs := fun w S xs vs H d Q r p h k => by
  unfold bAbs at h
  split at h
  · cases h
    obtain ⟨v, rfl, p2⟩ := reps_one p
    cases p2
    exact ⟨_, rfl, k w H _ (Wd.le.refl _) r (.int _)⟩
  · cases h
theorem bo_max2 : BOk T (fun xs H Q => ∃ i j, xs = [.int i, .int j] ∧ Q (.int (if j > i then j else i)) H) bMax2 := fun w S xs vs H d Q r p h k => by
  unfold bMax2 at h
  split at h
  · cases h
    obtain ⟨v, u, rfl, p2, q2⟩ := reps_two p
    cases p2; cases q2
    exact ⟨_, _, rfl, k w H _ (Wd.le.refl _) r (.int _)⟩
  · cases h
theorem bo_min2 : BOk T (fun xs H Q => ∃ i j, xs = [.int i, .int j] ∧ Q (.int (if j < i then j else i)) H) bMin2 := fun w S xs vs H d Q r p h k => by
  unfold bMin2 at h
  split at h
  · cases h
    obtain ⟨v, u, rfl, p2, q2⟩ := reps_two p
    cases p2; cases q2
    exact ⟨_, _, rfl, k w H _ (Wd.le.refl _) r (.int _)⟩
  · cases h
theorem bo_divmod : BOk T (fun xs H Q => ∃ i j, xs = [.int i, .int j] ∧ CDiv i j ∧ ∀ p, H p = none → Q (.ref p) (upd H p (.tup [.int (i / j), .int (i % j)]))) bDivmod := fun w S xs vs H d Q r p h k => by
  unfold bDivmod at h
  split at h
  · split at h
    · rename_i hj
      cases h
      obtain ⟨v, u, rfl, p2, q2⟩ := reps_two p
      cases p2; cases q2
      refine ⟨_, _, rfl, (by unfold CDiv; simpa [divOk] using hj), fun p hp => ?_⟩
      obtain ⟨l1, r1⟩ := r.new hp (.tup _)
      exact k _ _ _ l1 r1 (.tup (.inl (.inl upd_same)) (.cons (.int _) (.cons (.int _) .nil)))
    · cases h
  · cases h
def rLenH (K : PySem.W.Frag) : List V → Hp → VK → Prop := fun xs H Q => ∃ x n, xs = [x] ∧ LenV K x H n ∧ Q (.int n) H
theorem reps_len_eq {w : Wd} {l : List D} {vs : List V} (r : Reps T w l vs) : (vs.length : Int) = l.length := by rw [r.length]
theorem bo_len : BOk T (rLenH T.K) (fun xs => match xs with | [.dct _] => none | _ => bLen xs) := fun w S xs vs H d Q r p h k => by
  dsimp only at h
  split at h
  · cases h
  rename_i hnd
  unfold bLen at h
  split at h
  · obtain ⟨v, rfl, p2⟩ := reps_one p
    unfold lenD at h
    split at h
    · cases h
      cases p2 with
      | tup q1 q2 => exact ⟨_, _, rfl, .inr ⟨_, sqt_sub r q1, rfl⟩, by rw [reps_len_eq q2]; exact k w H _ (Wd.le.refl _) r (.int _)⟩
    · cases h
      cases p2 with
      | lst q1 q2 => exact ⟨_, _, rfl, .inl ⟨_, .inl (.inl (r.sub _ _ q1)), rfl⟩, by rw [reps_len_eq q2]; exact k w H _ (Wd.le.refl _) r (.int _)⟩
    · cases h
      cases p2 with
      | scr q1 => exact ⟨_, _, rfl, .inl ⟨_, sql_sub r q1, rfl⟩, by rw [List.length_map]; exact k w H _ (Wd.le.refl _) r (.int _)⟩
    · split at h
      · rename_i hl
        cases h
        cases p2
        exact ⟨_, _, rfl, ⟨by rw [sizeLine_eq]; exact hl, rfl⟩, k w H _ (Wd.le.refl _) r (.int _)⟩
      · cases h
    · exact (hnd _ rfl).elim
    · cases h
  · cases h
def rListOf (K : PySem.W.Frag) : List V → Hp → VK → Prop := fun xs H Q => ∃ p ys, xs = [.ref p] ∧ (SqL K H p ys ∨ SqT K H p ys) ∧ ∀ l, H l = none → Q (.ref l) (upd H l (.lst ys))
theorem bo_list : BOk T (rListOf T.K) bList := fun w S xs vs H d Q r p h k => by
  unfold bList at h
  split at h
  · cases h
    obtain ⟨v, rfl, p2⟩ := reps_one p
    cases p2 with
    | tup q1 q2 =>
      refine ⟨_, _, rfl, .inr (sqt_sub r q1), fun p hp => ?_⟩
      obtain ⟨l1, r1⟩ := r.new hp (.lst _)
      exact k _ _ _ l1 r1 (.lst upd_same (q2.mono l1))
  · cases h
    obtain ⟨v, rfl, p2⟩ := reps_one p
    cases p2 with
    | lst q1 q2 =>
      refine ⟨_, _, rfl, .inl (.inl (.inl (r.sub _ _ q1))), fun p hp => ?_⟩
      obtain ⟨l1, r1⟩ := r.new hp (.lst _)
      exact k _ _ _ l1 r1 (.lst upd_same (q2.mono l1))
  · cases h
def rTupleOf (K : PySem.W.Frag) : List V → Hp → VK → Prop := fun xs H Q => ∃ p ys, xs = [.ref p] ∧ ((SqL K H p ys ∧ ∀ l, H l = none → Q (.ref l) (upd H l (.tup ys))) ∨ (SqT K H p ys ∧ Q (.ref p) H))
theorem bo_tuple : BOk T (rTupleOf T.K) bTuple := fun w S xs vs H d Q r p h k => by
  unfold bTuple at h
  split at h
  · cases h
    obtain ⟨v, rfl, p2⟩ := reps_one p
    cases p2 with
    | tup q1 q2 => exact ⟨_, _, rfl, .inr ⟨sqt_sub r q1, k w H _ (Wd.le.refl _) r (.tup q1 q2)⟩⟩
  · cases h
    obtain ⟨v, rfl, p2⟩ := reps_one p
    cases p2 with
    | lst q1 q2 =>
      refine ⟨_, _, rfl, .inl ⟨.inl (.inl (r.sub _ _ q1)), fun p hp => ?_⟩⟩
      obtain ⟨l1, r1⟩ := r.new hp (.tup _)
      exact k _ _ _ l1 r1 (.tup (.inl (.inl upd_same)) (q2.mono l1))
  · cases h
/-- list(..) of what will be changed -/
theorem ie_listM {x : Str} {p : Pos} (hK : X.K = T.K) (hg : Gl X x) (hn : X.mg x = none) (hv : bootBuiltins x = some (.type "list")) (ha : IA T E X [a] fa) (hx : x ≠ "__name__" := by decide +kernel) (hdb : (x == ("__debug__" : Str)) = false := by decide +kernel)
    (he : starEach [a] X.env = (false, eval a X.env) :: starEach [] X.env := by rfl) (hpl : (backTo pos (starEach [] X.env)).any (·.1) = false := by rfl) : IE T E X (.Call (.Name x p) [a] [] pos) (eListM fa) :=
  PE.mono (pe_callTy call_list_of hg hn hv ha hx hdb he hpl) fun σ H Q ⟨w, env, S, r0, e, q⟩ => ⟨w, env, S, r0, e, (RP.bnd q).mono (fun xs S1 h1 w1 H1 vs l1 r1 p1 => by
    split at h1
    · obtain ⟨v, rfl, p2⟩ := reps_one p1
      cases p2 with
      | tup q1 q2 =>
        refine ⟨_, _, rfl, .inr (by rw [hK]; exact sqt_sub r1 q1), fun p hp => ?_⟩
        obtain ⟨l2, r2, at_⟩ := r1.alloc (o := .lst _) (c := .lst _) hp ⟨_, upd_same, q2.mono (Wd.le.app _ _)⟩
        exact h1 _ _ _ (l1.trans l2) r2 (.ref at_)
    · obtain ⟨v, rfl, p2⟩ := reps_one p1
      cases p2 with
      | lst q1 q2 =>
        refine ⟨_, _, rfl, .inl (.inl (.inl (r1.sub _ _ q1))), fun p hp => ?_⟩
        obtain ⟨l2, r2, at_⟩ := r1.alloc (o := .lst _) (c := .lst _) hp ⟨_, upd_same, q2.mono (Wd.le.app _ _)⟩
        exact h1 _ _ _ (l1.trans l2) r2 (.ref at_)
    · split at h1
      · rename_i hS
        obtain ⟨v, rfl, p2⟩ := reps_one p1
        cases p2 with
        | ref hn =>
          obtain ⟨us, c1, c2⟩ := r1.cell _ _ _ hS hn
          refine ⟨_, _, rfl, .inl (.inl (.inl c1)), fun p hp => ?_⟩
          obtain ⟨l2, r2, at_⟩ := r1.alloc (o := .lst _) (c := .lst _) hp ⟨_, upd_same, c2.mono (Wd.le.app _ _)⟩
          exact h1 _ _ _ (l1.trans l2) r2 (.ref at_)
      · exact (show False from h1).elim
    · exact (show False from h1).elim) fun _ _ _ x => x⟩
/-! ### isinstance -/
def tyV' (K : PySem.W.Frag) : Ty → Value
  | .b n => .type n
  | .o c => .ref (He.ga K (c : Str))
def tyVV (K : PySem.W.Frag) : Ty → V
  | .b n => .ty n
  | .o c => .ref (He.ga K (c : Str))
/-- what is told of a class for isinstance -/
structure IsiC (K : PySem.W.Frag) (C : Addr) : Prop where
  cl : Cls K C
  ha : PySem.W.findIn K (.ref C) "__class__" = some (some (.builtin "object.__class__"))
  hn : PySem.W.specialIn K (.builtin "object.__class__") "__get__" = some (some (.builtin "getset_descriptor.__get__"))
  htk : PySem.W.takesIn K (.builtin "object.__class__") = some true
  hm : PySem.W.mroIn K C (.type "object") = some true
theorem tyX_of {w : Wd} {S : Store} {H : Hp} {d : D} {x : V} {t : Ty} (r : WR T w S H) (p : Rep T w d x) (h : tyD d S = some t) (hc : ∀ c, t = .o c → IsiC T.K (He.ga T.K (c : Str))) : TyX T.K H x (tyV' T.K t) := by
  cases p with
  | non => cases h; exact .base .non
  | bl b => cases h; exact .base (.bl b)
  | int i => cases h; exact .base (.int i)
  | str s => cases h; exact .base (.str s)
  | tup q1 q2 =>
    cases h
    rcases sqt_sub r q1 with (q | ⟨o, q⟩) | ⟨o, its, n, q, hcl, _⟩
    · exact .base (.tup q)
    · exact .fTuple q
    · exact .kTuple q hcl
  | scr q1 =>
    cases h
    rcases sql_sub r q1 with (q | ⟨o, q⟩) | ⟨o, its, n, q, hcl, _⟩
    · exact .base (.lst q)
    · exact .base (.frz q)
    · exact .kList q hcl
  | lst q1 q2 => cases h; exact .base (.lst (r.sub _ _ q1))
  | dct q1 q2 => cases h; exact .base (.dK (r.sub _ _ q1))
  | obj q1 q2 q3 =>
    cases h
    have z := hc _ rfl
    exact .base (.ins (r.sub _ _ q1) z.cl z.ha z.hn z.htk z.hm)
  | ref hn =>
    unfold tyD at h
    dsimp only at h
    split at h
    · rename_i l hS
      cases h
      obtain ⟨us, c1, c2⟩ := r.cell _ _ _ hS hn
      exact .base (.lst c1)
    · rename_i l hS
      cases h
      obtain ⟨us, c1, c2⟩ := r.cell _ _ _ hS hn
      exact .base (.dK c1)
    · rename_i c fs hS
      cases h
      obtain ⟨dx, gs, c1, c2, c3⟩ := r.cell _ _ _ hS hn
      have z := hc _ rfl
      exact .base (.ins c1 z.cl z.ha z.hn z.htk z.hm)
    · cases h
  | fn x => cases h
/-- the class, as written -/
def IsTyE (T : Tb) (X : Cx) (e : Expr) (t : Ty) : Prop := PE X e (tC (tyVV T.K t))
theorem isTy_b {n : String} {x : Str} (hg : Gl X x) (hm : X.mg x = none) (hv : bootBuiltins x = some (.type n)) (hn : x ≠ "__name__" := by decide +kernel) (hd : (x == ("__debug__" : Str)) = false := by decide +kernel) : IsTyE T X (.Name x pos) (.b n) := pe_bltn (v := .ty n) hg hm hv rfl hn hd
theorem isTy_o {c : String} (hg : Gl X (c : Str)) (hm : X.mg (c : Str) = some (.ref (He.ga T.K (c : Str)))) (hd : ((c : Str) == ("__debug__" : Str)) = false := by decide +kernel) : IsTyE T X (.Name (c : Str) pos) (.o c) := pe_glob (v := .ref _) hg hm rfl hd
theorem ie_isi {p : Pos} {tys : List Ty} {Tt : Ty} (hK : X.K = T.K) (hg : Gl X "isinstance") (hn : X.mg "isinstance" = none) (ha : IE T E X a f) (hb : IsTyE T X b Tt) (hc : ∀ t ∈ tys, ∀ c, t = .o c → IsiC T.K (He.ga T.K (c : Str))) (hk : ∀ t ∈ tys, PySem.W.kitOne T.K (tyV' T.K t) (tyV' T.K Tt) = some (subTy t Tt))
    (he : starEach (a :: [b]) X.env = (false, eval a X.env) :: starEach [b] X.env := by rfl) (hpl : (backTo pos (starEach [b] X.env)).any (·.1) = false := by rfl) (he2 : starEach [b] X.env = (false, eval b X.env) :: starEach [] X.env := by rfl) : IE T E X (.Call (.Name "isinstance" p) [a, b] [] pos) (eIsI tys Tt f) :=
  PE.mono (pe_callB call_isi hg hn (by decide +kernel) (pa_cons ha (pa_cons hb pa_nil he2) he) (by decide +kernel) (by decide +kernel) he hpl) fun σ H Q ⟨w, env, S, r, e, q⟩ => ⟨w, env, S, r, e, (RP.bnd q).mono (fun d S1 h1 w1 H1 x l1 r1 p1 => by
    split at h1
    · rename_i t ht
      split at h1
      · rename_i hmem
        have hm : t ∈ tys := by simpa using hmem
        refine ⟨x, _, tyV' T.K t, tyV' T.K Tt, subTy t Tt, rfl, ?_, ?_, ?_, h1 w1 H1 _ l1 r1 (.bl _)⟩
        · cases Tt with
          | b n => exact .ty n
          | o c => exact .own _
        · rw [hK]; exact tyX_of r1 p1 ht (hc t hm)
        · rw [hK]; exact hk t hm
      · exact (show False from h1).elim
    · exact (show False from h1).elim) fun _ _ _ x => x⟩
end Ro
end

section
set_option Elab.async false
set_option linter.all false
set_option maxRecDepth 100000
set_option maxHeartbeats 4000000
namespace Ro
open PySem PySem.Spec PyProof.Rows L2
variable {T : Tb} {E : XK} {X : Cx} {a b c e : Expr} {es : List Expr} {f g h : EX} {fa ga fk : AX} {fb gb : BX} {pos : Pos} {st : Stmt} {sts rest : List Stmt} {s t : ES}
/-! ### slices -/
def tIo (T : Tb) (E : XK) (f : OX) : L2.TO := fun σ H Q => ∃ w env S, WR T w S H ∧ ER T w env σ ∧ RP (f env S) (fun o S' => ∀ w' H', w.le w' → WR T w' S' H' → Q o H') (XW T w E)
def IO' (T : Tb) (E : XK) (X : Cx) (e : Option Expr) (f : OX) : Prop := PO X e (tIo T E f)
theorem PO.mono {X : Cx} {e : Option Expr} {t t' : L2.TO} (h : PO X e t) (k : ∀ σ H Q, t' σ H Q → t σ H Q) : PO X e t' := ⟨fun pins s σ H Q I q => h.run pins s σ H Q I (k _ _ _ q)⟩
theorem io_none : IO' T E X none oNone := PO.mono po_none fun σ H Q ⟨w, env, S, r, e, q⟩ => q w H (Wd.le.refl _) r
theorem io_some (h : IE T E X a f) : IO' T E X (some a) (oSome f) := PO.mono (po_some h) fun σ H Q ⟨w, env, S, r, e, q⟩ => ⟨w, env, S, r, e, (RP.bnd q).mono (fun d S1 h1 w1 H1 x l1 r1 p1 => by
  cases p1 with
  | int i => exact ⟨i, rfl, h1 w1 H1 l1 r1⟩
  | _ => exact (show False from h1).elim) fun _ _ _ x => x⟩
theorem cutI_sIx (n d : Nat) (o : Option Int) : HT.sIx n d o = cutI n d o := by
  cases o <;> rfl
theorem reps_cut {w : Wd} {l : List D} {vs : List V} (lo hi : Option Int) (r : Reps T w l vs) : Reps T w (cutL l lo hi) (cutV vs lo hi) := by
  unfold cutL cutV
  rw [cutI_sIx, cutI_sIx, r.length]
  exact (r.drop _).take _
theorem ie_cut {lo hi : Option Expr} {ol oh : OX} {p2 : Pos} (hK : X.K = T.K) (ha : IE T E X a f) (hl : IO' T E X lo ol) (hh : IO' T E X hi oh) : IE T E X (.Subscript a (.Slice lo hi none p2) pos) (eCut f ol oh) :=
  PE.mono (pe_slice (sl_tupA.or (sl_list.or sl_str)) ha hl hh) fun σ H Q ⟨w, env, S, r, e, q⟩ => ⟨w, env, S, r, e, (RP.bnd q).mono (fun d S1 h1 w1 H1 x l1 r1 p1 => ⟨w1, env, S1, r1, e.mono l1, (RP.bnd h1).mono (fun o1 S2 h2 w2 H2 l2 r2 => ⟨w2, env, S2, r2, (e.mono l1).mono l2, (RP.bnd h2).mono (fun o2 S3 h3 w3 H3 l3 r3 => by
    have lt := (l1.trans l2).trans l3
    have p3 := p1.mono (l2.trans l3)
    cases z : cutD d o1 o2 with
    | none => rw [z] at h3; exact (show False from h3).elim
    | some y =>
      rw [z] at h3
      unfold cutD at z
      rw [hK]
      split at z
      · cases z
        cases p3 with
        | tup q1 q2 =>
          rename_i aa vs
          refine .inl ⟨aa, vs, rfl, sqt_sub r3 q1, fun hw => ?_, fun hw p hp => ?_⟩
          · refine h3 w3 H3 _ lt r3 (.tup q1 ?_)
            have e2 : cutV vs o1 o2 = vs := by
              unfold cutV
              rw [hw.1, hw.2, List.drop_zero, Nat.sub_zero, List.take_length]
            have z2 := reps_cut o1 o2 q2
            rw [e2] at z2
            exact z2
          · obtain ⟨l4, r4⟩ := r3.new hp (.tup _)
            exact h3 _ _ _ (lt.trans l4) r4 (.tup (.inl (.inl upd_same)) ((reps_cut o1 o2 q2).mono l4))
      · cases z
        cases p3 with
        | lst q1 q2 =>
          refine .inr (.inl ⟨_, _, rfl, .inl (.inl (r3.sub _ _ q1)), fun p hp => ?_⟩)
          obtain ⟨l4, r4⟩ := r3.new hp (.lst _)
          exact h3 _ _ _ (lt.trans l4) r4 (.lst upd_same ((reps_cut o1 o2 q2).mono l4))
      · split at z
        · rename_i hl
          cases z
          cases p3
          refine .inr (.inr ⟨_, rfl, by rw [sizeLine_eq]; exact hl, ?_⟩)
          have z2 := h3 w3 H3 _ lt r3 (.str _)
          unfold cutS
          unfold cutL at z2
          rw [cutI_sIx, cutI_sIx]
          rw [Array.length_toList] at z2
          exact z2
        · cases z
      · cases z) fun _ _ _ x => x.le (l1.trans l2)⟩) fun _ _ _ x => x.le l1⟩) fun _ _ _ x => x⟩
/-! ### append -/
theorem tyV_list {w : Wd} {S : Store} {H : Hp} {d : D} {x : V} (r : WR T w S H) (p : Rep T w d x) (h : tyD d S = some (.b "list")) : tyV T.K "list" x H := by
  cases p with
  | ref hn =>
    unfold tyD at h
    dsimp only at h
    split at h
    · rename_i l hS
      obtain ⟨us, c1, c2⟩ := r.cell _ _ _ hS hn
      exact .inl ⟨rfl, us, .inl (.inl c1)⟩
    all_goals exact absurd h (by simp)
  | lst q1 q2 => exact .inl ⟨rfl, _, .inl (.inl (r.sub _ _ q1))⟩
  | scr q1 => exact .inl ⟨rfl, _, sql_sub r q1⟩
  | _ => exact absurd h (by unfold tyD; simp)
theorem mt_R {id : String} {r : V → List V → Hp → VK → Prop} (h : MtM X id r) : MtR X id r := fun pins s σ H x xs v us Q I rx rv q => h pins s σ H x xs v us Q I rx rv q
theorem ie_app {apos : Pos} (hK : X.K = T.K) (ho : IE T E X a f) (hb : IE T E X b g) (hbase : attributeBase a "append" X.env (eval a X.env) = eval a X.env := by rfl)
    (hfew : ((backTo pos (starEach [b] X.env)).all (fun x => !x.1) && (backToKw pos (keywordEach [] X.env)).all (fun x => x.1.isSome)
      && decide (([b]).length + ([] : List Keyword).length + (if ([] : List Keyword).isEmpty then 0 else 1) < 30)) = true := by rfl)
    (hline : (apos.endLine == pos.line) = true := by rfl) (hs : starEach [b] X.env = (false, eval b X.env) :: starEach [] X.env := by rfl) (hpl : (backTo pos (starEach [] X.env)).any (·.1) = false := by rfl) :
    IE T E X (.Call (.Attribute a "append" apos) [b] [] pos) (eApp f g) :=
  PE.mono (pe_bm PySem.F.plainAttrs_list PySem.F.slot_list_append PySem.F.type_list_append (mt_R mt_append) ho (pa_cons hb pa_nil hs) hbase hfew hline hs hpl) fun σ H Q ⟨w, env, S, r, e, q⟩ => ⟨w, env, S, r, e, (RP.bnd q).mono (fun d S1 h1 w1 H1 x l1 r1 p1 => by
    by_cases ht : tyD d S1 = some (.b "list")
    · rw [if_pos ht] at h1
      refine ⟨by rw [hK]; exact tyV_list r1 p1 ht, w1, env, S1, r1, e.mono l1, (RP.bnd h1).mono (fun y S2 h2 w2 H2 yv l2 r2 p2 => ?_) fun _ _ _ x => x.le l1⟩
      cases z : appM d y S2 with
      | none => rw [z] at h2; exact (show False from h2).elim
      | some S3 =>
        rw [z] at h2
        unfold appM at z
        split at z
        · split at z
          · rename_i n _ xs hS
            split at z
            · rename_i hl
              cases z
              cases p1.mono l2 with
              | ref hn =>
                obtain ⟨us, c1, c2⟩ := r2.cell _ _ _ hS hn
                refine ⟨_, us, yv, rfl, rfl, c1, by rw [sizeLine_eq, ← c2.length]; exact hl, ?_⟩
                exact h2 w2 _ _ (l1.trans l2) (r2.write hS hn (by intro z; cases z) ⟨_, upd_same, c2.append (.cons p2 .nil)⟩) .non
            · cases z
          · cases z
        · cases z
    · rw [if_neg ht] at h1
      exact (show False from h1).elim) fun _ _ _ x => x⟩
end Ro
end

section
set_option Elab.async false
set_option linter.all false
set_option maxRecDepth 100000
set_option maxHeartbeats 4000000
namespace Ro
open PySem PySem.Spec PyProof.Rows L2
variable {T : Tb} {E : XK} {X : Cx} {a b c e : Expr} {es : List Expr} {f g h : EX} {fa ga fk : AX} {fb gb : BX} {pos : Pos} {st : Stmt} {sts rest : List Stmt} {s t : ES}
/-! ### plain data -/
mutual
def toPy : D → PyData
  | .bl b => .bool b
  | .int i => .int i
  | .str s => .str s
  | .tup l => .tuple (toPys l)
  | .lst l => .list (toPys l)
  | _ => .none
def toPys : List D → List PyData
  | [] => []
  | x :: l => toPy x :: toPys l
end
/-- plain, at most n deep -/
def plN : Nat → D → Bool
  | _, .non => true
  | _, .bl _ => true
  | _, .int _ => true
  | _, .str _ => true
  | n + 1, .tup l => l.all (plN n)
  | n + 1, .lst l => l.all (plN n)
  | _, _ => false
def plD : D → Bool := plN 8
theorem toPy_ok : ∀ (n : Nat) (d : D), plN n d = true → (toPy d).plain = true ∧ (toPy d).depth ≤ n
  | _, .non, _ => ⟨rfl, Nat.zero_le _⟩
  | _, .bl _, _ => ⟨rfl, Nat.zero_le _⟩
  | _, .int _, _ => ⟨rfl, Nat.zero_le _⟩
  | _, .str _, _ => ⟨rfl, Nat.zero_le _⟩
  | 0, .tup l, h => by simp [plN] at h
  | 0, .lst l, h => by simp [plN] at h
  | n + 1, .tup l, h => by
    have h' : ∀ x ∈ l, plN n x = true := by simpa [plN] using h
    have key : ∀ m : List D, (∀ x ∈ m, plN n x = true) → PyData.plainAll (toPys m) = true ∧ PyData.depthAll (toPys m) ≤ n := by
      intro m
      induction m with
      | nil => intro _; exact ⟨rfl, Nat.zero_le _⟩
      | cons x m ih =>
        intro hm
        obtain ⟨a1, a2⟩ := toPy_ok n x (hm x (by simp))
        obtain ⟨b1, b2⟩ := ih fun y hy => hm y (by simp [hy])
        exact ⟨by simp [toPys, PyData.plainAll, a1, b1], by simp only [toPys, PyData.depthAll]; omega⟩
    obtain ⟨k1, k2⟩ := key l h'
    exact ⟨by simpa [toPy, PyData.plain] using k1, by simp only [toPy, PyData.depth]; omega⟩
  | n + 1, .lst l, h => by
    have h' : ∀ x ∈ l, plN n x = true := by simpa [plN] using h
    have key : ∀ m : List D, (∀ x ∈ m, plN n x = true) → PyData.plainAll (toPys m) = true ∧ PyData.depthAll (toPys m) ≤ n := by
      intro m
      induction m with
      | nil => intro _; exact ⟨rfl, Nat.zero_le _⟩
      | cons x m ih =>
        intro hm
        obtain ⟨a1, a2⟩ := toPy_ok n x (hm x (by simp))
        obtain ⟨b1, b2⟩ := ih fun y hy => hm y (by simp [hy])
        exact ⟨by simp [toPys, PyData.plainAll, a1, b1], by simp only [toPys, PyData.depthAll]; omega⟩
    obtain ⟨k1, k2⟩ := key l h'
    exact ⟨by simpa [toPy, PyData.plain] using k1, by simp only [toPy, PyData.depth]; omega⟩
  | n, .dct l, h => by simp [plN] at h
  | n, .obj c l, h => by simp [plN] at h
  | n, .scr l, h => by simp [plN] at h
  | n, .ref c, h => by simp [plN] at h
  | n, .fn c, h => by simp [plN] at h
  | n, .thk c l, h => by simp [plN] at h
theorem dp_of {w : Wd} {S : Store} {H : Hp} (r : WR T w S H) : ∀ (n : Nat) (d : D) (x : V), plN n d = true → Rep T w d x → Dp T.K H x (toPy d)
  | _, .non, _, _, .non => .non
  | _, .bl _, _, _, .bl b => .bl b
  | _, .int _, _, _, .int i => .int i
  | _, .str _, _, _, .str s => .str s
  | 0, .tup _, _, h, _ => by simp [plN] at h
  | 0, .lst _, _, h, _ => by simp [plN] at h
  | n + 1, .tup l, _, h, .tup q q2 => by
    have h' : ∀ x ∈ l, plN n x = true := by simpa [plN] using h
    have key : ∀ (m : List D) (vs : List V), (∀ x ∈ m, plN n x = true) → Reps T w m vs → DpAll T.K H vs (toPys m) := by
      intro m
      induction m with
      | nil => intro vs _ z; cases z; exact .nil
      | cons x m ih =>
        intro vs hm z
        cases z with
        | cons z1 z2 => exact .cons (dp_of r n x _ (hm x (by simp)) z1) (ih _ (fun y hy => hm y (by simp [hy])) z2)
    exact .tup (sqt_sub r q) (key l _ h' q2)
  | n + 1, .lst l, _, h, .lst q q2 => by
    have h' : ∀ x ∈ l, plN n x = true := by simpa [plN] using h
    have key : ∀ (m : List D) (vs : List V), (∀ x ∈ m, plN n x = true) → Reps T w m vs → DpAll T.K H vs (toPys m) := by
      intro m
      induction m with
      | nil => intro vs _ z; cases z; exact .nil
      | cons x m ih =>
        intro vs hm z
        cases z with
        | cons z1 z2 => exact .cons (dp_of r n x _ (hm x (by simp)) z1) (ih _ (fun y hy => hm y (by simp [hy])) z2)
    exact .lst (.inl (.inl (r.sub _ _ q))) (key l _ h' q2)
  | n, .scr _, _, h, _ => by simp [plN] at h
  | n, .dct _, _, h, _ => by simp [plN] at h
  | n, .obj _ _, _, h, _ => by simp [plN] at h
  | n, .ref _, _, h, _ => by simp [plN] at h
  | n, .fn _, _, h, _ => by simp [plN] at h
  | n, .thk _ _, _, h, _ => by simp [plN] at h
theorem dpAll_of {w : Wd} {S : Store} {H : Hp} (r : WR T w S H) (n : Nat) : ∀ (m : List D) (vs : List V), m.all (plN n) = true → Reps T w m vs → DpAll T.K H vs (toPys m)
  | [], _, _, z => by cases z; exact .nil
  | x :: m, _, hm, z => by
    obtain ⟨h1, h2⟩ := Bool.and_eq_true_iff.mp (show (plN n x && m.all (plN n)) = true from hm)
    cases z with
    | cons z1 z2 => exact .cons (dp_of r n x _ h1 z1) (dpAll_of r n m _ h2 z2)
theorem toPys_ok {n : Nat} {l : List D} (h : l.all (plN n) = true) : PyData.plainAll (toPys l) = true ∧ PyData.depthAll (toPys l) ≤ n := by
  have z := toPy_ok (n + 1) (.tup l) h
  refine ⟨by simpa [toPy, PyData.plain] using z.1, ?_⟩
  have := z.2
  simp only [toPy, PyData.depth] at this
  omega
mutual
theorem eqv_py : ∀ (n : Nat) (d e : D), plN n d = true → plN n e = true → PyData.eqv (toPy d) (toPy e) = pyEq d e
  | n, .non, e, _, he => by cases e <;> simp_all [plN, toPy, PyData.eqv, pyEq]
  | n, .bl b, e, _, he => by
    cases e <;> simp_all [plN, toPy, PyData.eqv, pyEq]
    all_goals (try (cases b <;> simp <;> rfl))
  | n, .int i, e, _, he => by
    cases e <;> simp_all [plN, toPy, PyData.eqv, pyEq]
    all_goals (first | rfl | (rename_i b; cases b <;> simp <;> rfl))
  | n, .str s, e, _, he => by
    cases e <;> simp_all [plN, toPy, PyData.eqv, pyEq]
    all_goals rfl
  | 0, .tup l, e, h, he => by simp [plN] at h
  | 0, .lst l, e, h, he => by simp [plN] at h
  | n + 1, .tup l, e, h, he => by
    cases e with
    | tup m =>
      simp only [toPy, PyData.eqv, pyEq]
      exact eqvs_py n l m h he
    | _ => simp_all [plN, toPy, PyData.eqv, pyEq]
  | n + 1, .lst l, e, h, he => by
    cases e with
    | lst m =>
      simp only [toPy, PyData.eqv, pyEq]
      exact eqvs_py n l m h he
    | _ => simp_all [plN, toPy, PyData.eqv, pyEq]
  | n, .dct l, _, h, _ => by simp [plN] at h
  | n, .obj c l, _, h, _ => by simp [plN] at h
  | n, .scr l, _, h, _ => by simp [plN] at h
  | n, .ref c, _, h, _ => by simp [plN] at h
  | n, .fn c, _, h, _ => by simp [plN] at h
  | n, .thk c l, _, h, _ => by simp [plN] at h
theorem eqvs_py : ∀ (n : Nat) (l m : List D), l.all (plN n) = true → m.all (plN n) = true → PyData.eqvAll (toPys l) (toPys m) = pyEqs l m
  | _, [], [], _, _ => rfl
  | _, [], _ :: _, _, _ => rfl
  | _, _ :: _, [], _, _ => rfl
  | n, x :: l, y :: m, h1, h2 => by
    obtain ⟨a1, a2⟩ := Bool.and_eq_true_iff.mp (show (plN n x && l.all (plN n)) = true from h1)
    obtain ⟨b1, b2⟩ := Bool.and_eq_true_iff.mp (show (plN n y && m.all (plN n)) = true from h2)
    simp only [toPys, PyData.eqvAll, pyEqs]
    rw [eqv_py n x y a1 b1, eqvs_py n l m a2 b2]
end
/-! ### == and != of plain data -/
def eqD (x y : D) : Option D := if plD x && plD y then some (.bl (pyEq x y)) else none
def neD (x y : D) : Option D := if plD x && plD y then some (.bl (!pyEq x y)) else none
theorem oi_eqP (hK : X.K = T.K) (hu : X.A.units + 64 < cLine) : OpR X (compareOp .Eq) (rOp T eqD) := fun pins s σ H x y v u Q I rx ry q => by
  obtain ⟨w, d, e, r, S, h1, h2, h3, h4, h5⟩ := q
  unfold eqD at h4
  split at h4
  · rename_i hp
    cases h4
    obtain ⟨p1, p2⟩ := Bool.and_eq_true_iff.mp hp
    obtain ⟨as, r1⟩ := Dp.reads I _ x v (by rw [hK]; exact dp_of h1 8 d x p1 h2) rx
    obtain ⟨bs, r2⟩ := Dp.reads I _ y u (by rw [hK]; exact dp_of h1 8 e y p2 h3) ry
    obtain ⟨k1, k2⟩ := toPy_ok 8 d p1
    obtain ⟨k3, k4⟩ := toPy_ok 8 e p2
    refine SeqAt.eq_plain r1 r2 k1 k3 (by omega) ⟨.bl _, H, I, rfl, ?_⟩
    rw [eqv_py 8 d e p1 p2]
    exact h5 w H _ (Wd.le.refl _) h1 (.bl _)
  · cases h4
theorem oi_neP (hK : X.K = T.K) (hu : X.A.units + 64 < cLine) : OpR X (compareOp .NotEq) (rOp T neD) := fun pins s σ H x y v u Q I rx ry q => by
  obtain ⟨w, d, e, r, S, h1, h2, h3, h4, h5⟩ := q
  unfold neD at h4
  split at h4
  · rename_i hp
    cases h4
    obtain ⟨p1, p2⟩ := Bool.and_eq_true_iff.mp hp
    obtain ⟨as, r1⟩ := Dp.reads I _ x v (by rw [hK]; exact dp_of h1 8 d x p1 h2) rx
    obtain ⟨bs, r2⟩ := Dp.reads I _ y u (by rw [hK]; exact dp_of h1 8 e y p2 h3) ry
    obtain ⟨k1, k2⟩ := toPy_ok 8 d p1
    obtain ⟨k3, k4⟩ := toPy_ok 8 e p2
    refine SeqAt.ne_plain r1 r2 k1 k3 (by omega) ⟨.bl _, H, I, rfl, ?_⟩
    rw [eqv_py 8 d e p1 p2]
    exact h5 w H _ (Wd.le.refl _) h1 (.bl _)
  · cases h4
/-! ### in, not in -/
def inL (x : D) (l : List D) : Bool := l.any fun y => pyEq y x
theorem any_py {n : Nat} {x : D} (hx : plN n x = true) : ∀ {l : List D}, l.all (plN n) = true → ((toPys l).any fun y => PyData.eqv y (toPy x)) = inL x l
  | [], _ => rfl
  | y :: l, h => by
    obtain ⟨h1, h2⟩ := Bool.and_eq_true_iff.mp (show (plN n y && l.all (plN n)) = true from h)
    show (PyData.eqv (toPy y) (toPy x) || (toPys l).any fun y => PyData.eqv y (toPy x)) = (pyEq y x || inL x l)
    rw [eqv_py n y x h1 hx, any_py hx h2]
def inD (x y : D) : Option D := match y with
  | .lst l => if plD x && l.all (plN 8) then some (.bl (inL x l)) else none
  | .tup l => if plD x && l.all (plN 8) then some (.bl (inL x l)) else none
  | _ => none
def ninD (x y : D) : Option D := match y with
  | .lst l => if plD x && l.all (plN 8) then some (.bl (!inL x l)) else none
  | .tup l => if plD x && l.all (plN 8) then some (.bl (!inL x l)) else none
  | _ => none
theorem plN_succ {n : Nat} {l : List D} (h : l.all (plN n) = true) : plN (n + 1) (.tup l) = true ∧ plN (n + 1) (.lst l) = true := ⟨h, h⟩
theorem oi_in (hK : X.K = T.K) (hu : X.A.units + 64 < cLine) : OpR X (compareOp .In) (rOp T inD) := fun pins s σ H x y v u Q I rx ry q => by
  obtain ⟨w, d, e, r, S, h1, h2, h3, h4, h5⟩ := q
  unfold inD at h4
  split at h4
  · split at h4
    · rename_i l hp
      cases h4
      obtain ⟨p1, p2⟩ := Bool.and_eq_true_iff.mp hp
      obtain ⟨as, r1⟩ := Dp.reads I _ x v (by rw [hK]; exact dp_of h1 8 d x p1 h2) rx
      obtain ⟨bs, r2⟩ := Dp.reads I _ y u (by rw [hK]; exact dp_of h1 9 (.lst l) y p2 h3) ry
      obtain ⟨k1, k2⟩ := toPy_ok 8 d p1
      obtain ⟨k3, k4⟩ := toPys_ok p2
      refine SeqAt.in_list_data (xs := toPys l) (by simpa only [toPy] using r2) r1 k3 k1 (by omega) ⟨.bl _, H, I, rfl, ?_⟩
      rw [any_py p1 p2]
      exact h5 w H _ (Wd.le.refl _) h1 (.bl _)
    · cases h4
  · split at h4
    · rename_i l hp
      cases h4
      obtain ⟨p1, p2⟩ := Bool.and_eq_true_iff.mp hp
      obtain ⟨as, r1⟩ := Dp.reads I _ x v (by rw [hK]; exact dp_of h1 8 d x p1 h2) rx
      obtain ⟨bs, r2⟩ := Dp.reads I _ y u (by rw [hK]; exact dp_of h1 9 (.tup l) y p2 h3) ry
      obtain ⟨k1, k2⟩ := toPy_ok 8 d p1
      obtain ⟨k3, k4⟩ := toPys_ok p2
      refine SeqAt.in_tuple_data (xs := toPys l) (by simpa only [toPy] using r2) r1 k3 k1 (by omega) ⟨.bl _, H, I, rfl, ?_⟩
      rw [any_py p1 p2]
      exact h5 w H _ (Wd.le.refl _) h1 (.bl _)
    · cases h4
  · cases h4
theorem oi_nin (hK : X.K = T.K) (hu : X.A.units + 64 < cLine) : OpR X (compareOp .NotIn) (rOp T ninD) := fun pins s σ H x y v u Q I rx ry q => by
  obtain ⟨w, d, e, r, S, h1, h2, h3, h4, h5⟩ := q
  unfold ninD at h4
  split at h4
  · split at h4
    · rename_i l hp
      cases h4
      obtain ⟨p1, p2⟩ := Bool.and_eq_true_iff.mp hp
      obtain ⟨as, r1⟩ := Dp.reads I _ x v (by rw [hK]; exact dp_of h1 8 d x p1 h2) rx
      obtain ⟨bs, r2⟩ := Dp.reads I _ y u (by rw [hK]; exact dp_of h1 9 (.lst l) y p2 h3) ry
      obtain ⟨k1, k2⟩ := toPy_ok 8 d p1
      obtain ⟨k3, k4⟩ := toPys_ok p2
      refine SeqAt.notIn_list_data (xs := toPys l) (by simpa only [toPy] using r2) r1 k3 k1 (by omega) ⟨.bl _, H, I, rfl, ?_⟩
      rw [any_py p1 p2]
      exact h5 w H _ (Wd.le.refl _) h1 (.bl _)
    · cases h4
  · split at h4
    · rename_i l hp
      cases h4
      obtain ⟨p1, p2⟩ := Bool.and_eq_true_iff.mp hp
      obtain ⟨as, r1⟩ := Dp.reads I _ x v (by rw [hK]; exact dp_of h1 8 d x p1 h2) rx
      obtain ⟨bs, r2⟩ := Dp.reads I _ y u (by rw [hK]; exact dp_of h1 9 (.tup l) y p2 h3) ry
      obtain ⟨k1, k2⟩ := toPy_ok 8 d p1
      obtain ⟨k3, k4⟩ := toPys_ok p2
      refine SeqAt.notIn_tuple_data (xs := toPys l) (by simpa only [toPy] using r2) r1 k3 k1 (by omega) ⟨.bl _, H, I, rfl, ?_⟩
      rw [any_py p1 p2]
      exact h5 w H _ (Wd.le.refl _) h1 (.bl _)
    · cases h4
  · cases h4
end Ro
end

section
set_option Elab.async false
set_option linter.all false
set_option maxRecDepth 100000
set_option maxHeartbeats 4000000
namespace Ro
open PySem PySem.Spec PyProof.Rows L2
variable {T : Tb} {E : XK} {X : Cx} {a b c e : Expr} {es : List Expr} {f g h : EX} {fa ga fk : AX} {fb gb : BX} {pos : Pos} {st : Stmt} {sts rest : List Stmt} {s t : ES}
/-! ### repr of data -/
def reprOk (d : D) : Bool := plD d && (toPy d).showable && decide ((toPy d).shown.length ≤ LINE)
def bRepr : List D → Option D
  | [x] => if reprOk x then some (.str (toPy x).shown) else none
  | _ => none
theorem noDict_plain : (∀ d : PyData, d.plain = true → d.hasDict = false) ∧ (∀ l : List PyData, PyData.plainAll l = true → PyData.hasDictAll l = false) := by
  have key : ∀ n : Nat, (∀ d : PyData, d.depth ≤ n → d.plain = true → d.hasDict = false) ∧ (∀ l : List PyData, PyData.depthAll l ≤ n → PyData.plainAll l = true → PyData.hasDictAll l = false) := by
    intro n
    induction n with
    | zero =>
      have h1 : ∀ d : PyData, d.depth ≤ 0 → d.plain = true → d.hasDict = false := by
        intro d hd hp
        cases d with
        | list xs => simp [PyData.depth] at hd
        | tuple xs => simp [PyData.depth] at hd
        | dict kvs => simp [PyData.plain] at hp
        | _ => rfl
      refine ⟨h1, fun l => ?_⟩
      induction l with
      | nil => intro _ _; rfl
      | cons x l ih =>
        intro hd hp
        simp only [PyData.depthAll] at hd
        simp only [PyData.plainAll, Bool.and_eq_true] at hp
        simp only [PyData.hasDictAll, h1 x (by omega) hp.1, ih (by omega) hp.2, Bool.or_self]
    | succ n ih =>
      obtain ⟨_, ih2⟩ := ih
      have h1 : ∀ d : PyData, d.depth ≤ n + 1 → d.plain = true → d.hasDict = false := by
        intro d hd hp
        cases d with
        | list xs =>
          simp only [PyData.depth] at hd
          simp only [PyData.plain] at hp
          simp only [PyData.hasDict, ih2 xs (by omega) hp]
        | tuple xs =>
          simp only [PyData.depth] at hd
          simp only [PyData.plain] at hp
          simp only [PyData.hasDict, ih2 xs (by omega) hp]
        | dict kvs => simp [PyData.plain] at hp
        | _ => rfl
      refine ⟨h1, fun l => ?_⟩
      induction l with
      | nil => intro _ _; rfl
      | cons x l ih =>
        intro hd hp
        simp only [PyData.depthAll] at hd
        simp only [PyData.plainAll, Bool.and_eq_true] at hp
        simp only [PyData.hasDictAll, h1 x (by omega) hp.1, ih (by omega) hp.2, Bool.or_self]
  exact ⟨fun d => (key d.depth).1 d (Nat.le_refl _), fun l => (key (PyData.depthAll l)).2 l (Nat.le_refl _)⟩
/-- repr by data -/
def rRepr (K : PySem.W.Frag) : List V → Hp → VK → Prop := fun vs H Q => ∃ x d, vs = [x] ∧ Dp K H x d ∧ d.plain = true ∧ d.depth ≤ 20 ∧ d.showable = true ∧ d.shown.length ≤ sizeLine ∧ Q (.str d.shown) H
theorem call_reprD (gd : X.A.guards = some []) (hu : X.A.units + 64 < cLine) : CallR X (.builtin "repr") (rRepr X.K) := by
  intro pins s σ H xs us Q I r h
  obtain ⟨x, d, rfl, hd, hp, hk, hs, hz, q⟩ := h
  obtain ⟨u, rfl, ru⟩ := Vals.one r
  cases hd with
  | non =>
    cases ru
    exact PySem.P.repr_of_none ⟨.str _, H, I.tok _, ⟨_, rfl⟩, q⟩
  | bl b =>
    cases ru
    exact PySem.P.repr_of_bool ⟨.str _, H, I.tok _, ⟨_, rfl⟩, q⟩
  | int i =>
    obtain ⟨t, rfl⟩ := ru
    exact PySem.P.repr_of_int (of_decide_eq_true hs) ⟨.str _, H, I.tok _, ⟨_, rfl⟩, q⟩
  | str z =>
    obtain ⟨t, rfl⟩ := ru
    exact PySem.P.repr_of_str ⟨.str _, H, I.tok _, ⟨_, rfl⟩, q⟩ hz
  | lst h1 h2 =>
    cases ru
    obtain ⟨as, rd⟩ := Dp.reads I _ _ (.ref _) (.lst h1 h2) rfl
    exact repr_of_reads' rd hs (PyData.noDict_hsm (noDict_plain.1 _ hp)) gd (by omega) (fun _ _ e => e) (fun h' u tk hk => ⟨.str _, H, I.kept hk, ⟨_, rfl⟩, q⟩) hz
  | tup h1 h2 =>
    cases ru
    obtain ⟨as, rd⟩ := Dp.reads I _ _ (.ref _) (.tup h1 h2) rfl
    exact repr_of_reads' rd hs (PyData.noDict_hsm (noDict_plain.1 _ hp)) gd (by omega) (fun _ _ e => e) (fun h' u tk hk => ⟨.str _, H, I.kept hk, ⟨_, rfl⟩, q⟩) hz
theorem bo_repr : BOk T (rRepr T.K) bRepr := fun w S xs vs H d Q r p h k => by
  unfold bRepr at h
  split at h
  · split at h
    · rename_i x hx
      cases h
      obtain ⟨v, rfl, p2⟩ := reps_one p
      unfold reprOk at hx
      simp only [Bool.and_eq_true, decide_eq_true_eq] at hx
      obtain ⟨k1, k2⟩ := toPy_ok 8 x hx.1.1
      exact ⟨v, _, rfl, dp_of r 8 x v hx.1.1 p2, k1, by omega, hx.1.2, by rw [sizeLine_eq]; exact hx.2, k w H _ (Wd.le.refl _) r (.str _)⟩
    · cases h
  · cases h
/-! ### str -/
def bStr : List D → Option D
  | [.int i] => if i.natAbs.log2 < 1920 then some (.str (toString i)) else none
  | [.str s] => some (.str s)
  | [.bl b] => some (.str (if b then "True" else "False"))
  | _ => none
def rStr : List V → Hp → VK → Prop := fun xs H Q => (∃ i, xs = [.int i] ∧ i.natAbs.log2 < 1920 ∧ Q (.str (toString i)) H) ∨ (∃ a, xs = [.str a] ∧ Q (.str a) H) ∨ ∃ b, xs = [.bl b] ∧ Q (.str (if b then "True" else "False")) H
theorem call_strD : CallR X (.type "str") rStr := fun pins s σ H xs us Q I r h => by
  rcases h with h | h | h
  · exact call_str_int pins s σ H xs us Q I r h
  · obtain ⟨a, rfl, q⟩ := h
    obtain ⟨u, rfl, t, rfl⟩ := Vals.one r
    exact PySem.P.str_of_str ⟨.str a, H, I, ⟨t, rfl⟩, q⟩
  · obtain ⟨b, rfl, q⟩ := h
    obtain ⟨u, rfl, ru⟩ := Vals.one r
    cases ru
    exact PySem.P.str_of_bool ⟨.str _, H, I.tok _, ⟨_, rfl⟩, q⟩
theorem bo_str : BOk T rStr bStr := fun w S xs vs H d Q r p h k => by
  unfold bStr at h
  split at h
  · split at h
    · rename_i hi
      cases h
      obtain ⟨v, rfl, p2⟩ := reps_one p
      cases p2
      exact .inl ⟨_, rfl, hi, k w H _ (Wd.le.refl _) r (.str _)⟩
    · cases h
  · cases h
    obtain ⟨v, rfl, p2⟩ := reps_one p
    cases p2
    exact .inr (.inl ⟨_, rfl, k w H _ (Wd.le.refl _) r (.str _)⟩)
  · cases h
    obtain ⟨v, rfl, p2⟩ := reps_one p
    cases p2
    exact .inr (.inr ⟨_, rfl, k w H _ (Wd.le.refl _) r (.str _)⟩)
  · cases h
/-! ### int, bool -/
def bInt : List D → Option D
  | [.int i] => some (.int i)
  | [.bl k] => some (.int (if k then 1 else 0))
  | _ => none
theorem bo_int : BOk T (fun xs H Q => (∃ i, xs = [.int i] ∧ Q (.int i) H) ∨ ∃ k, xs = [.bl k] ∧ Q (.int (if k then 1 else 0)) H) bInt := fun w S xs vs H d Q r p h k => by
  unfold bInt at h
  split at h
  · cases h
    obtain ⟨v, rfl, p2⟩ := reps_one p
    cases p2
    exact .inl ⟨_, rfl, k w H _ (Wd.le.refl _) r (.int _)⟩
  · cases h
    obtain ⟨v, rfl, p2⟩ := reps_one p
    cases p2
    exact .inr ⟨_, rfl, k w H _ (Wd.le.refl _) r (.int _)⟩
  · cases h
/-! ### join -/
def dStrs : List D → Option (List Str)
  | [] => some []
  | .str s :: l => (dStrs l).map (s :: ·)
  | _ => none
theorem reps_strs {w : Wd} : ∀ {l : List D} {vs : List V} {ys : List Str}, Reps T w l vs → dStrs l = some ys → vs = ys.map V.str
  | [], _, _, .nil, h => by cases h; rfl
  | .str s :: l, _, _, .cons q r, h => by
    cases q
    cases z : dStrs l with
    | none => rw [dStrs, z] at h; cases h
    | some ys =>
      rw [dStrs, z] at h
      cases h
      rw [reps_strs r z]
      rfl
  | .non :: l, _, _, _, h => by cases h
  | .bl _ :: l, _, _, _, h => by cases h
  | .int _ :: l, _, _, _, h => by cases h
  | .tup _ :: l, _, _, _, h => by cases h
  | .lst _ :: l, _, _, _, h => by cases h
  | .dct _ :: l, _, _, _, h => by cases h
  | .obj _ _ :: l, _, _, _, h => by cases h
  | .scr _ :: l, _, _, _, h => by cases h
  | .ref _ :: l, _, _, _, h => by cases h
  | .fn _ :: l, _, _, _, h => by cases h
  | .thk _ _ :: l, _, _, _, h => by cases h
def joinOk (x : Str) (ys : List Str) : Bool := decide ((ys.map (·.length)).sum + ys.length * x.length ≤ LINE)
/-- x.join(y) -/
def joinD (x y : D) : Option D := match x with
  | .str s => (match y with
    | .lst l => (dStrs l).bind fun ys => if joinOk s ys then some (.str (Txt.join s ys)) else none
    | .tup l => (dStrs l).bind fun ys => if joinOk s ys then some (.str (Txt.join s ys)) else none
    | _ => none)
  | _ => none
def eJoin (a b : EX) : EX := fun env S => (a env S).bnd fun x S1 => match x with
  | .str s => (b env S1).bnd fun y S2 => lift (joinD (.str s) y) S2
  | _ => .bad
theorem ie_join {apos : Pos} (hK : X.K = T.K) (ho : IE T E X a f) (hb : IE T E X b g) (hbase : attributeBase a "join" X.env (eval a X.env) = eval a X.env := by rfl)
    (hfew : ((backTo pos (starEach [b] X.env)).all (fun x => !x.1) && (backToKw pos (keywordEach [] X.env)).all (fun x => x.1.isSome)
      && decide (([b]).length + ([] : List Keyword).length + (if ([] : List Keyword).isEmpty then 0 else 1) < 30)) = true := by rfl)
    (hline : (apos.endLine == pos.line) = true := by rfl) (hs : starEach [b] X.env = (false, eval b X.env) :: starEach [] X.env := by rfl) (hpl : (backTo pos (starEach [] X.env)).any (·.1) = false := by rfl) :
    IE T E X (.Call (.Attribute a "join" apos) [b] [] pos) (eJoin f g) :=
  PE.mono (pe_bm PySem.F.plainAttrs_str PySem.F.slot_str_join PySem.F.type_str_join mt_join ho (pa_cons hb pa_nil hs) hbase hfew hline hs hpl) fun σ H Q ⟨w, env, S, r, e, q⟩ => ⟨w, env, S, r, e, (RP.bnd q).mono (fun d S1 h1 w1 H1 x l1 r1 p1 => by
    cases p1 with
    | str z =>
      refine ⟨rfl, w1, env, S1, r1, e.mono l1, (RP.bnd h1).mono (fun y S2 h2 w2 H2 yv l2 r2 p2 => ?_) fun _ _ _ x => x.le l1⟩
      cases zz : joinD (.str z) y with
      | none => rw [zz] at h2; exact (show False from h2).elim
      | some o =>
        rw [zz] at h2
        unfold joinD at zz
        dsimp only at zz
        split at zz
        · rename_i l
          cases z3 : dStrs l with
          | none => rw [z3] at zz; cases zz
          | some ys =>
            rw [z3] at zz
            have zz : (if joinOk z ys then some (D.str (Txt.join z ys)) else none) = some o := zz
            split at zz
            · rename_i hj
              cases zz
              cases p2 with
              | lst q1 q2 =>
                have e3 := reps_strs q2 z3
                subst e3
                exact ⟨z, _, ys, rfl, rfl, .inl (.inl (.inl (r2.sub _ _ q1))), of_decide_eq_true hj, h2 w2 H2 _ (l1.trans l2) r2 (.str _)⟩
            · cases zz
        · rename_i l
          cases z3 : dStrs l with
          | none => rw [z3] at zz; cases zz
          | some ys =>
            rw [z3] at zz
            have zz : (if joinOk z ys then some (D.str (Txt.join z ys)) else none) = some o := zz
            split at zz
            · rename_i hj
              cases zz
              cases p2 with
              | tup q1 q2 =>
                have e3 := reps_strs q2 z3
                subst e3
                exact ⟨z, _, ys, rfl, rfl, .inr (by rw [hK]; exact sqt_sub r2 q1), of_decide_eq_true hj, h2 w2 H2 _ (l1.trans l2) r2 (.str _)⟩
            · cases zz
        · cases zz
    | _ => exact (show False from h1).elim) fun _ _ _ x => x⟩
/-! ### f-strings -/
def fmtD : D → Option D
  | .str s => if s.length ≤ LINE then some (.str s) else none
  | .int i => if i.natAbs.log2 < 1920 then some (.str (toString i)) else none
  | _ => none
def eFmt (a : EX) : EX := eUn fmtD a
theorem ie_fmt (h : IE T E X a f) : IE T E X (.FormattedValue a (-1) none pos) (eFmt f) :=
  PE.mono (pe_fmt h) fun σ H Q ⟨w, env, S, r, e, q⟩ => ⟨w, env, S, r, e, (RP.bnd q).mono (fun d S1 h1 w1 H1 x l1 r1 p1 => by
    cases z : fmtD d with
    | none => rw [z] at h1; exact (show False from h1).elim
    | some o =>
      rw [z] at h1
      unfold fmtD at z
      split at z
      · split at z
        · rename_i hl
          cases z; cases p1
          exact .inl ⟨_, rfl, by rw [sizeLine_eq]; exact hl, h1 w1 H1 _ l1 r1 (.str _)⟩
        · cases z
      · split at z
        · rename_i hl
          cases z; cases p1
          exact .inr ⟨_, rfl, hl, h1 w1 H1 _ l1 r1 (.str _)⟩
        · cases z
      · cases z) fun _ _ _ x => x⟩
/-- the parts -/
def jRun : List EX → Str → Env → Store → R D
  | [], acc, _, S => .ok (.str acc) S
  | f :: fs, acc, env, S => (f env S).bnd fun d S1 => match d with
    | .str y => if (acc ++ y).length ≤ LINE then jRun fs (acc ++ y) env S1 else .bad
    | _ => .bad
def eJs (fs : List EX) : EX := fun env S => jRun fs Str.empty env S
inductive IJ (T : Tb) (E : XK) (X : Cx) : List Expr → List EX → Prop
  | nil : IJ T E X [] []
  | cons {e : Expr} {es : List Expr} {f : EX} {fs : List EX} (h : IE T E X e f) (r : IJ T E X es fs) : IJ T E X (e :: es) (f :: fs)
theorem IJ.toPJ {es : List Expr} {fs : List EX} (h : IJ T E X es fs) : PJ X es (fs.map (tI T E)) := by
  induction h with
  | nil => exact .nil
  | cons h _ ih => exact .cons h ih
theorem tJs_run : ∀ (fs : List EX) (acc : Str) (w : Wd) (env : Env) (S : Store) (σ : St) (H : Hp) (Q : VK), WR T w S H → ER T w env σ → RP (jRun fs acc env S) (fun d S' => ∀ w' H' v, w.le w' → WR T w' S' H' → Rep T w' d v → Q v H') (XW T w E) → tJs (fs.map (tI T E)) acc σ H fun out H1 => Q (.str out) H1
  | [], acc, w, env, S, σ, H, Q, r, e, q => (show ∀ w' H' v, w.le w' → WR T w' S H' → Rep T w' (D.str acc) v → Q v H' from q) w H _ (Wd.le.refl _) r (.str _)
  | f :: fs, acc, w, env, S, σ, H, Q, r, e, q => ⟨w, env, S, r, e, (RP.bnd q).mono (fun d S1 h1 w1 H1 x l1 r1 p1 => by
    cases p1 with
    | str y =>
      have h1 : RP (if (acc ++ y).length ≤ LINE then jRun fs (acc ++ y) env S1 else .bad) (fun d S' => ∀ w' H' v, w.le w' → WR T w' S' H' → Rep T w' d v → Q v H') (XW T w E) := h1
      by_cases hl : (acc ++ y).length ≤ LINE
      · rw [if_pos hl] at h1
        exact ⟨y, rfl, by rw [sizeLine_eq]; exact hl, tJs_run fs (acc ++ y) w1 env S1 σ H1 Q r1 (e.mono l1) (RP.mono h1 (fun d S' q w' H' v l => q w' H' v (l1.trans l)) fun _ _ _ x => x.le l1)⟩
      · rw [if_neg hl] at h1
        exact (show False from h1).elim
    | _ => exact (show False from h1).elim) fun _ _ _ x => x⟩
theorem ie_js {e1 e2 : Expr} {fs : List EX} (h : IJ T E X (e1 :: e2 :: es) fs) : IE T E X (.JoinedStr (e1 :: e2 :: es) pos) (eJs fs) :=
  PE.mono (pe_joined h.toPJ) fun σ H Q ⟨w, env, S, r, e, q⟩ => tJs_run fs Str.empty w env S σ H Q r e q
theorem ie_js1 {e1 : Expr} {f : EX} (h : IE T E X e1 f) : IE T E X (.JoinedStr [e1] pos) f := pe_joined1 h
end Ro
end

section
set_option Elab.async false
set_option linter.all false
set_option maxRecDepth 100000
set_option maxHeartbeats 4000000
namespace Ro
open PySem PySem.Spec PyProof.Rows L2
/-! ### what is asked of the text's head -/
structure Lw where
  glo : List String := []
  free : List String := []
  gins : List (String × Int) := []
  cls : List String := []
  noat : List (String × String) := []
  meth : List (String × String) := []
  mkr : List String := []
  isi : List String := []
  kit : List (Ty × Ty) := []
  tups : List (String × List He.Dv) := []
  defs : List He.DefD := []
def isiB (K : PySem.W.Frag) (x : String) : Bool := (He.Fa.cls (x : Str)).ok K && (He.eqO (PySem.W.findIn K (.ref (He.ga K (x : Str))) "__class__") (some (some (.builtin "object.__class__"))) && (He.eqO (PySem.W.specialIn K (.builtin "object.__class__") "__get__") (some (some (.builtin "getset_descriptor.__get__"))) &&
  (decide (PySem.W.takesIn K (.builtin "object.__class__") = some true) && decide (PySem.W.mroIn K (He.ga K (x : Str)) (.type "object") = some true))))
def Lw.ok (L : Lw) (K : PySem.W.Frag) : Bool :=
  L.glo.all (fun x => (He.Fa.glo (x : Str)).ok K) && (L.free.all (fun x => (He.Fa.free (x : Str)).ok K) && (L.gins.all (fun p => (He.Fa.int (p.1 : Str) p.2).ok K) && (L.cls.all (fun x => (He.Fa.cls (x : Str)).ok K) &&
  (L.noat.all (fun p => (He.Fa.noat (p.1 : Str) (p.2 : Str)).ok K) && (L.meth.all (fun p => (He.Fa.meth (p.1 : Str) (p.2 : Str)).ok K) && (L.mkr.all (fun x => (He.Fa.mkr (x : Str)).ok K) &&
  (L.isi.all (fun x => isiB K x) && (L.kit.all (fun p => decide (PySem.W.kitOne K (tyV' K p.1) (tyV' K p.2) = some (subTy p.1 p.2))) && (L.tups.all (fun p => He.tupB K (p.1 : Str) p.2) && L.defs.all (fun d => d.ok K))))))))))
/-- the head's facts -/
structure Fx (T : Tb) (mg : Str → Option Value) (L : Lw) : Prop where
  glo : ∀ x ∈ L.glo, mg (x : Str) = some (.ref (He.ga T.K (x : Str)))
  free : ∀ x ∈ L.free, mg (x : Str) = none
  gins : ∀ p ∈ L.gins, ∃ t, mg (p.1 : Str) = some (.int p.2 t)
  cls : ∀ x ∈ L.cls, Cls T.K (He.ga T.K (x : Str))
  noat : ∀ p ∈ L.noat, NoAttr T.K (He.ga T.K (p.1 : Str)) (p.2 : Str)
  meth : ∀ p ∈ L.meth, Meth T.K (He.ga T.K (p.1 : Str)) (p.2 : Str) (He.ma T.K (He.ga T.K (p.1 : Str)) (p.2 : Str))
  mkr : ∀ x ∈ L.mkr, Mk T.K (He.ga T.K (x : Str)) (He.ma T.K (He.ga T.K (x : Str)) "__init__")
  isi : ∀ x ∈ L.isi, IsiC T.K (He.ga T.K (x : Str))
  kit : ∀ p ∈ L.kit, PySem.W.kitOne T.K (tyV' T.K p.1) (tyV' T.K p.2) = some (subTy p.1 p.2)
  tups : ∀ p ∈ L.tups, He.tupB T.K (p.1 : Str) p.2 = true
  defs : ∀ (i : Nat) d, L.defs[i]? = some d → ∃ fd, FunD T.K d.name d.qual d.params d.body d.scope (d.dvs T.K) (d.kws T.K) (He.fAd T.K d.at_) fd
theorem isi_of {K : PySem.W.Frag} {x : String} (h : isiB K x = true) : IsiC K (He.ga K (x : Str)) := by
  obtain ⟨h1, h⟩ := He.ba h
  obtain ⟨h2, h⟩ := He.ba h
  obtain ⟨h3, h⟩ := He.ba h
  obtain ⟨h4, h5⟩ := He.ba h
  exact ⟨He.cls_ok h1, He.eqO_ok h2, He.eqO_ok h3, of_decide_eq_true h4, of_decide_eq_true h5⟩
/-- the head's watch -/
def obL (L : Lw) (K : PySem.W.Frag) : He.AlD := (L.ok K, L.defs.map fun d => He.fnW K d.at_)
def obLG (n : Nat) (L : Lw) (g : Addr → Option Obj) : He.AlD := obL L (He.frG g (He.asD g n))
def hookL (n : Nat) (L : Lw) : PySem.W.Hook where
  α := He.AlD
  obs := fun s => obLG n L s.heap.get?
  val := fun _ => (true, L.defs.map He.DefD.val)
  says := fun _ h => ∃ K : PySem.W.Frag, K.In h ∧ obL L K = (true, L.defs.map He.DefD.val)
  of := fun _ _ e => ⟨_, He.frG_in, e⟩
  keeps := fun _ _ _ ⟨K, hK, c⟩ k => ⟨K, PySem.W.Frag.In.keeps hK k, c⟩
theorem obLG_eq {n : Nat} {L : Lw} {g : Addr → Option Obj} {s : Shared} (h : ∀ a, g a = s.heap.get? a) : obLG n L g = (hookL n L).obs s := by
  have e : g = s.heap.get? := funext h
  rw [e]
  rfl
theorem fx_of {T : Tb} {L : Lw} {h : Heap} {mg : Str → Option Value} (X : T.K.In h) (G : h.Ns mainGlobals mg) (c : obL L T.K = (true, L.defs.map He.DefD.val)) : Fx T mg L := by
  have c1 : L.ok T.K = true := congrArg (fun z : He.AlD => z.1) c
  have c2 : (L.defs.map fun d => He.fnW T.K d.at_) = L.defs.map He.DefD.val := congrArg (fun z : He.AlD => z.2) c
  obtain ⟨h1, c1⟩ := He.ba c1
  obtain ⟨h2, c1⟩ := He.ba c1
  obtain ⟨h3, c1⟩ := He.ba c1
  obtain ⟨h4, c1⟩ := He.ba c1
  obtain ⟨h5, c1⟩ := He.ba c1
  obtain ⟨h6, c1⟩ := He.ba c1
  obtain ⟨h7, c1⟩ := He.ba c1
  obtain ⟨h8, c1⟩ := He.ba c1
  obtain ⟨h9, c1⟩ := He.ba c1
  obtain ⟨h10, h11⟩ := He.ba c1
  rw [List.all_eq_true] at h1 h2 h3 h4 h5 h6 h7 h8 h9 h10 h11
  refine ⟨fun x hx => He.glo_ok X G (h1 x hx), fun x hx => He.free_ok X G (h2 x hx), fun p hp => He.int_ok X G (h3 p hp), fun x hx => He.cls_ok (h4 x hx), fun p hp => He.noat_ok (h5 p hp), fun p hp => He.meth_ok (h6 p hp), fun x hx => He.mkr_ok (h7 x hx), fun x hx => isi_of (h8 x hx), fun p hp => of_decide_eq_true (h9 p hp), h10, fun i d hd => ?_⟩
  have e : (L.defs.map fun d => He.fnW T.K d.at_)[i]? = (L.defs.map He.DefD.val)[i]? := by rw [c2]
  rw [List.getElem?_map, List.getElem?_map, hd] at e
  exact He.DefD.funD (Option.some.inj e) (h11 d (List.mem_of_getElem? hd))
section
variable {T : Tb} {mg : Str → Option Value} {L : Lw}
theorem Fx.g (F : Fx T mg L) (x : String) (h : x ∈ L.glo := by decide +kernel) : mg (x : Str) = some (.ref (He.ga T.K (x : Str))) := F.glo x h
theorem Fx.f (F : Fx T mg L) (x : String) (h : x ∈ L.free := by decide +kernel) : mg (x : Str) = none := F.free x h
theorem Fx.i (F : Fx T mg L) (x : String) (i : Int) (h : (x, i) ∈ L.gins := by decide +kernel) : ∃ t, mg (x : Str) = some (.int i t) := F.gins (x, i) h
theorem Fx.m (F : Fx T mg L) (c x : String) (h : (c, x) ∈ L.meth := by decide +kernel) : Meth T.K (He.ga T.K (c : Str)) (x : Str) (He.ma T.K (He.ga T.K (c : Str)) (x : Str)) := F.meth (c, x) h
theorem Fx.c (F : Fx T mg L) (x : String) (h : x ∈ L.cls := by decide +kernel) : Cls T.K (He.ga T.K (x : Str)) := F.cls x h
theorem Fx.mk' (F : Fx T mg L) (x : String) (h : x ∈ L.mkr := by decide +kernel) : Mk T.K (He.ga T.K (x : Str)) (He.ma T.K (He.ga T.K (x : Str)) "__init__") := F.mkr x h
theorem Fx.tp (F : Fx T mg L) (i : Nat) {x : String} {l : List He.Dv} (h : L.tups[i]? = some (x, l) := by rfl) : He.tupB T.K (x : Str) l = true := F.tups (x, l) (List.mem_of_getElem? h)
theorem Fx.at' (F : Fx T mg L) (cs : List String) (f : String) (h : cs.all (fun c => L.cls.contains c && L.noat.contains (c, f)) = true := by decide +kernel) : ∀ c ∈ cs, Cls T.K (He.ga T.K (c : Str)) ∧ NoAttr T.K (He.ga T.K (c : Str)) (f : Str) := fun c hc => by
  have z := List.all_eq_true.mp h c hc
  obtain ⟨h1, h2⟩ := Bool.and_eq_true_iff.mp z
  exact ⟨F.cls c (by simpa using h1), F.noat (c, f) (by simpa using h2)⟩
theorem Fx.is' (F : Fx T mg L) (tys : List Ty) (h : tys.all (fun t => match t with | .o c => L.isi.contains c | _ => true) = true := by decide +kernel) : ∀ t ∈ tys, ∀ c, t = .o c → IsiC T.K (He.ga T.K (c : Str)) := fun t ht c e => by
  subst e
  have z := List.all_eq_true.mp h _ ht
  exact F.isi c (by simpa using z)
theorem Fx.ki (F : Fx T mg L) (tys : List Ty) (t : Ty) (h : tys.all (fun x => decide ((x, t) ∈ L.kit)) = true := by decide +kernel) : ∀ x ∈ tys, PySem.W.kitOne T.K (tyV' T.K x) (tyV' T.K t) = some (subTy x t) := fun x hx => F.kit (x, t) (of_decide_eq_true (List.all_eq_true.mp h x hx))
end
/-! ### module constants -/
variable {T : Tb} {E : XK} {X : Cx} {pos : Pos}
theorem ie_gint {x : Str} {i : Int} (hg : Gl X x) (hm : ∃ t, X.mg x = some (.int i t)) (hd : (x == ("__debug__" : Str)) = false := by decide +kernel) : IE T E X (.Name x pos) (eC (.int i)) := by
  obtain ⟨t, e⟩ := hm
  exact ie_glob (v := .int i) hg e ⟨t, rfl⟩ (fun _ => .int i) hd
theorem ie_gtup {x : Str} {l : List He.Dv} (hg : Gl X x) (hm : X.mg x = some (.ref (He.ga T.K x))) (ht : He.tupB T.K x l = true) (hl : l.all dvOk = true) (hd : (x == ("__debug__" : Str)) = false := by decide +kernel) : IE T E X (.Name x pos) (eC (.tup (l.map dvD))) :=
  ie_glob (v := .ref (He.ga T.K x)) hg hm rfl (fun w => .tup (He.tupB_ok ht w.G) (reps_dfl hl)) hd
theorem hu1 {k : Nat} {A : Around} (hr : RG k A) : A.units + 1 < cLine := by
  have := hr.rm.units
  omega
/-- what is never reached -/
def eBad : EX := fun _ _ => .bad
def sBad : ES := fun _ _ => .bad
def aBad : AX := fun _ _ => .bad
def bBad : BX := fun _ _ => .bad
theorem ie_bad {e : Expr} : IE T E X e eBad := ⟨fun pins s σ H Q I q => by obtain ⟨w, env, S, r, e, q⟩ := q; exact (show False from q).elim⟩
theorem ib_bad {e : Expr} : IB T E X e bBad := ⟨fun pins s σ H Q I q => by obtain ⟨w, env, S, r, e, q⟩ := q; exact (show False from q).elim⟩
theorem is_bad {st : Stmt} : IS T E X st sBad := ⟨fun pins s σ H Q I q => by obtain ⟨w, env, S, r, e, q⟩ := q; exact (show False from q).elim⟩
theorem iss_bad {st : List Stmt} : ISs T E X st sBad := ⟨fun pins s σ H Q I q => by obtain ⟨w, env, S, r, e, q⟩ := q; exact (show False from q).elim⟩
theorem ii_bad {tg e : Expr} : II T E X tg e aBad := ⟨fun pins s σ H Q I q => by obtain ⟨w, env, S, r, e, q⟩ := q; exact (show False from q).elim⟩
/-- whose exceptions leave -/
theorem tk_cx {P : Program} {w : World} {K : PySem.W.Frag} {mg : Str → Option Value} {base : Heap} {N : List Str} {qual : Str} {scope : Scope} {fp : Addr} {cd : Value} {A : Around} {outer : List PySem.Env} {s : Shared} {H : Hp} {E : XK} :
    Takes (cxOf (L2.CX P w) P w K mg base N qual scope fp cd A outer s H E) (fun c d _ H => E c d H) := takes_of rfl rfl rfl rfl
theorem tk_no {X : Cx} : Takes X (fun c d _ H => E00 c d H) := fun _ _ ⟨_, _, _, _, _, _, _, _, _, _, _, _, _, _, _, _, w⟩ => w.elim
end Ro
end

section
set_option Elab.async false
set_option linter.all false
set_option maxRecDepth 100000
set_option maxHeartbeats 4000000
namespace Ro
open PySem PySem.Spec PyProof.Rows L2
variable {T : Tb} {E : XK} {X : Cx} {a b c e : Expr} {es : List Expr} {f g h : EX} {fa ga fk : AX} {fb gb : BX} {pos : Pos} {st : Stmt} {sts rest : List Stmt} {s t : ES}
/-! ### names by their places -/
theorem ie_v (i : Nat) {x : Str} (hN : X.N[i]? = some x := by rfl) (hv : Vis X.env.scope x := by first | exact .inl rfl | exact .inr (.inl rfl) | exact .inr (.inr rfl)) (hd : (x == ("__debug__" : Str)) = false := by decide +kernel) (hcd : (x == ("__classdict__" : Str)) = false := by decide +kernel) : IE T E X (.Name x pos) (eVar i) := ie_var hN hv hd hcd
theorem ig_n {vs : List Nat} (i : Nat) {x : Str} (hN : X.N.Nodup) (hi : X.N[i]? = some x := by rfl) (hx : Loc X.env.scope x := by first | exact .inl rfl | exact .inr rfl) (hv : i ∈ vs := by decide) (hf : X.fn x = true ∨ X.env.scope.names.lookup x = some .local := by first | exact .inl rfl | exact .inr rfl) : IG T X vs (.Name x pos) (pName i) := ig_name hN hi hx hv hf
theorem is_st (i : Nat) {x : Str} {p' : Pos} (hN : X.N.Nodup) (he : IE T E X a f) (hi : X.N[i]? = some x := by rfl) (hx : Loc X.env.scope x := by first | exact .inl rfl | exact .inr rfl) (hs : swapsWith a (some (.Name x p')) pos.line X.env = pure false := by rfl) (hf : X.fn x = true ∨ X.env.scope.names.lookup x = some .local := by first | exact .inl rfl | exact .inr rfl) :
    IS T E X (.Assign [.Name x p'] a pos) (sSet i f) := is_set hN hi hx he hs hf
def allN (n : Nat) : List Nat := List.range n
theorem len_nil : ∀ ds env e, pNil ds env = some e → ds.length = 0 := fun ds env e h => by
  cases ds with
  | nil => rfl
  | cons _ _ => cases h
theorem len_cons {p : Pat} {r : List D → Env → Option Env} {n : Nat} (k : ∀ ds env e, r ds env = some e → ds.length = n) : ∀ ds env e, pCons p r ds env = some e → ds.length = n + 1 := fun ds env e h => by
  cases ds with
  | nil => cases h
  | cons d ds =>
    have h : (p d env).bind (fun e => r ds e) = some e := h
    cases z : p d env with
    | none => rw [z] at h; cases h
    | some e1 =>
      rw [z] at h
      rw [List.length_cons, k ds e1 e h]
/-! ### a comprehension's scope -/
def blkB (N : List Str) (sc scope : Scope) (own : List (Str × Nat)) : Bool :=
  decide (scope.kind = .function) && (scope.names.all (fun y => decide (scope.names.lookup y.1 = some y.2)) && (own.all (fun p => decide (N[p.2]? = some p.1)) &&
  (scope.names.all (fun y => !decide (y.2 = .free) || (decide (sc.names.lookup y.1 = some .cell) || decide (sc.names.lookup y.1 = some .free))) &&
  scope.names.all (fun y => !(decide (y.2 = .local) || decide (y.2 = .cell)) || ((own.map (·.1)).contains y.1 || !N.contains y.1)))))
theorem blk_by {N : List Str} {sc scope : Scope} {own : List (Str × Nat)} (h : blkB N sc scope own = true) : BlkOk N sc scope own := by
  unfold blkB at h
  simp only [Bool.and_eq_true, List.all_eq_true, decide_eq_true_eq, Bool.or_eq_true, Bool.not_eq_true', decide_eq_false_iff_not, Bool.or_eq_false_iff] at h
  obtain ⟨h1, h2, h3, h4, h5⟩ := h
  refine ⟨h1, h2, h3, fun y hy e => ?_, fun y hy e => ?_⟩
  · rcases h4 y hy with z | z
    · exact absurd e z
    · exact z
  · rcases h5 y hy with z | z | z
    · rcases e with e | e
      · exact absurd e z.1
      · exact absurd e z.2
    · exact .inl (by simpa using z)
    · exact .inr (by simpa using z)
/-! ### any index, any walk -/
def idxA (x y : D) (S : Store) : Option D := match x with
  | .ref _ => idxM x y S
  | _ => idxD x y
def eIdxA (a b : EX) : EX := fun env S => (a env S).bnd fun x S1 => (b env S1).bnd fun y S2 => lift (idxA x y S2) S2
theorem PE.byOk {X : Cx} {e : Expr} {f g h : EX} (hg : IE T E X e g) (hh : IE T E X e h) (k : ∀ env S, f env S = g env S ∨ f env S = h env S) : IE T E X e f := ⟨fun pins s σ H Q I q => by
  obtain ⟨w, env, S, r, e, q⟩ := q
  rcases k env S with z | z
  · exact hg.run pins s σ H Q I ⟨w, env, S, r, e, by rw [← z]; exact q⟩
  · exact hh.run pins s σ H Q I ⟨w, env, S, r, e, by rw [← z]; exact q⟩⟩
/-- by the value's kind -/
theorem ie_idxA (hK : X.K = T.K) (ha : IE T E X a f) (hb : IE T E X b g) (hs : PlainIx b := by exact fun _ _ => rfl) : IE T E X (.Subscript a b pos) (eIdxA f g) :=
  PE.byOk (ie_idx hK ha hb hs) (ie_idxM hK ha hb hs) fun env S => by
    unfold eIdxA eIdx eIdxM eOp
    cases z : f env S with
    | ok x S1 =>
      cases x with
      | ref n => exact .inr rfl
      | _ => exact .inl rfl
    | err c fs S1 => exact .inl rfl
    | bad => exact .inl rfl
def itAny (f : EX) : AX := fun env S => (f env S).bnd fun d S1 => match d with
  | .lst l => .ok l S1
  | .tup l => .ok l S1
  | _ => .bad
theorem ii_any {tg : Expr} (hK : X.K = T.K) (h : IE T E X a f) : II T E X tg a (itAny f) := ⟨fun pins s σ H R I q => by
  obtain ⟨w, env, S, r, e, q⟩ := q
  by_cases z : ∃ l S1, f env S = .ok (.tup l) S1
  · obtain ⟨l, S1, z⟩ := z
    refine (ii_tup (tg := tg) hK h).run pins s σ H R I ⟨w, env, S, r, e, ?_⟩
    unfold itTup
    unfold itAny at q
    rw [z] at q ⊢
    exact q
  · refine (ii_lst (tg := tg) hK h).run pins s σ H R I ⟨w, env, S, r, e, ?_⟩
    unfold itSeq
    unfold itAny at q
    cases y : f env S with
    | ok d S1 =>
      rw [y] at q
      cases d with
      | tup l => exact absurd ⟨l, S1, y⟩ z
      | _ => exact q
    | err c fs S1 => rw [y] at q; exact q
    | bad => rw [y] at q; exact q⟩
/-! ### zip, enumerate -/
def zipL : List D → List D → List D
  | x :: l, y :: m => .tup [x, y] :: zipL l m
  | _, _ => []
theorem zipL_get : ∀ (l m : List D) (i : Nat), (zipL l m)[i]? = (match l[i]?, m[i]? with
    | some x, some y => some (.tup [x, y])
    | _, _ => none)
  | [], m, i => by simp [zipL]
  | x :: l, [], i => by
    simp [zipL]
  | x :: l, y :: m, 0 => by simp [zipL]
  | x :: l, y :: m, i + 1 => by simpa [zipL] using zipL_get l m i
theorem zipL_len : ∀ (l m : List D), (zipL l m).length = min l.length m.length
  | [], m => by simp [zipL]
  | x :: l, [] => by simp [zipL]
  | x :: l, y :: m => by simp [zipL, zipL_len l m]
theorem itR_zipL {w : Wd} {l m : List D} {p q : Addr} {vs us : List V} (h1 : SqL T.K w.G p vs) (r1 : Reps T w l vs) (h2 : SqL T.K w.G q us) (r2 : Reps T w m us) : ItR T w (zipL l m) (Itz T.K p q) where
  goS := fun i H w' S l1 r hi => by
    rw [zipL_len] at hi
    obtain ⟨x, e1, _⟩ := r1.get (List.getElem?_eq_getElem (show i < l.length by omega))
    obtain ⟨y, e2, _⟩ := r2.get (List.getElem?_eq_getElem (show i < m.length by omega))
    exact ⟨vs, us, x, y, sql_sub r (sql_le l1 h1), sql_sub r (sql_le l1 h2), e1, e2⟩
  stopS := fun i H w' S l1 r hi => by
    rw [zipL_len, r1.length, r2.length] at hi
    exact ⟨vs, us, sql_sub r (sql_le l1 h1), sql_sub r (sql_le l1 h2), by omega⟩
  yldS := fun i H v H' w' S d l1 r hd y => by
    obtain ⟨A, x, z, rfl, hA, rfl, k1, k2⟩ := y
    rw [zipL_get] at hd
    have e1 := k1 vs (sql_sub r (sql_le l1 h1))
    have e2 := k2 us (sql_sub r (sql_le l1 h2))
    cases y1 : l[i]? with
    | none => rw [y1] at hd; cases hd
    | some d1 =>
      rw [y1] at hd
      cases y2 : m[i]? with
      | none => rw [y2] at hd; cases hd
      | some d2 =>
        rw [y2] at hd
        cases hd
        obtain ⟨x', g1, g2⟩ := r1.get y1
        obtain ⟨z', g3, g4⟩ := r2.get y2
        rw [e1] at g1; cases g1
        rw [e2] at g3; cases g3
        obtain ⟨l2, r2'⟩ := r.new hA (.tup [x, z])
        exact ⟨_, l2, r2', .tup (.inl (.inl upd_same)) (.cons ((g2.monoS l1).mono l2) (.cons ((g4.monoS l1).mono l2) .nil))⟩
theorem itR_zipT {w : Wd} {l m : List D} {p q : Addr} {vs us : List V} (h1 : SqT T.K w.G p vs) (r1 : Reps T w l vs) (h2 : SqT T.K w.G q us) (r2 : Reps T w m us) : ItR T w (zipL l m) (RZ.ItzT T.K p q) where
  goS := fun i H w' S l1 r hi => by
    rw [zipL_len] at hi
    obtain ⟨x, e1, _⟩ := r1.get (List.getElem?_eq_getElem (show i < l.length by omega))
    obtain ⟨y, e2, _⟩ := r2.get (List.getElem?_eq_getElem (show i < m.length by omega))
    exact ⟨vs, us, x, y, sqt_sub r (sqt_le l1 h1), sqt_sub r (sqt_le l1 h2), e1, e2⟩
  stopS := fun i H w' S l1 r hi => by
    rw [zipL_len, r1.length, r2.length] at hi
    exact ⟨vs, us, sqt_sub r (sqt_le l1 h1), sqt_sub r (sqt_le l1 h2), by omega⟩
  yldS := fun i H v H' w' S d l1 r hd y => by
    obtain ⟨A, x, z, rfl, hA, rfl, k1, k2⟩ := y
    rw [zipL_get] at hd
    have e1 := k1 vs (sqt_sub r (sqt_le l1 h1))
    have e2 := k2 us (sqt_sub r (sqt_le l1 h2))
    cases y1 : l[i]? with
    | none => rw [y1] at hd; cases hd
    | some d1 =>
      rw [y1] at hd
      cases y2 : m[i]? with
      | none => rw [y2] at hd; cases hd
      | some d2 =>
        rw [y2] at hd
        cases hd
        obtain ⟨x', g1, g2⟩ := r1.get y1
        obtain ⟨z', g3, g4⟩ := r2.get y2
        rw [e1] at g1; cases g1
        rw [e2] at g3; cases g3
        obtain ⟨l2, r2'⟩ := r.new hA (.tup [x, z])
        exact ⟨_, l2, r2', .tup (.inl (.inl upd_same)) (.cons ((g2.monoS l1).mono l2) (.cons ((g4.monoS l1).mono l2) .nil))⟩
def itZip (fa : AX) : AX := fun env S => (fa env S).bnd fun ds S1 => match ds with
  | [.lst l, .lst m] => .ok (zipL l m) S1
  | [.tup l, .tup m] => .ok (zipL l m) S1
  | _ => .bad
theorem ii_zip {p tpos : Pos} {elts : List Expr} {kk : Nat} (hK : X.K = T.K) (hg : Gl X "zip") (hm : X.mg "zip" = none) (ha : IA T E X [a, b] fa)
    (hs : starEach [a, b] X.env = (false, eval a X.env) :: starEach [b] X.env := by rfl) (hpl : (backTo pos (starEach [b] X.env)).any (·.1) = false := by rfl) : II T E X (.Tuple elts kk tpos) (.Call (.Name "zip" p) [a, b] [] pos) (itZip fa) :=
  PI.mono (RZ.pi_zipA hg hm ha hs hpl) fun σ H R ⟨w, env, S, r, e, q⟩ => ⟨w, env, S, r, e, (RP.bnd q).mono (fun ds S1 h1 w1 H1 vs l1 r1 p1 => by
    split at h1
    · obtain ⟨u, v, rfl, p2, q2⟩ := reps_two p1
      cases p2 with
      | lst a1 a2 =>
        cases q2 with
        | lst b1 b2 =>
          refine ⟨_, _, _, _, rfl, .inl ⟨.inl (.inl (r1.sub _ _ a1)), .inl (.inl (r1.sub _ _ b1)), ?_⟩⟩
          rw [hK]
          exact h1 w1 H1 _ l1 r1 (itR_zipL (.inl (.inl a1)) a2 (.inl (.inl b1)) b2)
    · obtain ⟨u, v, rfl, p2, q2⟩ := reps_two p1
      cases p2 with
      | tup a1 a2 =>
        cases q2 with
        | tup b1 b2 =>
          refine ⟨_, _, _, _, rfl, .inr ⟨by rw [hK]; exact sqt_sub r1 a1, by rw [hK]; exact sqt_sub r1 b1, ?_⟩⟩
          rw [hK]
          exact h1 w1 H1 _ l1 r1 (itR_zipT a1 a2 b1 b2)
    · exact (show False from h1).elim) fun _ _ _ x => x⟩
def enumL : Nat → List D → List D
  | _, [] => []
  | i, x :: l => .tup [.int i, x] :: enumL (i + 1) l
theorem enumL_get : ∀ (l : List D) (k i : Nat), (enumL k l)[i]? = (l[i]?).map fun x => .tup [.int ((k + i : Nat) : Int), x]
  | [], _, _ => by simp [enumL]
  | x :: l, k, 0 => by simp [enumL]
  | x :: l, k, i + 1 => by
    have z := enumL_get l (k + 1) i
    simp only [enumL, List.getElem?_cons_succ]
    rw [z, show k + 1 + i = k + (i + 1) by omega]
theorem enumL_len : ∀ (l : List D) (k : Nat), (enumL k l).length = l.length
  | [], _ => rfl
  | x :: l, k => by simp [enumL, enumL_len l]
theorem itR_enum {w : Wd} {l : List D} {p : Addr} {vs : List V} (h1 : SqL T.K w.G p vs) (r1 : Reps T w l vs) : ItR T w (enumL 0 l) (Ite T.K p) where
  goS := fun i H w' S l1 r hi => by
    rw [enumL_len] at hi
    obtain ⟨x, e1, _⟩ := r1.get (List.getElem?_eq_getElem hi)
    exact ⟨vs, x, sql_sub r (sql_le l1 h1), e1⟩
  stopS := fun i H w' S l1 r hi => by
    rw [enumL_len, r1.length] at hi
    exact ⟨vs, sql_sub r (sql_le l1 h1), hi⟩
  yldS := fun i H v H' w' S d l1 r hd y => by
    obtain ⟨A, x, rfl, hA, rfl, k1⟩ := y
    rw [enumL_get] at hd
    have e1 := k1 vs (sql_sub r (sql_le l1 h1))
    cases y1 : l[i]? with
    | none => rw [y1] at hd; cases hd
    | some d1 =>
      rw [y1] at hd
      cases hd
      obtain ⟨x', g1, g2⟩ := r1.get y1
      rw [e1] at g1; cases g1
      obtain ⟨l2, r2'⟩ := r.new hA (.tup [.int (i : Nat), x])
      refine ⟨_, l2, r2', .tup (.inl (.inl upd_same)) (.cons ?_ (.cons ((g2.monoS l1).mono l2) .nil))⟩
      rw [Nat.zero_add]
      exact .int _
def itEnum (fa : AX) : AX := fun env S => (fa env S).bnd fun ds S1 => match ds with
  | [.lst l] => .ok (enumL 0 l) S1
  | _ => .bad
theorem ii_enum {p tpos : Pos} {elts : List Expr} {kk : Nat} (hK : X.K = T.K) (hg : Gl X "enumerate") (hm : X.mg "enumerate" = none) (ha : IA T E X [a] fa)
    (hs : starEach [a] X.env = [(false, eval a X.env)] := by rfl) : II T E X (.Tuple elts kk tpos) (.Call (.Name "enumerate" p) [a] [] pos) (itEnum fa) :=
  PI.mono (pi_enum hg hm ha hs) fun σ H R ⟨w, env, S, r, e, q⟩ => ⟨w, env, S, r, e, (RP.bnd q).mono (fun ds S1 h1 w1 H1 vs l1 r1 p1 => by
    split at h1
    · obtain ⟨u, rfl, p2⟩ := reps_one p1
      cases p2 with
      | lst a1 a2 =>
        refine ⟨_, _, rfl, .inl (.inl (r1.sub _ _ a1)), ?_⟩
        rw [hK]
        exact h1 w1 H1 _ l1 r1 (itR_enum (.inl (.inl a1)) a2)
    · exact (show False from h1).elim) fun _ _ _ x => x⟩
/-! ### len of all but dicts; all, any, min, max, sum of lists -/
def bLenA : List D → Option D := fun xs => match xs with
  | [.dct _] => none
  | _ => bLen xs
theorem bo_lenA : BOk T (rLenH T.K) bLenA := bo_len
def dBls : List D → Option (List Bool)
  | [] => some []
  | .bl b :: l => (dBls l).map (b :: ·)
  | _ :: _ => none
theorem reps_bls {w : Wd} : ∀ {l : List D} {vs : List V} {ys : List Bool}, Reps T w l vs → dBls l = some ys → vs = ys.map V.bl
  | [], _, _, .nil, h => by cases h; rfl
  | d :: l, _, _, .cons q r, h => by
    cases q with
    | bl b =>
      cases z : dBls l with
      | none => rw [dBls, z] at h; cases h
      | some ys =>
        rw [dBls, z] at h
        cases h
        rw [reps_bls r z]
        rfl
    | _ => cases h
def dInts : List D → Option (List Int)
  | [] => some []
  | .int b :: l => (dInts l).map (b :: ·)
  | _ :: _ => none
theorem reps_ints {w : Wd} : ∀ {l : List D} {vs : List V} {ys : List Int}, Reps T w l vs → dInts l = some ys → vs = ys.map V.int
  | [], _, _, .nil, h => by cases h; rfl
  | d :: l, _, _, .cons q r, h => by
    cases q with
    | int b =>
      cases z : dInts l with
      | none => rw [dInts, z] at h; cases h
      | some ys =>
        rw [dInts, z] at h
        cases h
        rw [reps_ints r z]
        rfl
    | _ => cases h
def bAll : List D → Option D
  | [.lst l] => (dBls l).map fun bs => .bl (bs.all id)
  | _ => none
def bAny : List D → Option D
  | [.lst l] => (dBls l).map fun bs => .bl (bs.any id)
  | _ => none
theorem bo_all : BOk T (rAll T.K) bAll := fun w S xs vs H d Q r p h k => by
  unfold bAll at h
  split at h
  · rename_i l
    cases z : dBls l with
    | none => rw [z] at h; cases h
    | some bs =>
      rw [z] at h
      cases h
      obtain ⟨v, rfl, p2⟩ := reps_one p
      cases p2 with
      | lst q1 q2 =>
        have e := reps_bls q2 z
        subst e
        exact ⟨_, bs, rfl, .inl (.inl (r.sub _ _ q1)), k w H _ (Wd.le.refl _) r (.bl _)⟩
  · cases h
theorem bo_any : BOk T (rAny T.K) bAny := fun w S xs vs H d Q r p h k => by
  unfold bAny at h
  split at h
  · rename_i l
    cases z : dBls l with
    | none => rw [z] at h; cases h
    | some bs =>
      rw [z] at h
      cases h
      obtain ⟨v, rfl, p2⟩ := reps_one p
      cases p2 with
      | lst q1 q2 =>
        have e := reps_bls q2 z
        subst e
        exact ⟨_, bs, rfl, .inl (.inl (r.sub _ _ q1)), k w H _ (Wd.le.refl _) r (.bl _)⟩
  · cases h
def minL : List Int → Option Int
  | [] => none
  | x :: l => some (l.foldl min x)
theorem minL_ok : ∀ {l : List Int} {m : Int}, minL l = some m → ∀ z, z ∈ l → (∀ y, y ∈ l → z ≤ y) → z = m
  | x :: l, m, h, z, hz, hy => by
    cases h
    have key : ∀ (l : List Int) (x : Int), (l.foldl min x ∈ x :: l) ∧ ∀ y ∈ x :: l, l.foldl min x ≤ y := by
      intro l
      induction l with
      | nil => intro x; exact ⟨by simp, fun y hy => by simp at hy; simp [hy]⟩
      | cons a l ih =>
        intro x
        obtain ⟨i1, i2⟩ := ih (min x a)
        refine ⟨?_, fun y hy => ?_⟩
        · rcases List.mem_cons.mp i1 with e | e
          · show l.foldl min (min x a) ∈ _
            rw [e]
            rcases Int.min_def x a ▸ (show (if x ≤ a then x else a) = x ∨ (if x ≤ a then x else a) = a by split <;> simp) with q | q
            · rw [q]; simp
            · rw [q]; simp
          · exact List.mem_cons_of_mem _ (List.mem_cons_of_mem _ e)
        · have h0 := i2 (min x a) (by simp)
          show l.foldl min (min x a) ≤ y
          rcases List.mem_cons.mp hy with e | e
          · rw [e]; omega
          · rcases List.mem_cons.mp e with e | e
            · rw [e]; omega
            · exact i2 y (List.mem_cons_of_mem _ e)
    obtain ⟨k1, k2⟩ := key l x
    have a1 := hy _ k1
    have a2 := k2 z hz
    omega
def bMinL : List D → Option D
  | [.lst l] => (dInts l).bind fun ns => (minL ns).map D.int
  | _ => none
theorem bo_minL : BOk T (rMin T.K) bMinL := fun w S xs vs H d Q r p h k => by
  unfold bMinL at h
  split at h
  · rename_i l
    cases z : dInts l with
    | none => rw [z] at h; cases h
    | some ns =>
      rw [z] at h
      have h : (minL ns).map D.int = some d := h
      cases z2 : minL ns with
      | none => rw [z2] at h; cases h
      | some m =>
        rw [z2] at h
        cases h
        obtain ⟨v, rfl, p2⟩ := reps_one p
        cases p2 with
        | lst q1 q2 =>
          have e := reps_ints q2 z
          subst e
          refine ⟨_, ns, rfl, .inl (.inl (r.sub _ _ q1)), ?_, fun y hy hall => ?_⟩
          · cases ns with
            | nil => cases z2
            | cons _ _ => simp
          · rw [minL_ok z2 y hy hall]
            exact k w H _ (Wd.le.refl _) r (.int _)
  · cases h
def bSum : List D → Option D
  | [.lst l] => (dInts l).map fun ns => .int ns.sum
  | _ => none
/-! ### a, b = x, y -/
def sPar2 (i j : Nat) (fa : AX) : ES := fun env S => (fa env S).bnd fun xs S1 => match xs with
  | [x, y] => .ok (.nx ((env.set i (some x)).set j (some y))) S1
  | _ => .bad
def sPar3 (i j l : Nat) (fa : AX) : ES := fun env S => (fa env S).bnd fun xs S1 => match xs with
  | [x, y, z] => .ok (.nx (((env.set i (some x)).set j (some y)).set l (some z))) S1
  | _ => .bad
theorem is_par2 {x y : Str} {px py pt : Pos} {kt k2 : Nat} {pt2 : Pos} (i j : Nat) (hN : X.N.Nodup) (ha : IA T E X [a, b] fa) (hc : X.calm = true := by rfl) (hi : X.N[i]? = some x := by rfl) (hj : X.N[j]? = some y := by rfl) (hij : i ≠ j := by decide)
    (hx : X.env.scope.names.lookup x = some .local := by rfl) (hy : X.env.scope.names.lookup y = some .local := by rfl)
    (hw : swappedStores [.Tuple [.Name x px, .Name y py] kt pt] (.Tuple [a, b] k2 pt2) X.env = pure (some [x, y]) := by rfl)
    (hs : swapsWithSole [.Tuple [.Name x px, .Name y py] kt pt] (.Tuple [a, b] k2 pt2) pos.line X.env = pure false := by rfl) :
    IS T E X (.Assign [.Tuple [.Name x px, .Name y py] kt pt] (.Tuple [a, b] k2 pt2) pos) (sPar2 i j fa) :=
  PS.mono (ps_par hc hN hi hj hij hx hy ha hw hs) fun D σ H ⟨w, env, S, r, e, q⟩ => ⟨w, env, S, r, e, (RP.bnd q).mono (fun ds S1 h1 w1 H1 vs l1 r1 p1 => by
    split at h1
    · obtain ⟨v, u, rfl, p2, q2⟩ := reps_two p1
      exact ⟨v, u, rfl, h1 w1 H1 _ l1 r1 (((e.mono l1).set p2 i).set q2 j)⟩
    · exact (show False from h1).elim) fun _ _ _ x => x⟩
theorem reps_three {w : Wd} {x y z : D} {vs : List V} (r : Reps T w [x, y, z] vs) : ∃ v u t, vs = [v, u, t] ∧ Rep T w x v ∧ Rep T w y u ∧ Rep T w z t := by
  cases r with
  | cons r1 r2 => cases r2 with
    | cons r3 r4 => cases r4 with
      | cons r5 r6 => cases r6; exact ⟨_, _, _, rfl, r1, r3, r5⟩
theorem is_par3 {x y z : Str} {px py pz pt : Pos} {kt k2 : Nat} {pt2 : Pos} (i j l : Nat) (hN : X.N.Nodup) (ha : IA T E X [a, b, c] fa) (hc : X.calm = true := by rfl) (hi : X.N[i]? = some x := by rfl) (hj : X.N[j]? = some y := by rfl) (hl : X.N[l]? = some z := by rfl) (hij : i ≠ j := by decide) (hil : i ≠ l := by decide) (hjl : j ≠ l := by decide)
    (hx : X.env.scope.names.lookup x = some .local := by rfl) (hy : X.env.scope.names.lookup y = some .local := by rfl) (hz : X.env.scope.names.lookup z = some .local := by rfl)
    (hw : swappedStores [.Tuple [.Name x px, .Name y py, .Name z pz] kt pt] (.Tuple [a, b, c] k2 pt2) X.env = pure (some [x, y, z]) := by rfl)
    (hs : swapsWithSole [.Tuple [.Name x px, .Name y py, .Name z pz] kt pt] (.Tuple [a, b, c] k2 pt2) pos.line X.env = pure false := by rfl) :
    IS T E X (.Assign [.Tuple [.Name x px, .Name y py, .Name z pz] kt pt] (.Tuple [a, b, c] k2 pt2) pos) (sPar3 i j l fa) :=
  PS.mono (ps_par3 hc hN hi hj hl hij hil hjl hx hy hz ha hw hs) fun D σ H ⟨w, env, S, r, e, q⟩ => ⟨w, env, S, r, e, (RP.bnd q).mono (fun ds S1 h1 w1 H1 vs l1 r1 p1 => by
    split at h1
    · obtain ⟨v, u, t, rfl, p2, q2, q3⟩ := reps_three p1
      exact ⟨v, u, t, rfl, h1 w1 H1 _ l1 r1 ((((e.mono l1).set p2 i).set q2 j).set q3 l)⟩
    · exact (show False from h1).elim) fun _ _ _ x => x⟩
/-- r asks no more than r' -/
def RPle {α : Type} (r r' : R α) : Prop := ∀ (Pk : α → Store → Prop) (Pe : String → List D → Store → Prop), RP r Pk Pe → RP r' Pk Pe
theorem IS.eqv {s s' : ES} (h : IS T E X st s) (k : ∀ env S, RPle (s' env S) (s env S)) : IS T E X st s' := PS.mono h fun D σ H ⟨w, env, S, r, e, q⟩ => ⟨w, env, S, r, e, (k env S) _ _ q⟩
theorem is_par2u {i j : Nat} (h : IS T E X st (sUnp (pTup (pCons (pName i) (pCons (pName j) pNil))) (eTup fa))) : IS T E X st (sPar2 i j fa) := h.eqv fun env S Pk Pe q => by
  unfold sPar2 at q
  unfold sUnp eTup
  cases z : fa env S with
  | ok xs S1 =>
    rw [z] at q
    rw [bnd_ok] at q ⊢
    split at q
    · exact q
    · exact (show False from q).elim
  | err c fs S1 => rw [z] at q; exact q
  | bad => rw [z] at q; exact q
theorem is_par3u {i j l : Nat} (h : IS T E X st (sUnp (pTup (pCons (pName i) (pCons (pName j) (pCons (pName l) pNil)))) (eTup fa))) : IS T E X st (sPar3 i j l fa) := h.eqv fun env S Pk Pe q => by
  unfold sPar3 at q
  unfold sUnp eTup
  cases z : fa env S with
  | ok xs S1 =>
    rw [z] at q
    rw [bnd_ok] at q ⊢
    split at q
    · exact q
    · exact (show False from q).elim
  | err c fs S1 => rw [z] at q; exact q
  | bad => rw [z] at q; exact q
/-! ### < of tuples of ints -/
def ltA : D → D → Option D
  | .int i, .int j => some (.bl (decide (i < j)))
  | .tup l, .tup m => (dInts l).bind fun ns => (dInts m).map fun ms => .bl (HT.lexLt ns ms)
  | _, _ => none
theorem oi_ltA (hK : X.K = T.K) (hu : X.A.units < cLine) : OpR X (compareOp .Lt) (rOp T ltA) := orOp2 fun w d e r S x y H Q h1 h2 h3 h4 h5 => by
  unfold ltA at h4
  split at h4
  · cases h2; cases h3; cases h4
    exact ⟨_, op_lt, _, _, rfl, rfl, h5 w H _ (Wd.le.refl _) h1 (.bl _)⟩
  · rename_i l m
    cases z : dInts l with
    | none => rw [z] at h4; cases h4
    | some ns =>
      rw [z] at h4
      cases z2 : dInts m with
      | none => rw [z2] at h4; cases h4
      | some ms =>
        rw [z2] at h4
        cases h4
        cases h2 with
        | tup q2 r2 =>
          cases h3 with
          | tup q3 r3 =>
            have e1 := reps_ints r2 z
            have e2 := reps_ints r3 z2
            subst e1 e2
            exact ⟨_, op_ltT hu, _, _, ns, ms, rfl, rfl, by rw [hK]; exact sqt_sub h1 q2, by rw [hK]; exact sqt_sub h1 q3, h5 w H _ (Wd.le.refl _) h1 (.bl _)⟩
  · cases h4
/-! ### range by steps -/
def stepL (lo hi st : Int) : List D := (List.range ((hi - lo + st - 1) / st).toNat).map fun i : Nat => D.int (lo + (i : Int) * st)
end Ro
end

section
set_option Elab.async false
set_option linter.all false
set_option maxRecDepth 100000
set_option maxHeartbeats 4000000
namespace Ro
open PySem PySem.Spec PyProof.Rows L2
variable {T : Tb} {E : XK} {X : Cx} {a b c e : Expr} {es : List Expr} {f g h : EX} {fa ga fk : AX} {fb gb : BX} {pos : Pos} {st : Stmt} {sts rest : List Stmt} {s t : ES}
/-! ### sorted: tuples of ints -/
def codB : Int := 4294967296
def dTups : List D → Option (List (List Int))
  | [] => some []
  | .tup l :: r => (dInts l).bind fun ns => (dTups r).map (ns :: ·)
  | _ :: _ => none
def srtT (l : List (List Int)) : List (List Int) := l.mergeSort fun a b => decide (TS.code codB a ≤ TS.code codB b)
def tupD (ns : List Int) : D := .tup (ns.map D.int)
def tupOk (n : Nat) (m : List Int) : Bool := decide (m.length = n) && m.all fun z => decide (0 ≤ z ∧ z < codB)
def sortOk (l : List (List Int)) : Bool := decide (l.length < 64) && (match l with
  | [] => true
  | n :: r => decide (1 ≤ n.length) && (n :: r).all (tupOk n.length))
def bSortL (l : List (List Int)) : Option D := if sortOk l then some (.lst ((srtT l).map tupD)) else none
theorem tupOk_bd {n : Nat} {m : List Int} (h : tupOk n m = true) : m.length = n ∧ TS.Bd codB m := by
  unfold tupOk at h
  simp only [Bool.and_eq_true, decide_eq_true_eq, List.all_eq_true] at h
  exact ⟨h.1, fun z hz => h.2 z hz⟩
theorem code_eq : ∀ {n m : List Int}, n.length = m.length → TS.Bd codB n → TS.Bd codB m → TS.code codB n = TS.code codB m → n = m
  | [], [], _, _, _, _ => rfl
  | a :: n, b :: m, hl, h1, h2, e => by
    have hl' : n.length = m.length := Nat.succ.inj hl
    have hab : a = b := by
      rcases Int.lt_trichotomy a b with z | z | z
      · have := TS.code_lt hl' h1.tail h2.tail z
        omega
      · exact z
      · have := TS.code_lt hl'.symm h2.tail h1.tail z
        omega
    subst hab
    have e2 : TS.code codB n = TS.code codB m := by
      have e : a * codB ^ n.length + TS.code codB n = a * codB ^ m.length + TS.code codB m := e
      rw [hl'] at e
      omega
    rw [code_eq hl' h1.tail h2.tail e2]
theorem srtT_perm (l : List (List Int)) : (srtT l).Perm l := List.mergeSort_perm l _
theorem srtT_sorted (l : List (List Int)) : (srtT l).Pairwise fun a b => TS.code codB a ≤ TS.code codB b := by
  have z := List.pairwise_mergeSort (le := fun a b : List Int => decide (TS.code codB a ≤ TS.code codB b)) (fun a b c h1 h2 => by
    simp only [decide_eq_true_eq] at *
    omega) (fun a b => by
    simp only [Bool.or_eq_true, decide_eq_true_eq]
    omega) l
  exact z.imp fun h => of_decide_eq_true h
/-- two sorted permutations -/
theorem perm_eq {n : Nat} : ∀ {l m : List (List Int)}, (∀ x ∈ l, x.length = n ∧ TS.Bd codB x) → l.Perm m → l.Pairwise (fun a b => TS.code codB a ≤ TS.code codB b) → m.Pairwise (fun a b => TS.code codB a ≤ TS.code codB b) → l = m := by
  intro l m hl hp h1 h2
  refine List.Perm.eq_of_pairwise (le := fun a b => TS.code codB a ≤ TS.code codB b) (fun a b ha hb q1 q2 => ?_) h1 h2 hp
  obtain ⟨a1, a2⟩ := hl a ha
  obtain ⟨b1, b2⟩ := hl b (hp.mem_iff.mpr hb)
  exact code_eq (a1.trans b1.symm) a2 b2 (by omega)
/-! ### sorted(..): what is collected -/
theorem sortVals {d : Nat} {B : Int} {pins : List (Addr × Obj)} {σ : L2.St} {H : Hp} {s : Shared} {us : List Value} {xs : List V} {src : Value} {Q : VK} (I : Inv X pins σ H s) (rv : Vals xs us) (h64 : xs.length < 64) (hd : 1 ≤ d)
    (hx : ∀ x ∈ xs, ∃ ns, TupI X.K H x ns ∧ ns.length = d ∧ TS.Bd B ns)
    (hcol : ∀ R : List Value → Shared → Prop, (∀ h' tk, (∀ b o, s.heap.get? b = some o → h'.get? b = some o) → R us { s with heap := h', toks := tk }) → wpAny (model X.prog X.w) X.A.in1 (collect src) R X.xe s)
    (q : ∀ (ys : List V) (p : Addr), ys.Perm xs → ys.Pairwise (fun x y => ∀ n m, TupI X.K H x n → TupI X.K H y m → TS.code B n ≤ TS.code B m) → H p = none → Q (.ref p) (upd H p (.lst ys))) :
    wpAny (model X.prog X.w) X.A (call (.builtin "sorted") [src]) (EP X pins σ Q) X.xe s := by
  have hl : us.length = xs.length := rv.length.symm
  obtain ⟨e1, e2⟩ := bkV_refs rv fun x m => by
    obtain ⟨ns, ⟨t, e, _⟩, _⟩ := hx x m
    exact ⟨t, e⟩
  refine Calls.call_function_entry kind_sorted plain_sorted entry_sorted (args_sorted1 _) ?_
  unfold Builtin.«sorted»
  refine wpAny_bind (m := checkCount "sorted" 1 1 _) (wpAny_pure ?_)
  refine wpAny_bind (hcol _ fun h' tk k => ?_)
  refine wpAny_bind (wpAny_newList ?_ (by rw [sizeLine_eq]; omega))
  have hoL : (h'.push (seqObj "list" us.toArray 0)).get? h'.objs.size = some (seqObj "list" us.toArray 0) := Heap.get?_push_size _ rfl
  have J : Inv X pins σ H { s with heap := h'.push (seqObj "list" us.toArray 0), toks := tk } := I.kept fun b o z => Heap.get?_push_of_some _ (k b o z)
  have tups : TS.TupsOk (h'.push (seqObj "list" us.toArray 0)) d B us := fun v hv => by
    obtain ⟨t, rfl⟩ := e2 v hv
    have hm : V.ref t ∈ xs := by
      rw [e1]
      exact List.mem_map.mpr ⟨_, hv, rfl⟩
    obtain ⟨ns, ⟨t', e, ht⟩, hn, hb⟩ := hx _ hm
    cases e
    exact ⟨ns, tupI_raw J ht, hn, hb⟩
  show wpAny _ _ _ _ _ { s with heap := h'.push (seqObj "list" us.toArray 0), toks := tk }
  refine wpAny_bind (wpAny_holding (wpAny_call_entry slot_list_sort ⟨_, hoL, rfl⟩ entry_list_sort (TS.sort_tups (s := { s with heap := h'.push (seqObj "list" us.toArray 0), toks := tk }) hoL (by omega) hd tups
    (fun v => TS.code B (TS.intsOf (h'.push (seqObj "list" us.toArray 0)) v)) (fun v _ ns t => by
      show TS.code B (TS.intsOf (h'.push (seqObj "list" us.toArray 0)) v) = TS.code B ns
      rw [t.ints]) fun out a1 a2 => ⟨_, rfl, wpAny_pure ?_⟩) (args_list_sort _)))
  have h3 : ∀ u ∈ out.toList, ∃ a, u = Value.ref a := fun u hu => e2 u (a1.mem_iff.mp hu)
  have hp : (out.toList.map bkV).Perm xs := by
    rw [e1]
    exact a1.map bkV
  obtain ⟨ep, he'⟩ := PyProof.Rows.sortedHeap_at (vs := us) (out := out) hoL
  have hlen : (out.toList.map bkV).length ≤ sizeLine := by
    rw [hp.length_eq, sizeLine_eq]
    omega
  have I0 : Inv X pins σ H { s with heap := h', toks := tk } := I.kept k
  refine ⟨_, rfl, .ref h'.objs.size, upd H h'.objs.size (.lst (out.toList.map bkV)), I0.laid (t' := tk) (fun b u z => ?_) (Nat.le_refl _)
    (show ObjOk X.prog X.w _ _ _ (.lst (out.toList.map bkV)) from ⟨hlen, out.toList, ep, bkV_vals h3, by rw [Array.toArray_toList]; exact he'⟩), rfl, q _ _ hp ?_ (I0.hok.fresh (Nat.le_refl _))⟩
  · have hb : b < h'.objs.size := Heap.lt_size z
    rw [PyProof.Rows.sortedHeap_old (Nat.ne_of_lt hb) (by rw [size_push']; exact Nat.lt_succ_of_lt hb)]
    exact Heap.get?_push_of_some _ z
  · rw [List.pairwise_map]
    refine List.Pairwise.imp (fun {u v} huv n m hn hm => ?_) a2
    obtain ⟨t, et, ht⟩ := hn
    obtain ⟨t', et', ht'⟩ := hm
    have i1 : TS.intsOf (h'.push (seqObj "list" us.toArray 0)) u = n := by
      rw [bkV_ref et]
      exact (tupI_raw J ht).ints
    have i2 : TS.intsOf (h'.push (seqObj "list" us.toArray 0)) v = m := by
      rw [bkV_ref et']
      exact (tupI_raw J ht').ints
    rw [← i1, ← i2]
    exact huv
/-- of a list, of a tuple -/
def rSortAny (K : PySem.W.Frag) (d : Nat) (B : Int) : List V → Hp → VK → Prop := fun vs H Q => ∃ (a : Addr) (xs : List V), vs = [V.ref a] ∧ (SqL K H a xs ∨ SqT K H a xs) ∧ xs.length < 64 ∧ (∀ x ∈ xs, ∃ ns, TupI K H x ns ∧ ns.length = d ∧ TS.Bd B ns) ∧
  ∀ (ys : List V) (p : Addr), ys.Perm xs → ys.Pairwise (fun x y => ∀ n m, TupI K H x n → TupI K H y m → TS.code B n ≤ TS.code B m) → H p = none → Q (.ref p) (upd H p (.lst ys))
theorem call_sortAny {d : Nat} {B : Int} (hd : 1 ≤ d) : CallR X (.builtin "sorted") (rSortAny X.K d B) := by
  intro pins s σ H vs us Q I r h
  obtain ⟨a, xs, rfl, hs, h64, hx, q⟩ := h
  obtain ⟨u, rfl, ru⟩ := Vals.one r
  cases ru
  rcases hs with hs | hs
  · obtain ⟨its, rv, hl, hz⟩ := I.list hs
    obtain ⟨o, ho, hc, n, hdt⟩ := hl.isList
    refine sortVals I rv h64 hd hx (fun R k => ?_) q
    refine wpAny_collect_seq a (.inl rfl) ho hc hdt (fun h' kp => ?_) (by rw [List.size_toArray, ← rv.length]; exact hz)
    exact k h' _ kp
  · obtain ⟨its, rv, hl, hz⟩ := I.tuple hs
    obtain ⟨o, ho, hc, n, hdt⟩ := id hl
    refine sortVals I rv h64 hd hx (fun R k => ?_) q
    refine wpAny_collect_seq a (.inr rfl) ho hc hdt (fun h' kp => ?_) (by rw [List.size_toArray, ← rv.length]; exact hz)
    exact k h' _ kp
/-! ### sorted by mirrors -/
theorem dTups_eq : ∀ {l : List D} {ns : List (List Int)}, dTups l = some ns → l = ns.map tupD
  | [], _, h => by cases h; rfl
  | d :: l, ns, h => by
    cases d with
    | tup m =>
      have h : (dInts m).bind (fun ns => (dTups l).map (ns :: ·)) = some ns := h
      cases z : dInts m with
      | none => rw [z] at h; cases h
      | some k =>
        rw [z] at h
        cases z2 : dTups l with
        | none => rw [z2] at h; cases h
        | some r =>
          rw [z2] at h
          cases h
          have e1 : m = k.map D.int := by
            have key : ∀ {m : List D} {k : List Int}, dInts m = some k → m = k.map D.int := by
              intro m
              induction m with
              | nil => intro k h; cases h; rfl
              | cons x m ih =>
                intro k h
                cases x with
                | int i =>
                  cases z : dInts m with
                  | none => rw [dInts, z] at h; cases h
                  | some r => rw [dInts, z] at h; cases h; rw [ih z]; rfl
                | _ => cases h
            exact key z
          rw [e1, dTups_eq z2]
          rfl
    | _ => cases h
theorem dInts_map : ∀ ns : List Int, dInts (ns.map D.int) = some ns
  | [] => rfl
  | n :: ns => by rw [List.map_cons, dInts, dInts_map ns]; rfl
theorem reps_tupD {w : Wd} {S : Store} {H : Hp} (r : WR T w S H) {ns : List Int} {x : V} (p : Rep T w (tupD ns) x) : TupI T.K H x ns := by
  cases p with
  | tup q1 q2 =>
    refine ⟨_, rfl, ?_⟩
    have e : dInts (ns.map D.int) = some ns := dInts_map ns
    rw [reps_ints q2 e] at q1
    exact sqt_sub r q1
theorem reps_perm {w : Wd} : ∀ {ys vs : List V}, ys.Perm vs → ∀ {ds : List D}, Reps T w ds vs → ∃ es, es.Perm ds ∧ Reps T w es ys := by
  intro ys vs hp
  induction hp with
  | nil => intro ds r; cases r; exact ⟨[], .nil, .nil⟩
  | cons x _ ih =>
    intro ds r
    cases r with
    | cons r1 r2 =>
      obtain ⟨es, h1, h2⟩ := ih r2
      exact ⟨_, h1.cons _, .cons r1 h2⟩
  | swap x y l =>
    intro ds r
    cases r with
    | cons r1 r2 =>
      cases r2 with
      | cons r3 r4 => exact ⟨_, .swap _ _ _, .cons r3 (.cons r1 r4)⟩
  | trans _ _ ih1 ih2 =>
    intro ds r
    obtain ⟨es, h1, h2⟩ := ih2 r
    obtain ⟨fs, h3, h4⟩ := ih1 h2
    exact ⟨fs, h3.trans h1, h4⟩
theorem reps_pairs {w : Wd} {S : Store} {H : Hp} (r : WR T w S H) : ∀ {ms : List (List Int)} {ys : List V}, Reps T w (ms.map tupD) ys → ys.Pairwise (fun x y => ∀ n m, TupI T.K H x n → TupI T.K H y m → TS.code codB n ≤ TS.code codB m) →
    ms.Pairwise fun a b => TS.code codB a ≤ TS.code codB b
  | [], _, _, _ => .nil
  | m :: ms, _, .cons q1 q2, h => by
    rw [List.pairwise_cons] at h ⊢
    refine ⟨fun n hn => ?_, reps_pairs r q2 h.2⟩
    obtain ⟨i, hi, e⟩ := List.mem_iff_getElem.mp hn
    obtain ⟨v, h1, h2⟩ := q2.get (i := i) (d := tupD n) (by rw [List.getElem?_map, List.getElem?_eq_getElem hi, e]; rfl)
    exact h.1 v (List.mem_of_getElem? h1) m n (reps_tupD r q1) (reps_tupD r h2)
/-- what sorted gives -/
theorem sorted_reps {w : Wd} {S : Store} {H : Hp} (r : WR T w S H) {ns : List (List Int)} {vs ys : List V} (hok : sortOk ns = true) (hr : Reps T w (ns.map tupD) vs) (hp : ys.Perm vs) (hs : ys.Pairwise (fun x y => ∀ n m, TupI T.K H x n → TupI T.K H y m → TS.code codB n ≤ TS.code codB m)) :
    Reps T w ((srtT ns).map tupD) ys := by
  obtain ⟨es, h1, h2⟩ := reps_perm hp hr
  obtain ⟨ms, h3, h4⟩ := perm_lift tupD h1 ns rfl
  subst h4
  have h5 := reps_pairs r h2 hs
  have e : ms = srtT ns := by
    unfold sortOk at hok
    obtain ⟨_, hok⟩ := Bool.and_eq_true_iff.mp hok
    cases ns with
    | nil =>
      have := h3.eq_nil
      subst this
      simp [srtT]
    | cons n ns =>
      have hok : (decide (1 ≤ n.length) && (n :: ns).all (tupOk n.length)) = true := hok
      obtain ⟨_, hok⟩ := Bool.and_eq_true_iff.mp hok
      have all : ∀ x ∈ n :: ns, x.length = n.length ∧ TS.Bd codB x := fun x hx => tupOk_bd (List.all_eq_true.mp hok x hx)
      exact perm_eq (n := n.length) (fun x hx => all x (h3.mem_iff.mp hx)) (h3.trans (srtT_perm _).symm) h5 (srtT_sorted _)
  rw [← e]
  exact h2
theorem sortOk_tups {w : Wd} {S : Store} {H : Hp} (r : WR T w S H) {ns : List (List Int)} {vs : List V} (hok : sortOk ns = true) (hr : Reps T w (ns.map tupD) vs) : vs.length < 64 ∧ ∃ d, 1 ≤ d ∧ ∀ x ∈ vs, ∃ n, TupI T.K H x n ∧ n.length = d ∧ TS.Bd codB n := by
  unfold sortOk at hok
  obtain ⟨h64, hok⟩ := Bool.and_eq_true_iff.mp hok
  refine ⟨by rw [← hr.length, List.length_map]; exact of_decide_eq_true h64, ?_⟩
  have key : ∀ {l : List (List Int)} {us : List V} {n : Nat}, Reps T w (l.map tupD) us → l.all (tupOk n) = true → ∀ x ∈ us, ∃ m, TupI T.K H x m ∧ m.length = n ∧ TS.Bd codB m := by
    intro l
    induction l with
    | nil => intro us n q _ x hx; cases q; cases hx
    | cons m l ih =>
      intro us n q hl x hx
      obtain ⟨l1, l2⟩ := Bool.and_eq_true_iff.mp (show (tupOk n m && l.all (tupOk n)) = true from hl)
      cases q with
      | cons q1 q2 =>
        rcases List.mem_cons.mp hx with e | hx
        · subst e
          obtain ⟨b1, b2⟩ := tupOk_bd l1
          exact ⟨m, reps_tupD r q1, b1, b2⟩
        · exact ih q2 l2 x hx
  cases ns with
  | nil =>
    cases hr
    exact ⟨1, Nat.le_refl _, fun x hx => by cases hx⟩
  | cons n ns =>
    have hok : (decide (1 ≤ n.length) && (n :: ns).all (tupOk n.length)) = true := hok
    obtain ⟨h1, hok⟩ := Bool.and_eq_true_iff.mp hok
    exact ⟨n.length, of_decide_eq_true h1, key hr hok⟩
def bSorted : List D → Option D
  | [.lst l] => (dTups l).bind bSortL
  | [.tup l] => (dTups l).bind bSortL
  | _ => none
def rSorted (K : PySem.W.Frag) : List V → Hp → VK → Prop := fun vs H Q => ∃ d, 1 ≤ d ∧ rSortAny K d codB vs H Q
theorem call_sorted' : CallR X (.builtin "sorted") (rSorted X.K) := fun pins s σ H vs us Q I r ⟨_, hd, h⟩ => call_sortAny hd pins s σ H vs us Q I r h
theorem bo_sorted : BOk T (rSorted T.K) bSorted := fun w S xs vs H d Q r p h k => by
  have key : ∀ {l : List D} {a : Addr} {us : List V}, (SqL T.K H a us ∨ SqT T.K H a us) → Reps T w l us → (dTups l).bind bSortL = some d → rSorted T.K [V.ref a] H Q := by
    intro l a us hs hr h
    cases z : dTups l with
    | none => rw [z] at h; cases h
    | some ns =>
      rw [z] at h
      have h : bSortL ns = some d := h
      unfold bSortL at h
      split at h
      · rename_i hok
        cases h
        rw [dTups_eq z] at hr
        obtain ⟨h64, dd, hd, hx⟩ := sortOk_tups r hok hr
        refine ⟨dd, hd, a, us, rfl, hs, h64, hx, fun ys p hp hq hpn => ?_⟩
        have z2 := sorted_reps r hok hr hp hq
        obtain ⟨l1, r1⟩ := r.new hpn (.lst ys)
        exact k _ _ _ l1 r1 (.lst upd_same (z2.mono l1))
      · cases h
  unfold bSorted at h
  split at h
  · obtain ⟨v, rfl, p2⟩ := reps_one p
    cases p2 with
    | lst q1 q2 => exact key (.inl (.inl (.inl (r.sub _ _ q1)))) q2 h
  · obtain ⟨v, rfl, p2⟩ := reps_one p
    cases p2 with
    | tup q1 q2 => exact key (.inr (sqt_sub r q1)) q2 h
  · cases h
/-! ### a dict with keys of ints: made, put, looked up, its keys sorted -/
def eDctT : EX := fun _ S => .ok (.ref S.length) (S ++ [.dcT []])
theorem ie_dctT : IE T E X (.Dict [] [] pos) eDctT := PE.mono pe_dnewT fun σ H Q ⟨w, env, S, r, e, q⟩ => fun p hp => by
  obtain ⟨l, r', at_⟩ := r.alloc (o := .dT []) (c := .dcT []) hp ⟨[], upd_same, rfl, .nil⟩
  exact (show ∀ w' H' v, w.le w' → WR T w' (S ++ [.dcT []]) H' → Rep T w' (.ref S.length) v → Q v H' from q) _ _ _ l r' (.ref at_)
def putL (l : List (List Int × D)) (k : List Int) (v : D) : List (List Int × D) :=
  if (l.any fun p => decide (p.1 = k)) = true then l.map (fun p => if p.1 = k then (p.1, v) else p) else l ++ [(k, v)]
def getL (l : List (List Int × D)) (k : List Int) : Option D := (l.find? fun p => decide (p.1 = k)).map (·.2)
theorem inl_inj {a b : List Int} : (a.map Sum.inl : List Key) = b.map Sum.inl ↔ a = b := by
  constructor
  · intro h
    induction a generalizing b with
    | nil => cases b with
      | nil => rfl
      | cons _ _ => cases h
    | cons x a ih => cases b with
      | nil => cases h
      | cons y b =>
        rw [List.map_cons, List.map_cons] at h
        injection h with h1 h2
        injection h1 with h1
        rw [h1, ih h2]
  · rintro rfl; rfl
theorem put_repT {w : Wd} {k : List Int} {d : D} {v : V} (q : Rep T w d v) : ∀ {l : List (List Int × D)} {kvs : List (List Key × V)}, kvs.map (·.1) = l.map (fun p => p.1.map Sum.inl) → Reps T w (l.map (·.2)) (kvs.map (·.2)) →
    (putK kvs (k.map Sum.inl) v).map (·.1) = (putL l k d).map (fun p => p.1.map Sum.inl) ∧ Reps T w ((putL l k d).map (·.2)) ((putK kvs (k.map Sum.inl) v).map (·.2)) := by
  intro l kvs h1 h2
  have hany : (kvs.any fun kv => decide (kv.1 = k.map Sum.inl)) = l.any fun p => decide (p.1 = k) := by
    have e1 : (kvs.any fun kv => decide (kv.1 = k.map Sum.inl)) = (kvs.map (·.1)).any fun z => decide (z = k.map Sum.inl) := by rw [List.any_map]; rfl
    rw [e1, h1, List.any_map]
    congr 1
    funext p
    show decide (p.1.map Sum.inl = k.map Sum.inl) = decide (p.1 = k)
    simp only [inl_inj]
  unfold putK putL
  rw [hany]
  by_cases c : (l.any fun p => decide (p.1 = k)) = true
  · rw [if_pos c, if_pos c]
    have key : ∀ {l : List (List Int × D)} {kvs : List (List Key × V)}, kvs.map (·.1) = l.map (fun p => p.1.map Sum.inl) → Reps T w (l.map (·.2)) (kvs.map (·.2)) →
        (kvs.map (fun kv => if kv.1 = k.map Sum.inl then (kv.1, v) else kv)).map (·.1) = (l.map (fun p => if p.1 = k then (p.1, d) else p)).map (fun p => p.1.map Sum.inl) ∧
        Reps T w ((l.map (fun p => if p.1 = k then (p.1, d) else p)).map (·.2)) ((kvs.map (fun kv => if kv.1 = k.map Sum.inl then (kv.1, v) else kv)).map (·.2)) := by
      intro l
      induction l with
      | nil =>
        intro kvs h1 h2
        cases kvs with
        | nil => exact ⟨rfl, .nil⟩
        | cons _ _ => cases h1
      | cons p l ih =>
        intro kvs h1 h2
        cases kvs with
        | nil => cases h1
        | cons kv kvs =>
          have h1' : kv.1 :: kvs.map (·.1) = p.1.map Sum.inl :: l.map (fun p => p.1.map Sum.inl) := h1
          injection h1' with a1 a2
          have h2' : Reps T w (p.2 :: l.map (·.2)) (kv.2 :: kvs.map (·.2)) := h2
          cases h2' with
          | cons b1 b2 =>
            obtain ⟨i1, i2⟩ := ih a2 b2
            rw [List.map_cons, List.map_cons, List.map_cons, List.map_cons, List.map_cons, List.map_cons, i1]
            by_cases hk : p.1 = k
            · have hk2 : kv.1 = k.map Sum.inl := by rw [a1, hk]
              rw [if_pos hk, if_pos hk2]
              exact ⟨by rw [a1], .cons q i2⟩
            · have hk2 : ¬ kv.1 = k.map Sum.inl := fun z => hk (inl_inj.mp (a1.symm.trans z))
              rw [if_neg hk, if_neg hk2]
              exact ⟨by rw [a1], .cons b1 i2⟩
    exact key h1 h2
  · rw [if_neg c, if_neg c]
    rw [List.map_append, List.map_append, List.map_append, List.map_append, h1]
    exact ⟨rfl, h2.append (.cons q .nil)⟩
theorem get_repT {w : Wd} {k : List Int} {d : D} : ∀ {l : List (List Int × D)} {kvs : List (List Key × V)}, kvs.map (·.1) = l.map (fun p => p.1.map Sum.inl) → Reps T w (l.map (·.2)) (kvs.map (·.2)) → getL l k = some d → ∃ v, valV kvs (k.map Sum.inl) = some v ∧ Rep T w d v := by
  intro l
  induction l with
  | nil => intro kvs h1 h2 h3; cases h3
  | cons p l ih =>
    intro kvs h1 h2 h3
    cases kvs with
    | nil => cases h1
    | cons kv kvs =>
      have h1' : kv.1 :: kvs.map (·.1) = p.1.map Sum.inl :: l.map (fun p => p.1.map Sum.inl) := h1
      injection h1' with a1 a2
      have h2' : Reps T w (p.2 :: l.map (·.2)) (kv.2 :: kvs.map (·.2)) := h2
      cases h2' with
      | cons b1 b2 =>
        unfold getL at h3
        unfold valV
        rw [List.find?_cons] at h3 ⊢
        by_cases hk : p.1 = k
        · have hk2 : kv.1 = k.map Sum.inl := by rw [a1, hk]
          rw [decide_eq_true hk] at h3
          rw [decide_eq_true hk2]
          cases h3
          exact ⟨kv.2, rfl, b1⟩
        · have hk2 : ¬ kv.1 = k.map Sum.inl := fun z => hk (inl_inj.mp (a1.symm.trans z))
          rw [decide_eq_false hk] at h3
          rw [decide_eq_false hk2]
          exact ih a2 b2 h3
theorem kV_inl (k : List Int) : (k.map Sum.inl : List Key).map kV = k.map V.int := by rw [List.map_map]; rfl
/-- d[k, ..] = v -/
def sPutT (o : EX) (ks : AX) (v : EX) : ES := fun env S => (v env S).bnd fun z S1 => (o env S1).bnd fun x S2 => (ks env S2).bnd fun ys S3 => match x, dInts ys with
  | .ref n, some k => (match S3[n]? with
    | some (.dcT l) => if l.length < LINE ∧ ys.length ≤ LINE then .ok (.nx env) (S3.set n (.dcT (putL l k z))) else .bad
    | _ => .bad)
  | _, _ => .bad
theorem is_putT {ks : List Expr} {kk : Nat} {p2 pos' : Pos} {fk : AX} (hu : X.A.units + 1 < cLine) (hv : IE T E X c h) (ho : IE T E X a f) (hi : IA T E X ks fk) (hs : swapsWithSole [.Subscript a (.Tuple ks kk p2) pos'] c pos.line X.env = pure false := by rfl) (hw : swappedStores [.Subscript a (.Tuple ks kk p2) pos'] c X.env = pure none := by rfl)
    (h1 : (assignEach [.Subscript a (.Tuple ks kk p2) pos'] X.env).map (·.2) = [assign (.Subscript a (.Tuple ks kk p2) pos') X.env] := by rfl)
    (hasg : ∀ v, assign (.Subscript a (.Tuple ks kk p2) pos') X.env v = (do
      let ov ← holding [v] (eval a X.env)
      let iv ← holding [v, ov] (eval (.Tuple ks kk p2) X.env)
      standAt pos'
      holding [v, ov, iv] (setItem ov iv v)
      release [v, ov, iv] []) := by intro _; rfl) : IS T E X (.Assign [.Subscript a (.Tuple ks kk p2) pos'] c pos) (sPutT f fk h) :=
  PS.mono (ps_asg hv (pg_sub ho (pe_tup hi) (set_dict hu) hasg) hs hw h1) fun D σ H ⟨w, env, S, r, e, q⟩ => ⟨w, env, S, r, e, (RP.bnd q).mono (fun z S1 h1 w1 H1 zv l1 r1 p1 => ⟨w1, env, S1, r1, e.mono l1, (RP.bnd h1).mono (fun x S2 h2 w2 H2 xv l2 r2 p2 => ⟨w2, env, S2, r2, (e.mono l1).mono l2, (RP.bnd h2).mono (fun ys S3 h3 w3 H3 yv l3 r3 p3 => by
    split at h3
    · rename_i n k hk
      split at h3
      · rename_i l hS
        split at h3
        · rename_i hl
          have e3 := reps_ints p3 hk
          subst e3
          cases (p2.mono l3) with
          | ref hn =>
            rename_i ad
            obtain ⟨kvs, c1, c2, c3⟩ := r3.cell n _ _ hS hn
            have hlen : kvs.length = l.length := by
              have z := congrArg List.length c2
              rwa [List.length_map, List.length_map] at z
            refine ⟨by rw [sizeLine_eq, ← p3.length]; exact hl.2, fun p hp => ?_⟩
            obtain ⟨l4, r4⟩ := r3.new hp (.tup (k.map V.int))
            have hne : ad ≠ p := fun z => by rw [z, hp] at c1; cases c1
            have c1' : upd H3 p (.tup (k.map V.int)) ad = some (.dT kvs) := by rw [upd_ne hne]; exact c1
            obtain ⟨u1, u2⟩ := put_repT (T := T) (w := w3) (k := k) ((p1.mono l2).mono l3) c2 c3
            have lt := ((l1.trans l2).trans l3).trans l4
            refine ⟨ad, _, rfl, DPut.t (k := k.map Sum.inl) c1' (by rw [kV_inl]; exact upd_same) (by rw [hlen, sizeLine_eq]; exact hl.1), ?_⟩
            exact h3 _ _ σ lt (r4.write hS hn (by intro z; cases z) ⟨_, upd_same, u1, u2.mono l4⟩) (e.mono lt)
        · exact (show False from h3).elim
      · exact (show False from h3).elim
    · exact (show False from h3).elim) fun _ _ _ x => x.le (l1.trans l2)⟩) fun _ _ _ x => x.le l1⟩) fun _ _ _ x => x⟩
end Ro
end

section
set_option Elab.async false
set_option linter.all false
set_option maxRecDepth 100000
set_option maxHeartbeats 4000000
namespace Ro
open PySem PySem.Spec PyProof.Rows L2
variable {T : Tb} {E : XK} {X : Cx} {a b c e : Expr} {es : List Expr} {f g h : EX} {fa ga fk : AX} {fb gb : BX} {pos : Pos} {st : Stmt} {sts rest : List Stmt} {s t : ES}
/-! ### d[k] -/
def rIxT' (K : PySem.W.Frag) : R2 := fun x y H Q => ∃ (a b : Addr) (kvs : List (List Key × V)) (k : List Int) (v : V), x = .ref a ∧ y = .ref b ∧ H a = some (.dT kvs) ∧ SqT K H b (k.map V.int) ∧ valV kvs (k.map Sum.inl) = some v ∧ Q v H
theorem ix_dT (hu : X.A.units + 1 < cLine) : IxR X (rIxT' X.K) := by
  intro value slice pins s σ H x y v u Q I rx ry h hs
  obtain ⟨a, b, kvs, k, r, rfl, rfl, ha, hb, hv, q⟩ := h
  obtain rfl : v = Value.ref a := rx
  obtain rfl : u = Value.ref b := ry
  obtain ⟨its, rv, ⟨o, ho, hc, n, hd⟩, _⟩ := I.tuple hb
  rw [← kV_inl] at rv
  have key : (tupleKind (mixKind X.prog X.w)).is s.heap (k.map Sum.inl) b := ⟨o, its.toArray, n, ho, hc, hd, by simpa using items_are (P := X.prog) (w := X.w) rv⟩
  obtain ⟨z, hsy, xs, rel, dd⟩ := dt_of I.hok ha
  obtain ⟨w', hw, rw'⟩ := RelO.some_of (v := r) (o := (atKey xs (k.map Sum.inl)).map (·.2)) (by rw [← hv]; exact rel.val _)
  obtain ⟨p, hp, hp2⟩ := Option.map_eq_some_iff.mp hw
  have ty : s.TypeIs (.ref a) "dict" := by
    obtain ⟨o2, es2, ep2, h1, h2, _⟩ := dd
    exact ⟨o2, h1, h2.1⟩
  refine tail_any ty slot_dict_getitem.lookup (wpAny_getItem_heap (tupleKind_room_in1 hu) key dd hp ?_) hs
  rw [hp2]
  exact ⟨r, H, I.tok _, rw', q⟩
def idxT (x y : D) (S : Store) : Option D := match x, y with
  | .ref n, .tup m => (match S[n]? with
    | some (.dcT l) => (dInts m).bind (getL l)
    | _ => none)
  | _, _ => none
def eIdxT (a b : EX) : EX := fun env S => (a env S).bnd fun x S1 => (b env S1).bnd fun y S2 => lift (idxT x y S2) S2
theorem ie_idxT (hK : X.K = T.K) (hu : X.A.units + 1 < cLine) (ha : IE T E X a f) (hb : IE T E X b g) (hs : PlainIx b := by exact fun _ _ => rfl) : IE T E X (.Subscript a b pos) (eIdxT f g) :=
  PE.mono (pe_ix (ix_dT hu) ha hb hs) fun σ H Q q => by
    have q2 := tI_two (k := fun x y S => lift (idxT x y S) S) q
    obtain ⟨w, env, S, r, e, h⟩ := q2
    refine ⟨w, env, S, r, e, h.mono (fun d S1 h1 w1 H1 x l1 r1 p1 => ?_) fun _ _ _ x => x⟩
    obtain ⟨w2, env2, S2, r2, e2, h2⟩ := h1 w1 H1 x l1 r1 p1
    refine ⟨w2, env2, S2, r2, e2, h2.mono (fun d S1 h1 w1 H1 x l1 r1 p1 => ?_) fun _ _ _ x => x⟩
    obtain ⟨w3, d3, e3, S3, r3, p3, q3, h3⟩ := h1 w1 H1 x l1 r1 p1
    cases z : idxT d3 e3 S3 with
    | none => rw [z] at h3; exact (show False from h3).elim
    | some y =>
      rw [z] at h3
      unfold idxT at z
      split at z
      · rename_i n m
        split at z
        · rename_i l hS
          cases z2 : dInts m with
          | none => rw [z2] at z; cases z
          | some k =>
            rw [z2] at z
            cases p3 with
            | ref hn =>
              cases q3 with
              | tup q4 q5 =>
                obtain ⟨kvs, c1, c2, c3⟩ := r3.cell n _ _ hS hn
                obtain ⟨v, a1, a2⟩ := get_repT c2 c3 z
                have e5 := reps_ints q5 z2
                subst e5
                exact ⟨_, _, kvs, k, v, rfl, rfl, c1, by rw [hK]; exact sqt_sub r3 q4, a1, h3 w3 _ _ (Wd.le.refl _) r3 a2⟩
        · cases z
      · cases z
/-- any of them -/
def idxB (x y : D) (S : Store) : Option D := match x with
  | .ref n => (match y with
    | .tup m => idxT x y S
    | _ => idxM x y S)
  | _ => idxD x y
def eIdxB (a b : EX) : EX := fun env S => (a env S).bnd fun x S1 => (b env S1).bnd fun y S2 => lift (idxB x y S2) S2
theorem ie_idxB (hK : X.K = T.K) (hu : X.A.units + 1 < cLine) (ha : IE T E X a f) (hb : IE T E X b g) (hs : PlainIx b := by exact fun _ _ => rfl) : IE T E X (.Subscript a b pos) (eIdxB f g) :=
  PE.byOk (ie_idxA hK ha hb hs) (ie_idxT hK hu ha hb hs) fun env S => by
    unfold eIdxB eIdxA eIdxT
    cases z : f env S with
    | ok x S1 =>
      rw [bnd_ok, bnd_ok, bnd_ok]
      cases z2 : g env S1 with
      | ok y S2 =>
        rw [bnd_ok, bnd_ok, bnd_ok]
        cases x with
        | ref n => cases y with
          | tup m => exact .inr rfl
          | _ => exact .inl rfl
        | _ => exact .inl rfl
      | err c fs S2 => exact .inl rfl
      | bad => exact .inl rfl
    | err c fs S1 => exact .inl rfl
    | bad => exact .inl rfl
/-! ### sorted(d) -/
theorem WR.addTup {w : Wd} {S : Store} {H : Hp} (r : WR T w S H) {p : Addr} {vs : List V} {ds : List D} (hp : H p = some (.tup vs)) (q : Reps T w ds vs) : ∃ w', w.le w' ∧ WR T w' S H ∧ Rep T w' (.tup ds) (.ref p) := by
  cases z : w.G p with
  | some o =>
    have e := r.sub _ _ z
    rw [hp] at e
    cases e
    exact ⟨w, Wd.le.refl _, r, .tup (.inl (.inl z)) q⟩
  | none =>
    have l : w.le ⟨upd w.G p (.tup vs), w.am, w.hid⟩ := ⟨⟨fun b u e => by show upd w.G p (.tup vs) b = some u; rw [upd_ne (ne_of_none e z)]; exact e, [], by simp⟩, rfl⟩
    refine ⟨_, l, ⟨fun b u e => ?_, r.len, r.nd, r.has, fun m c1 b h1 h2 h3 => ?_, fun m c1 b h1 h2 => (r.cell m c1 b h1 h2).keep l.tosb fun _ e => e, r.tabs, r.hn, fun q hq => ?_⟩, .tup (.inl (.inl upd_same)) (q.mono l)⟩
    · have e : upd w.G p (.tup vs) b = some u := e
      by_cases h : b = p
      · subst h
        rw [upd_same] at e
        rw [← e]
        exact hp
      · rw [upd_ne h] at e
        exact r.sub _ _ e
    · show upd w.G p (.tup vs) b = none
      rw [upd_ne (fun z => ?_)]
      · exact r.out m c1 b h1 h2 h3
      · subst z
        have hc := r.cell m c1 _ h1 h2
        cases c1 with
        | dead => exact h3 rfl
        | lst l => obtain ⟨_, k1, _⟩ := hc; rw [hp] at k1; cases k1
        | dct l => obtain ⟨_, k1, _⟩ := hc; rw [hp] at k1; cases k1
        | ins c fs => obtain ⟨_, _, k1, _⟩ := hc; rw [hp] at k1; cases k1
        | dcT l => obtain ⟨_, k1, _⟩ := hc; rw [hp] at k1; cases k1
    · obtain ⟨y1, y2, us, y3, y4⟩ := r.hd q hq
      refine ⟨?_, y2, us, y3, y4.mono l⟩
      show upd w.G p (.tup vs) q.1 = none
      rw [upd_ne (fun z => by rw [z, hp] at y3; cases y3)]
      exact y1
theorem addKeys {S : Store} {H : Hp} : ∀ {kvs : List (List Key × V)} {bs : List Addr} {l : List (List Int × D)} {w : Wd}, WR T w S H → IsKeys H kvs bs → kvs.map (·.1) = l.map (fun p => p.1.map Sum.inl) →
    ∃ w', w.le w' ∧ WR T w' S H ∧ Reps T w' ((l.map (·.1)).map tupD) (bs.map V.ref) := by
  intro kvs bs l w r hk
  unfold IsKeys at hk
  induction hk generalizing l w with
  | nil =>
    intro e
    cases l with
    | nil => exact ⟨w, Wd.le.refl _, r, .nil⟩
    | cons _ _ => cases e
  | @cons p b ps qs h1 h2 ih =>
    intro e
    cases l with
    | nil => cases e
    | cons q l =>
      have e : p.1 :: ps.map (·.1) = q.1.map Sum.inl :: l.map (fun p => p.1.map Sum.inl) := e
      injection e with e1 e2
      have reps : ∀ (w : Wd) (k : List Int), Reps T w (k.map D.int) (k.map V.int) := fun w k => by
        induction k with
        | nil => exact .nil
        | cons x k ih => exact .cons (.int x) ih
      have h1 : H b = some (.tup (q.1.map V.int)) := by rw [← kV_inl, ← e1]; exact h1
      obtain ⟨w1, l1, r1, p1⟩ := r.addTup h1 (reps w q.1)
      obtain ⟨w2, l2, r2, p2⟩ := ih r1 e2
      exact ⟨w2, l1.trans l2, r2, .cons (p1.mono l2) p2⟩
def rSortDT (K : PySem.W.Frag) : List V → Hp → VK → Prop := fun vs H Q => ∃ (a : Addr) (kvs : List (List Key × V)) (d : Nat) (ks : List (List Int)), vs = [V.ref a] ∧ H a = some (.dT kvs) ∧ kvs.map (·.1) = ks.map (fun k => k.map Sum.inl) ∧ kvs.length < 64 ∧ 1 ≤ d ∧ (∀ k ∈ ks, k.length = d ∧ TS.Bd codB k) ∧
  ∀ (bs : List Addr) (ys : List V) (p : Addr), IsKeys H kvs bs → ys.Perm (bs.map V.ref) → ys.Pairwise (fun x y => ∀ n m, TupI K H x n → TupI K H y m → TS.code codB n ≤ TS.code codB m) → H p = none → Q (.ref p) (upd H p (.lst ys))
theorem isKeys_tups {K : PySem.W.Frag} {H : Hp} {d : Nat} {kvs : List (List Key × V)} {bs : List Addr} (hk : IsKeys H kvs bs) : ∀ {ks : List (List Int)}, kvs.map (·.1) = ks.map (fun k => k.map Sum.inl) → (∀ k ∈ ks, k.length = d ∧ TS.Bd codB k) → ∀ x ∈ bs.map V.ref, ∃ n, TupI K H x n ∧ n.length = d ∧ TS.Bd codB n := by
  unfold IsKeys at hk
  induction hk with
  | nil => intro ks _ _ x hx; cases hx
  | @cons p b ps qs h1 h2 ih =>
    intro ks e hks x hx
    cases ks with
    | nil => cases e
    | cons k ks =>
      have e : p.1 :: ps.map (·.1) = k.map Sum.inl :: ks.map (fun k => k.map Sum.inl) := e
      injection e with e1 e2
      rcases List.mem_cons.mp hx with z | z
      · subst z
        obtain ⟨k1, k2⟩ := hks k (by simp)
        refine ⟨k, ⟨b, rfl, .inl (.inl ?_)⟩, k1, k2⟩
        rw [← kV_inl, ← e1]
        exact h1
      · exact ih e2 (fun k' hk' => hks k' (by simp [hk'])) x z
theorem call_sortDT (hc : X.calm = true) : CallR X (.builtin "sorted") (rSortDT X.K) := by
  intro pins s σ H vs us Q I r h
  obtain ⟨a, kvs, d, ks, rfl, ha, hks, h64, hd, hb, q⟩ := h
  obtain ⟨u, rfl, ru⟩ := Vals.one r
  obtain rfl : u = Value.ref a := ru
  obtain ⟨z, hs, es, pr, o, ens, ep, ho, hx, hdt, he, hn⟩ := (show ObjOk X.prog X.w H s.heap a (.dT kvs) from I.hok a _ ha)
  have l1 : ens.size = es.length := size_of_entries he
  have l2 : kvs.length = es.length := Paired.length pr
  have keys := isKeys_of pr
  have rv : Vals ((es.map fun x => x.2.1).map V.ref) ((es.map fun x => x.2.1).map Value.ref) := vals_refs _
  refine sortVals (d := d) (B := codB) I rv (by rw [List.length_map, List.length_map]; omega) hd (isKeys_tups keys hks hb) (fun R k => ?_) (fun ys p hp hq hpn => q _ ys p keys hp hq hpn)
  refine PySem.W.kdu_collect (A := X.A.in1) (kdl_raw hs hx hdt) (I.ok.hd hc) ho (by omega) fun h' tk acc kp it => ?_
  have ea : acc.toList = (es.map fun x => x.2.1).map Value.ref := by
    have hl : acc.toList.length = es.length := by rw [Array.length_toList, it.1]; exact l1
    rw [List.map_map]
    apply List.ext_getElem?
    intro j
    rw [List.getElem?_map]
    by_cases hj : j < es.length
    · have hj2 : j < acc.toList.length := by omega
      obtain ⟨en, hen, hv⟩ := it.2 j acc.toList[j] (by rw [← Array.getElem?_toList]; exact List.getElem?_eq_getElem hj2)
      have qe := entry_at he j
      rw [hen, List.getElem?_eq_getElem hj] at qe
      have e2 : en = entryOfKey (tupleKind (mixKind X.prog X.w)) es[j] := Option.some.inj qe
      rw [List.getElem?_eq_getElem hj2, List.getElem?_eq_getElem hj, hv, e2]
      rfl
    · rw [List.getElem?_eq_none (by omega), List.getElem?_eq_none (by omega)]
      rfl
  rw [ea]
  exact k h' tk kp
/-- sorted, also of such a dict -/
def eSorted (fa : AX) : EX := fun env S => (fa env S).bnd fun xs S1 => match xs with
  | [.ref n] => (match S1[n]? with
    | some (.dcT l) => lift (bSortL (l.map (·.1))) S1
    | _ => .bad)
  | _ => lift (bSorted xs) S1
theorem rp_ref {xs : List D} {S1 : Store} {Pk : D → Store → Prop} {Pe : String → List D → Store → Prop} (h : ¬ ∃ n, xs = [.ref n]) (q : RP (match xs with
  | [.ref n] => (match S1[n]? with
    | some (.dcT l) => lift (bSortL (l.map (·.1))) S1
    | _ => .bad)
  | _ => lift (bSorted xs) S1) Pk Pe) : RP (lift (bSorted xs) S1) Pk Pe := by
  split at q
  · exact absurd ⟨_, rfl⟩ h
  · exact q
def rSortE (K : PySem.W.Frag) : List V → Hp → VK → Prop := fun vs H Q => rSorted K vs H Q ∨ rSortDT K vs H Q
theorem call_sortE (hc : X.calm = true) : CallR X (.builtin "sorted") (rSortE X.K) := fun pins s σ H vs us Q I r h => h.elim (call_sorted' pins s σ H vs us Q I r) (call_sortDT hc pins s σ H vs us Q I r)
theorem ie_sorted {x : Str} {p : Pos} (hK : X.K = T.K) (hc : X.calm = true) (hg : Gl X x) (hn : X.mg x = none) (hv : bootBuiltins x = some (.builtin "sorted")) (ha : IA T E X [a] fa) (hx : x ≠ "__name__" := by decide +kernel) (hdb : (x == ("__debug__" : Str)) = false := by decide +kernel)
    (he : starEach [a] X.env = (false, eval a X.env) :: starEach [] X.env := by rfl) (hpl : (backTo pos (starEach [] X.env)).any (·.1) = false := by rfl) : IE T E X (.Call (.Name x p) [a] [] pos) (eSorted fa) :=
  PE.mono (pe_callB (call_sortE hc) hg hn hv ha hx hdb he hpl) fun σ H Q ⟨w, env, S, r0, e, q⟩ => ⟨w, env, S, r0, e, (RP.bnd q).mono (fun xs S1 h1 w1 H1 vs l1 r1 p1 => by
    rw [hK]
    by_cases hr : ∃ n, xs = [.ref n]
    · obtain ⟨n, rfl⟩ := hr
      right
      dsimp only at h1
      split at h1
      · rename_i l hS
        cases z : bSortL (l.map (·.1)) with
        | none => rw [z] at h1; exact (show False from h1).elim
        | some d =>
          rw [z] at h1
          unfold bSortL at z
          split at z
          · rename_i hok
            cases z
            obtain ⟨v, rfl, p2⟩ := reps_one p1
            cases p2 with
            | ref hn2 =>
              obtain ⟨kvs, c1, c2, c3⟩ := r1.cell n _ _ hS hn2
              have hlen : kvs.length = (l.map (·.1)).length := by
                have z := congrArg List.length c2
                rw [List.length_map, List.length_map] at z
                rw [List.length_map]
                exact z
              have c2' : kvs.map (·.1) = (l.map (·.1)).map (fun k => k.map Sum.inl) := by rw [c2, List.map_map]; rfl
              have hok2 := hok
              unfold sortOk at hok2
              obtain ⟨h64, hok2⟩ := Bool.and_eq_true_iff.mp hok2
              have fin : ∀ (bs : List Addr) (ys : List V) (p : Addr), IsKeys H1 kvs bs → ys.Perm (bs.map V.ref) → ys.Pairwise (fun x y => ∀ n m, TupI T.K H1 x n → TupI T.K H1 y m → TS.code codB n ≤ TS.code codB m) → H1 p = none → Q (.ref p) (upd H1 p (.lst ys)) := fun bs ys p hk hp hq hpn => by
                obtain ⟨w2, l2, r2, p3⟩ := addKeys r1 hk c2
                have z2 := sorted_reps r2 hok p3 hp hq
                obtain ⟨l3, r3⟩ := r2.new hpn (.lst ys)
                exact h1 _ _ _ ((l1.trans l2).trans l3) r3 (.lst upd_same (z2.mono l3))
              generalize hks : l.map (·.1) = ks at *
              cases ks with
              | nil => exact ⟨_, kvs, 1, [], rfl, c1, c2', by rw [hlen]; exact of_decide_eq_true h64, Nat.le_refl _, fun k hk => (by cases hk), fin⟩
              | cons k ks =>
                have hok2 : (decide (1 ≤ k.length) && (k :: ks).all (tupOk k.length)) = true := hok2
                obtain ⟨h1', hok2⟩ := Bool.and_eq_true_iff.mp hok2
                exact ⟨_, kvs, k.length, k :: ks, rfl, c1, c2', by rw [hlen]; exact of_decide_eq_true h64, of_decide_eq_true h1', fun k' hk' => tupOk_bd (List.all_eq_true.mp hok2 k' hk'), fin⟩
          · cases z
      · exact (show False from h1).elim
    · left
      have h2 := rp_ref hr h1
      cases z : bSorted xs with
      | none => rw [z] at h2; exact (show False from h2).elim
      | some d =>
        rw [z] at h2
        exact bo_sorted w1 S1 xs vs H1 d Q r1 p1 z fun w' H' v l => h2 w' H' v (l1.trans l)) fun _ _ _ x => x⟩
/-! ### range with a step -/
def itR3 (fa : AX) : AX := fun env S => (fa env S).bnd fun ds S1 => match ds with
  | [.int i, .int j, .int c] => if c ≠ 0 ∧ c.natAbs < 1073741824 ∧ Builtin.Range.small i j c = true ∧ 0 ≤ Builtin.Range.rangeSize i j c then .ok ((List.range (Builtin.Range.rangeSize i j c).toNat).map fun k : Nat => D.int (i + (k : Int) * c)) S1 else .bad
  | _ => .bad
theorem itR_rngC {w : Wd} {lo c : Int} {n : Nat} : ItR T w ((List.range n).map fun k : Nat => D.int (lo + (k : Int) * c)) (Itc lo c n) where
  goS := fun i H w' S l1 r1 hi => by
    have hi : i < n := by simpa using hi
    exact hi
  stopS := fun i H w' S l1 r1 hi => by
    have hi : n ≤ i := by simpa using hi
    exact hi
  yldS := fun i H x H' w' S d l1 r1 hd y => by
    obtain ⟨rfl, rfl⟩ := y
    rw [List.getElem?_map] at hd
    cases z : (List.range n)[i]? with
    | none => rw [z] at hd; cases hd
    | some k =>
      rw [z] at hd
      obtain ⟨hl, e⟩ := List.getElem?_eq_some_iff.mp z
      rw [List.getElem_range] at e
      subst e
      cases hd
      exact ⟨w', Wd.le.refl _, r1, .int _⟩
theorem ii_r3 {tg : Expr} {p : Pos} (hg : Gl X "range") (hm : X.mg "range" = none) (ha : IA T E X [a, b, c] fa) (hs : starEach [a, b, c] X.env = (false, eval a X.env) :: starEach [b, c] X.env := by rfl) (hpl : (backTo pos (starEach [b, c] X.env)).any (·.1) = false := by rfl) : II T E X tg (.Call (.Name "range" p) [a, b, c] [] pos) (itR3 fa) :=
  PI.mono (pi_range3 hg hm ha hs hpl) fun σ H Rr ⟨w, env, S, r, e, q⟩ => ⟨w, env, S, r, e, (RP.bnd q).mono (fun ds S1 h1 w1 H1 v l1 r1 p1 => by
    split at h1
    · rename_i i j k
      obtain ⟨v1, v2, v3, rfl, p2, p3, p4⟩ := reps_three p1
      cases p2; cases p3; cases p4
      split at h1
      · rename_i hj
        exact ⟨i, j, k, _, rfl, ⟨hj.1, hj.2.1, hj.2.2.1, (Int.toNat_of_nonneg hj.2.2.2).symm⟩, h1 w1 H1 _ l1 r1 itR_rngC⟩
      · exact (show False from h1).elim
    · exact (show False from h1).elim) fun _ _ _ x => x⟩
end Ro
end

section
set_option Elab.async false
set_option linter.all false
set_option maxRecDepth 100000
set_option maxHeartbeats 4000000
namespace Ro
open PySem PySem.Spec PyProof.Rows L2
/-- the law's promise at the heap behind the top, where no repr is under way -/
theorem lawG {P : Program} {w : World} {T : Tb} {mg mb : Str → Option Value} {k : Nat} {fa a : Addr} {fd : FuncData} {x : Str} {m : Fn} {st : Shared} {vs : List Value} {ns : List Int} (hT : T.tabs = [])
    (inK : T.K.In st.heap) (hns : st.heap.Ns mainGlobals mg) (hbt : st.heap.Ns builtinsNs mb) (boot : ∀ x : Str, x ≠ "__name__" → mb x = bootBuiltins x) (lim : st.heap.NoLimit) (gens : st.gens = #[])
    (ha : st.heap.get? a = some { cls := .type "list", data := .seq vs.toArray }) (hi : IntsAre vs ns) (hl : ns.length ≤ sizeLine) (hr : RG k callerA)
    (F : ∀ base : Heap, T.K.In base → base.Ns mainGlobals mg → FnG P w T.K mg base k fa fd [x] (spI T 1 m)) (bind : ∀ (s : Shared) (u : Value), BindsTo s fd ⟨[u], []⟩ [(x, u)])
    (hm : ∃ S, m [.scr ns] [] = .ok (.bl true) S) :
    codeAny (model P w) callerA (.call (.ref fa) ⟨[.ref a], []⟩) (fun r s' => r = .ok (.ret (.bool true)) ∧ OldK st.heap s'.heap ∧ s'.os = st.os ∧ AllBare s'.gens) st := by
  have rv := vals_ints hi
  have lv := hi.length
  have from_ : ∀ H : Hp, Only H → SqL T.K H a (ns.map V.int) → HOk P w H st.heap → (∀ b, H b ≠ none → b = a) → (H a ≠ none → T.K.lookup a = none) →
      codeAny (model P w) callerA (.call (.ref fa) ⟨[.ref a], []⟩) (fun r s' => r = .ok (.ret (.bool true)) ∧ OldK st.heap s'.heap ∧ s'.os = st.os ∧ AllBare s'.gens) st := by
    intro H only sq ok sole away
    have untr : ∀ {b : Addr}, b ≠ a → H b = none := fun {b} hb => by
      cases z : H b with
      | none => rfl
      | some u => exact absurd (sole b (by rw [z]; simp)) hb
    have dictFree : ∀ {b : Addr} {o : Obj} {es : Array DictEntry} {ep : Nat}, st.heap.get? b = some o → o.data = .dict es ep → H b = none := fun {b o es ep} e d => untr fun z => by
      subst z
      rw [ha] at e
      cases e
      exact nomatch (show Data.seq vs.toArray _ = Data.dict es ep from d)
    have nsB : ∀ {b : Addr} {f : Str → Option Value}, st.heap.Ns b f → (hidT st.heap H).Ns b f := fun {b f} ⟨o, es, ep, e, d, r⟩ => ⟨o, es, ep, hidT_get e (dictFree e d), d, r⟩
    have inB : T.K.In (hidT st.heap H) := fun b o e => hidT_get (inK b o e) (by
      by_cases hb : b = a
      · subst hb
        cases z : H b with
        | none => rfl
        | some u => rw [away (by rw [z]; simp)] at e; cases e
      · exact untr hb)
    have md : Mod T.K mg (hidT st.heap H) := ⟨inB, nsB hns, ⟨mb, nsB hbt, boot⟩, let ⟨mc, h1, h2⟩ := lim; ⟨mc, nsB h1, h2⟩⟩
    have env0 : Env0 P w T.K mg (hidT st.heap H) callerA [] st H := ⟨rfl, md, fun b o e => of_hidT e, Nat.le_of_eq (hidT_size _ _), trivial, fun b hb => (by cases hb), ok, .of_eq gens⟩
    obtain ⟨S, hS⟩ := hm
    have wr : WR T ⟨H, [], []⟩ [] H := by
      refine ⟨fun _ _ h => h, rfl, List.nodup_nil, ?_, ?_, ?_, ?_, List.nodup_nil, ?_⟩
      · intro b hb; cases hb
      · intro n c b h; simp at h
      · intro n c b h; simp at h
      · rw [hT]; intro p hp; cases hp
      · intro p hp; cases hp
    have sp : spI T 1 m [.ref a] H (fun v _ => v = .bl true) (fun _ _ _ => False) := ⟨rfl, ⟨H, [], []⟩, [.scr ns], [], wr, .cons (.scr sq) .nil, by
      rw [hS]
      intro w' H' v _ _ p
      cases p
      rfl⟩
    refine codeAny_mono ((F _ inB (nsB hns)).run callerA [] st H ⟨[.ref a], []⟩ [.ref a] [.ref a] _ _ hr env0 (bind st (.ref a)) (.cons rfl .nil) sp) fun r s' h => ?_
    match r, h with
    | .error e, h =>
      obtain ⟨_, _, _, _, _, _, _, _, _, _, _, _, z⟩ := h
      exact z.elim
    | .ok (.ret u), h =>
      obtain ⟨v, H', os, bare, un, ok', r', q⟩ := h
      have q : v = .bl true := q
      subst q
      obtain rfl : u = Value.bool true := r'
      refine ⟨rfl, OldK.of_keep fun b o e => ?_, os, bare⟩
      rcases only b with z | ⟨ob, xs, z⟩
      · exact un.keep b o e z (by intro y; cases y) (by simp)
      · have z2 := un.frzs b ob _ z
        obtain ⟨e1, _⟩ := ok b _ z
        obtain ⟨e2, _⟩ := ok' b _ z2
        rw [e] at e1
        cases e1
        exact e2
  cases hk : T.K.lookup a with
  | some o =>
    have e := inK a o hk
    rw [ha] at e
    cases e
    exact from_ (fun _ => none) (fun _ => .inl rfl) (.inr ⟨_, vs.toArray, _, hk, rfl, rfl, rfl, by rw [List.size_toArray, lv]; exact hl, by simpa using rv⟩) (fun b u z => (by cases z)) (fun b z => absurd rfl z) fun z => absurd rfl z
  | none =>
    have hyes : ∀ {u : HO}, (fun b => if b = a then some u else none) a = some u := fun {u} => if_pos rfl
    have hno : ∀ {u : HO} {b : Addr}, b ≠ a → (fun b => if b = a then some u else none) b = none := fun {u b} hb => if_neg hb
    refine from_ (fun b => if b = a then some (.frz { cls := .type "list", data := .seq vs.toArray } (.lst (ns.map V.int))) else none) (fun b => ?_) (.inl (.inr ⟨_, hyes⟩)) (fun b u z => ?_) (fun b z => ?_) fun _ => hk
    · by_cases hb : b = a
      · subst hb; exact .inr ⟨_, _, hyes⟩
      · exact .inl (hno hb)
    · by_cases hb : b = a
      · subst hb
        have z := hyes.symm.trans z
        cases z
        exact ⟨ha, by rw [List.length_map]; exact hl, vs, _, rv, ha⟩
      · have z := (hno hb).symm.trans z
        cases z
    · by_cases hb : b = a
      · exact hb
      · exact absurd (hno hb) z
theorem callerG : RG 200 callerA := ⟨⟨rfl, by decide, by decide⟩, rfl⟩
/-- a number of at most 2 ^ 20 bits -/
def bits20 (n : Int) : Prop := Builtin.Int.intBits n ≤ 1048576
theorem walkG {l : PySem.W.OpenLaw} {n k : Nat} {q : Program} {loose : List Str} {XP : (Str → Option Value) → Heap → Prop} {YP : World → Heap → Prop} {d : DefRec} {x : Str} {m : Fn} (hn : l.most = some n) (hn2 : n ≤ sizeLine) (hdf : d.params.defaults = []) (hk : k ≤ 200)
    (F : ∀ (w : World) (mg : Str → Option Value) (fa : Addr) (h : Heap), YP w h → h.Ns mainGlobals mg → mg d.name = some (.ref fa) →
      ∃ (T : Tb) (fd : FuncData), T.tabs = [] ∧ T.K.In h ∧ (∀ (s : Shared) (u : Value), BindsTo s fd ⟨[u], []⟩ [(x, u)]) ∧
        ∀ base : Heap, T.K.In base → base.Ns mainGlobals mg → FnG l.prog w T.K mg base k fa fd [x] (spI T 1 m))
    (hm : ∀ ns : List Int, ns.length ≤ n → (∀ z ∈ ns, bits20 z) → ∃ S, m [.scr ns] [] = .ok (.bl true) S) :
    PySem.W.WalkO q loose XP YP l.row.toRowW d [] (fun f vs => PySem.call f vs) := by
  refine Att.attach_callB hn hdf fun w s₀ st mg mb fa o pm cd doc a vs ns G Y ho hd hcd hmg hobj hints hlen hbits hg => ?_
  obtain ⟨T, fd, hT, inK, hb, hF⟩ := F w mg fa _ Y G.T.g hmg
  exact lawG hT inK G.T.g G.T.b G.T.builtins G.T.nolimit hg hobj hints (Nat.le_trans hlen hn2) (callerG.mono hk) hF hb (hm ns hlen hbits)
theorem funD_uniq {K : PySem.W.Frag} {x qual : Str} {params : Arguments} {body : List Stmt} {scope : Scope} {dvs : List V} {kws : List (Str × V)} {f : Addr} {fd fd' : FuncData} (h : FunD K x qual params body scope dvs kws f fd) (h' : FunD K x qual params body scope dvs kws f fd') : fd' = fd := by
  obtain ⟨_, _, _, _, _, _, _, _, _, _, _, e1, _⟩ := h.ex
  obtain ⟨_, _, _, _, _, _, _, _, _, _, _, e2, _⟩ := h'.ex
  rw [e1] at e2
  cases e2
  rfl
theorem lawF {L : Lw} {T : Tb} {P : Program} {w : World} {mg : Str → Option Value} {h : Heap} {fa : Addr} {k i : Nat} {d : He.DefD} {m : Fn} {x : Str} (F : Fx T mg L) (hd : L.defs[i]? = some d) (hfa : mg "law" = some (.ref fa)) (hat : d.at_ = (("law" : Str), (none : Option Str))) (hgl : "law" ∈ L.glo) (hkw : d.kws T.K = [])
    (hb : ∀ (fd : FuncData), FunD T.K d.name d.qual d.params d.body d.scope (d.dvs T.K) [] (He.fAd T.K d.at_) fd → ∀ (s : Shared) (u : Value), BindsTo s fd ⟨[u], []⟩ [(x, u)])
    (ok : ∀ base : Heap, OkF T P w mg base k d [x] m) : ∃ fd : FuncData, (∀ (s : Shared) (u : Value), BindsTo s fd ⟨[u], []⟩ [(x, u)]) ∧ ∀ base : Heap, T.K.In base → base.Ns mainGlobals mg → FnG P w T.K mg base k fa fd [x] (spI T 1 m) := by
  obtain ⟨fd, FD⟩ := F.defs i d hd
  rw [hkw] at FD
  have e : He.fAd T.K d.at_ = fa := by
    have z := hfa.symm.trans (F.glo "law" hgl)
    have z2 := Option.some.inj z
    injection z2 with z3
    rw [hat, z3]
    rfl
  refine ⟨fd, hb fd FD, fun base _ _ => ?_⟩
  obtain ⟨fd', FD', G⟩ := (ok base).ex
  rw [funD_uniq FD FD'] at G
  rw [← e]
  exact G
end Ro
end

section
set_option Elab.async false
set_option linter.all false
set_option maxRecDepth 100000
set_option maxHeartbeats 4000000
namespace Ro
open PySem
/-! ### what a mirror gives -/
@[irreducible] def W {α : Type} (r : R α) (post : α → Store → Prop) : Prop := match r with
  | .ok a S => post a S
  | _ => False
@[simp] theorem W_ok {α : Type} (a : α) (S : Store) (post : α → Store → Prop) : W (.ok a S) post = post a S := by unfold W; rfl
@[simp] theorem W_err {α : Type} (c : String) (fs : List D) (S : Store) (post : α → Store → Prop) : W (.err c fs S : R α) post = False := by unfold W; rfl
@[simp] theorem W_bad {α : Type} (post : α → Store → Prop) : W (.bad : R α) post = False := by unfold W; rfl
theorem W.mono {α : Type} {r : R α} {p q : α → Store → Prop} (h : W r p) (k : ∀ a S, p a S → q a S) : W r q := by
  cases r with
  | ok a S => rw [W_ok] at h ⊢; exact k a S h
  | err c fs S => rw [W_err] at h; exact h.elim
  | bad => rw [W_bad] at h; exact h.elim
theorem W.bnd {α β : Type} {r : R α} {f : α → Store → R β} {q : β → Store → Prop} (h : W r fun a S => W (f a S) q) : W (r.bnd f) q := by
  cases r with
  | ok a S => rw [W_ok] at h; exact h
  | err c fs S => rw [W_err] at h; exact h.elim
  | bad => rw [W_bad] at h; exact h.elim
theorem W.bnd' {α β : Type} {r : R α} {f : α → Store → R β} {p : α → Store → Prop} {q : β → Store → Prop} (h : W r p) (k : ∀ a S, p a S → W (f a S) q) : W (r.bnd f) q := W.bnd (h.mono k)
theorem W.eq {α : Type} {r : R α} {a : α} {S : Store} (h : r = .ok a S) {q : α → Store → Prop} (k : q a S) : W r q := by rw [h, W_ok]; exact k
theorem W.ex {r : R D} {d : D} (h : W r fun x _ => x = d) : ∃ S, r = .ok d S := by
  cases r with
  | ok a S => rw [W_ok] at h; exact ⟨S, by rw [show a = d from h]⟩
  | err c fs S => rw [W_err] at h; exact h.elim
  | bad => rw [W_bad] at h; exact h.elim
/-- a loop by an invariant -/
theorem W.loop {tg : Pat} {body : ES} {I : Nat → Env → Store → Prop} {q : Ctl → Store → Prop} : ∀ {xs : List D} {k : Nat} {env : Env} {S : Store}, I k env S →
    (∀ (i : Nat) x env S, k ≤ i → xs[i - k]? = some x → I i env S → ∃ env1, tg x env = some env1 ∧ W (body env1 S) fun c S1 => match c with
      | .nx e => I (i + 1) e S1
      | .ct e => I (i + 1) e S1
      | .bk e => q (.nx e) S1
      | .rt d => q (.rt d) S1) →
    (∀ env S, I (k + xs.length) env S → q (.nx env) S) → W (loop tg body xs env S) q
  | [], k, env, S, h, _, fin => by rw [Ro.loop, W_ok]; exact fin env S h
  | x :: xs, k, env, S, h, step, fin => by
    obtain ⟨env1, e1, h1⟩ := step k x env S (Nat.le_refl _) (by simp) h
    unfold Ro.loop
    rw [e1]
    refine W.bnd (h1.mono fun c S1 hc => ?_)
    have next : ∀ e, I (k + 1) e S1 → W (Ro.loop tg body xs e S1) q := fun e he => W.loop (k := k + 1) he (fun i y env S hi hy => step i y env S (by omega) (by
      have : i - k = (i - (k + 1)) + 1 := by omega
      rw [this, List.getElem?_cons_succ]
      exact hy)) (fun env S hI => fin env S (by
      have : k + (x :: xs).length = k + 1 + xs.length := by simp; omega
      rw [this]
      exact hI))
    cases c with
    | nx e => exact next e hc
    | ct e => exact next e hc
    | bk e => rw [W_ok]; exact hc
    | rt d => rw [W_ok]; exact hc
/-- a comprehension without a test, by an invariant of what is made -/
theorem W.lc {tg : Pat} {c : BX} {el : EX} {env0 : Env} {I : Nat → List D → Store → Prop} {q : List D → Store → Prop} : ∀ {xs : List D} {k : Nat} {acc : List D} {S : Store}, I k acc S → acc.length + xs.length ≤ LINE →
    (∀ (i : Nat) x acc S, k ≤ i → xs[i - k]? = some x → I i acc S → ∃ env1, tg x env0 = some env1 ∧ W (c env1 S) fun b S1 => if b then W (el env1 S1) fun y S2 => I (i + 1) (acc ++ [y]) S2 else I (i + 1) acc S1) →
    (∀ acc S, I (k + xs.length) acc S → q acc S) → W (lcLoop tg c el env0 xs acc S) q
  | [], k, acc, S, h, _, _, fin => by rw [lcLoop, W_ok]; exact fin acc S h
  | x :: xs, k, acc, S, h, hl, step, fin => by
    obtain ⟨env1, e1, h1⟩ := step k x acc S (Nat.le_refl _) (by simp) h
    unfold lcLoop
    rw [e1]
    have next : ∀ acc' S', acc'.length ≤ acc.length + 1 → I (k + 1) acc' S' → W (lcLoop tg c el env0 xs acc' S') q := fun acc' S' hl' hI => W.lc (k := k + 1) hI (by simp at hl; omega) (fun i y a S hi hy => step i y a S (by omega) (by
      have : i - k = (i - (k + 1)) + 1 := by omega
      rw [this, List.getElem?_cons_succ]
      exact hy)) (fun a S hI => fin a S (by
      have : k + (x :: xs).length = k + 1 + xs.length := by simp; omega
      rw [this]
      exact hI))
    have nox : ∀ {α : Type} {r : R α} {p : α → Store → Prop}, W r p → W r.nox p := fun {α r p} h => by
      cases r with
      | ok a S => exact h
      | err c fs S => rw [W_err] at h; exact h.elim
      | bad => exact h
    refine W.bnd ((nox h1).mono fun b S1 hb => ?_)
    cases b with
    | false => exact next acc S1 (by omega) hb
    | true =>
      rw [if_pos rfl] at hb ⊢
      refine W.bnd ((nox hb).mono fun y S2 hy => ?_)
      rw [if_pos (by simp at hl; omega)]
      exact next (acc ++ [y]) S2 (by simp) hy
end Ro
end

section
set_option Elab.async false
set_option linter.all false
set_option maxRecDepth 100000
set_option maxHeartbeats 4000000
namespace Ro
open PySem
variable {env : Env} {S : Store}
@[simp] theorem u_eVar (i : Nat) : eVar i env S = (match env[i]? with
  | some (some d) => .ok d S
  | _ => .bad) := rfl
@[simp] theorem u_eC (d : D) : eC d env S = .ok d S := rfl
@[simp] theorem u_eOp (op : D → D → Option D) (a b : EX) : eOp op a b env S = (a env S).bnd fun x S1 => (b env S1).bnd fun y S2 => lift (op x y) S2 := rfl
@[simp] theorem u_eUn (op : D → Option D) (a : EX) : eUn op a env S = (a env S).bnd fun x S1 => lift (op x) S1 := rfl
@[simp] theorem u_aNil : aNil env S = .ok [] S := rfl
@[simp] theorem u_aCons (a : EX) (r : AX) : aCons a r env S = (a env S).bnd fun x S1 => (r env S1).bnd fun xs S2 => .ok (x :: xs) S2 := rfl
@[simp] theorem u_eFn (m : List D → List D → Store → R D) (fa fk : AX) : eFn m fa fk env S = (fa env S).bnd fun xs S1 => (fk env S1).bnd fun zs S2 => m xs zs S2 := rfl
@[simp] theorem u_callM (m : Fn) (n kn pn : Nat) (pk : List (Nat × Nat)) (dfs xs ys : List D) : callM m n kn pn pk dfs xs ys S = if xs.length = n ∧ ys.length = kn ∧ (pick pk xs dfs ys).length = pn then m (pick pk xs dfs ys) S else .bad := rfl
@[simp] theorem u_pick0 {α : Type} (us its ws : List α) : pick [] us its ws = [] := rfl
@[simp] theorem u_pick1 {α : Type} (p : Nat × Nat) (pk : List (Nat × Nat)) (us its ws : List α) : pick (p :: pk) us its ws = ((if p.1 = 0 then us else if p.1 = 1 then its else ws)[p.2]?).toList ++ pick pk us its ws := rfl
@[simp] theorem u_eTup (a : AX) : eTup a env S = (a env S).bnd fun xs S1 => if xs.length ≤ LINE then .ok (.tup xs) S1 else .bad := rfl
@[simp] theorem u_eLst (a : AX) : eLst a env S = (a env S).bnd fun xs S1 => if xs.length ≤ LINE then .ok (.lst xs) S1 else .bad := rfl
@[simp] theorem u_eLstM (a : AX) : eLstM a env S = (a env S).bnd fun xs S1 => if xs.length ≤ LINE then .ok (.ref S1.length) (S1 ++ [.lst xs]) else .bad := rfl
@[simp] theorem u_bOf (a : EX) : bOf a env S = (a env S).bnd fun x S1 => lift (truth x) S1 := rfl
@[simp] theorem u_bVal (a : EX) : bVal a env S = (a env S).bnd fun x S1 => match x with
  | .bl b => .ok b S1
  | _ => .bad := rfl
@[simp] theorem u_bAnd (a b : BX) : bAnd a b env S = (a env S).bnd fun c S1 => if c then b env S1 else .ok false S1 := rfl
@[simp] theorem u_bOr (a b : BX) : bOr a b env S = (a env S).bnd fun c S1 => if c then .ok true S1 else b env S1 := rfl
@[simp] theorem u_bNot (a : BX) : bNot a env S = (a env S).bnd fun c S1 => .ok (!c) S1 := rfl
@[simp] theorem u_eAnd (a b : EX) : eAnd a b env S = (a env S).bnd fun x S1 => match x with
  | .bl c => if c then b env S1 else .ok (.bl false) S1
  | _ => .bad := rfl
@[simp] theorem u_eOr (a b : EX) : eOr a b env S = (a env S).bnd fun x S1 => match x with
  | .bl c => if c then .ok (.bl true) S1 else b env S1
  | _ => .bad := rfl
@[simp] theorem u_eNot (a : EX) : eNot a env S = (a env S).bnd fun x S1 => match x with
  | .bl c => .ok (.bl (!c)) S1
  | _ => .bad := rfl
@[simp] theorem u_eIf (c : BX) (a b : EX) : eIf c a b env S = (c env S).bnd fun k S1 => if k then a env S1 else b env S1 := rfl
def chk {α : Type} (o : Option D) (a b : R α) : R α := match o with
  | some (.bl c) => if c then a else b
  | _ => .bad
@[simp] theorem chk_bl {α : Type} (c : Bool) (a b : R α) : chk (some (.bl c)) a b = if c then a else b := rfl
@[simp] theorem u_eChain (op op' : D → D → Option D) (a b c : EX) : eChain op op' a b c env S = (a env S).bnd fun x S1 => (b env S1).bnd fun y S2 => chk (op x y) ((c env S2).bnd fun z S3 => lift (op' y z) S3) (.ok (.bl false) S2) := by
  unfold eChain
  congr 1
  funext x S1
  congr 1
  funext y S2
  unfold chk
  split
  · rename_i h; simp [h]
  · rename_i h; simp [h]
  · rename_i h1 h2
    split
    · rename_i c h
      cases c
      · exact (h2 h).elim
      · exact (h1 h).elim
    · rfl
@[simp] theorem u_eIdxB (a b : EX) : eIdxB a b env S = (a env S).bnd fun x S1 => (b env S1).bnd fun y S2 => lift (idxB x y S2) S2 := rfl
@[simp] theorem u_oNone : oNone env S = .ok none S := rfl
@[simp] theorem u_oSome (a : EX) : oSome a env S = (a env S).bnd fun x S1 => match x with
  | .int i => .ok (some i) S1
  | _ => .bad := rfl
@[simp] theorem u_eCut (a : EX) (lo hi : OX) : eCut a lo hi env S = (a env S).bnd fun x S1 => (lo env S1).bnd fun l S2 => (hi env S2).bnd fun h S3 => lift (cutD x l h) S3 := rfl
@[simp] theorem u_eIsI (tys : List Ty) (Tt : Ty) (a : EX) : eIsI tys Tt a env S = (a env S).bnd fun x S1 => match tyD x S1 with
  | some t => if tys.contains t then .ok (.bl (subTy t Tt)) S1 else .bad
  | none => .bad := rfl
@[simp] theorem u_eAttr (cf : String → List String) (cs : List String) (f : String) (a : EX) : eAttr cf cs f a env S = (a env S).bnd fun x S1 => lift (attrD cf cs f x S1) S1 := rfl
@[simp] theorem u_eB (m : List D → Option D) (fa : AX) : eB m fa env S = (fa env S).bnd fun xs S1 => lift (m xs) S1 := rfl
@[simp] theorem u_eMeth (cf : String → List String) (c mn : String) (m : List D → List D → Store → R D) (o : EX) (fa fk : AX) : eMeth cf c mn m o fa fk env S = (o env S).bnd fun x S1 => if isInst cf c mn x S1 then (fa env S1).bnd fun xs S2 => (fk env S2).bnd fun zs S3 => m (x :: xs) zs S3 else .bad := rfl
@[simp] theorem u_eFrz (cf : String → List String) (a : EX) : eFrz cf a env S = frzM cf (a env S) := rfl
@[simp] theorem u_eLC (vs : List Nat) (it : AX) (tg : Pat) (c : BX) (el : EX) : eLC vs it tg c el env S = (it env S).bnd fun xs S1 => (lcLoop tg c el (wipeE env vs) xs [] S1).bnd fun ys S2 => .ok (.lst ys) S2 := rfl
@[simp] theorem u_bYes : bYes env S = .ok true S := rfl
@[simp] theorem u_eSorted (fa : AX) : eSorted fa env S = (fa env S).bnd fun xs S1 => match xs with
  | [.ref n] => (match S1[n]? with
    | some (.dcT l) => lift (bSortL (l.map (·.1))) S1
    | _ => .bad)
  | _ => lift (bSorted xs) S1 := rfl
@[simp] theorem u_eDctT : eDctT env S = .ok (.ref S.length) (S ++ [.dcT []]) := rfl
@[simp] theorem u_sSet (i : Nat) (e : EX) : sSet i e env S = (e env S).bnd fun d S1 => .ok (.nx (env.set i (some d))) S1 := rfl
@[simp] theorem u_sSeq (s t : ES) : sSeq s t env S = (s env S).bnd fun c S1 => match c with
  | .nx e => t e S1
  | c => .ok c S1 := rfl
@[simp] theorem u_sPass : sPass env S = .ok (.nx env) S := rfl
@[simp] theorem u_sIf (c : BX) (s t : ES) : sIf c s t env S = (c env S).bnd fun k S1 => if k then s env S1 else t env S1 := rfl
@[simp] theorem u_sRet (e : EX) : sRet e env S = (e env S).bnd fun d S1 => .ok (.rt d) S1 := rfl
@[simp] theorem u_sExpr (e : EX) : sExpr e env S = (e env S).bnd fun _ S1 => .ok (.nx env) S1 := rfl
@[simp] theorem u_sUnp (p : Pat) (e : EX) : sUnp p e env S = (e env S).bnd fun d S1 => match p d env with
  | some env' => .ok (.nx env') S1
  | none => .bad := rfl
@[simp] theorem u_sPar2 (i j : Nat) (fa : AX) : sPar2 i j fa env S = (fa env S).bnd fun xs S1 => match xs with
  | [x, y] => .ok (.nx ((env.set i (some x)).set j (some y))) S1
  | _ => .bad := rfl
@[simp] theorem u_sFor (it : AX) (tg : Pat) (body : ES) : sFor it tg body env S = (it env S).bnd fun xs S1 => loop tg body xs env S1 := rfl
@[simp] theorem u_sSetIt (o i v : EX) : sSetIt o i v env S = (v env S).bnd fun z S1 => (o env S1).bnd fun x S2 => (i env S2).bnd fun y S3 => match setM x y z S3 with
  | some S4 => .ok (.nx env) S4
  | none => .bad := rfl
@[simp] theorem u_sSetAttr (cs : List String) (f : String) (o v : EX) : sSetAttr cs f o v env S = (v env S).bnd fun y S1 => (o env S1).bnd fun x S2 => match x with
  | .ref n => match S2[n]? with
    | some (.ins c fs) => if cs.contains c && decide (fs.length < 1000) then .ok (.nx env) (S2.set n (.ins c (setF f y fs))) else .bad
    | _ => .bad
  | _ => .bad := rfl
@[simp] theorem u_sPutT (o : EX) (ks : AX) (v : EX) : sPutT o ks v env S = (v env S).bnd fun z S1 => (o env S1).bnd fun x S2 => (ks env S2).bnd fun ys S3 => match x, dInts ys with
  | .ref n, some k => (match S3[n]? with
    | some (.dcT l) => if l.length < LINE ∧ ys.length ≤ LINE then .ok (.nx env) (S3.set n (.dcT (putL l k z))) else .bad
    | _ => .bad)
  | _, _ => .bad := rfl
@[simp] theorem u_itR1 (fa : AX) : itR1 fa env S = (fa env S).bnd fun ds S1 => match ds with
  | [.int j] => if small62 j then .ok (rngL 0 j.toNat) S1 else .bad
  | _ => .bad := rfl
@[simp] theorem u_itR2 (fa : AX) : itR2 fa env S = (fa env S).bnd fun ds S1 => match ds with
  | [.int i, .int j] => if small62 i && small62 j then .ok (rngL i (j - i).toNat) S1 else .bad
  | _ => .bad := rfl
@[simp] theorem u_itAny (f : EX) : itAny f env S = (f env S).bnd fun d S1 => match d with
  | .lst l => .ok l S1
  | .tup l => .ok l S1
  | _ => .bad := rfl
@[simp] theorem u_itZip (fa : AX) : itZip fa env S = (fa env S).bnd fun ds S1 => match ds with
  | [.lst l, .lst m] => .ok (zipL l m) S1
  | [.tup l, .tup m] => .ok (zipL l m) S1
  | _ => .bad := rfl
@[simp] theorem u_fnM (n : Nat) (body : ES) (ds : List D) : fnM n body ds S = (body (ds.map some ++ List.replicate (n - ds.length) none) S).bnd fun c S1 => match c with
  | .rt d => .ok d S1
  | .nx _ => .ok .non S1
  | _ => .bad := rfl
@[simp] theorem u_pName (i : Nat) (d : D) : pName i d env = some (env.set i (some d)) := rfl
@[simp] theorem u_pTup (r : List D → Env → Option Env) (l : List D) : pTup r (.tup l) env = r l env := rfl
@[simp] theorem u_pNil : pNil [] env = some env := rfl
@[simp] theorem u_pCons (p : Pat) (r : List D → Env → Option Env) (d : D) (ds : List D) : pCons p r (d :: ds) env = (p d env).bind fun e => r ds e := rfl
/-! ### operations -/
@[simp] theorem o_add (i j : Int) : addD (.int i) (.int j) = some (.int (i + j)) := rfl
@[simp] theorem o_sub (i j : Int) : subD (.int i) (.int j) = some (.int (i - j)) := rfl
@[simp] theorem o_mul (i j : Int) : mulD (.int i) (.int j) = if mulOk i j then some (.int (i * j)) else none := rfl
@[simp] theorem o_fdiv (i j : Int) : fdivD (.int i) (.int j) = if 0 < j ∧ j.natAbs.log2 < 9000 then some (.int (i / j)) else none := rfl
@[simp] theorem o_mod (i j : Int) : modD (.int i) (.int j) = if 0 < j then some (.int (i % j)) else none := rfl
@[simp] theorem o_neg (i : Int) : negD (.int i) = some (.int (-i)) := rfl
@[simp] theorem o_lt (i j : Int) : ltA (.int i) (.int j) = some (.bl (decide (i < j))) := rfl
@[simp] theorem o_le (i j : Int) : leD (.int i) (.int j) = some (.bl (decide (i ≤ j))) := rfl
@[simp] theorem o_gt (i j : Int) : gtD (.int i) (.int j) = some (.bl (decide (j < i))) := rfl
@[simp] theorem o_ge (i j : Int) : geD (.int i) (.int j) = some (.bl (decide (j ≤ i))) := rfl
@[simp] theorem o_eqi (i j : Int) : eqD (.int i) (.int j) = some (.bl (decide (i = j))) := rfl
@[simp] theorem o_nei (i j : Int) : neD (.int i) (.int j) = some (.bl (!decide (i = j))) := rfl
@[simp] theorem o_powi (i j : Int) : powD (.int i) (.int j) = if 0 ≤ j ∧ j ≤ 1000000 ∧ i.natAbs < 2 ^ 64 then some (.int (i ^ j.toNat)) else none := rfl
@[simp] theorem ix_nn (n j : Nat) (h : j < n) : pyIx n (j : Int) = some j := by
  unfold pyIx
  rw [if_pos (by omega), if_pos (by omega)]
  simp
@[simp] theorem ix_0 (n : Nat) : pyIx (n + 1) 0 = some 0 := ix_nn (n + 1) 0 (by omega)
@[simp] theorem idx_ref (n : Nat) (i : Int) : idxB (.ref n) (.int i) S = (match S[n]? with
    | some (.lst l) => atP l i
    | _ => none) := rfl
@[simp] theorem idx_lst (l : List D) (i : Int) : idxB (.lst l) (.int i) S = atP l i := rfl
@[simp] theorem idx_tup (l : List D) (i : Int) : idxB (.tup l) (.int i) S = atP l i := rfl
@[simp] theorem idx_scr (l : List Int) (i : Int) : idxB (.scr l) (.int i) S = (atP l i).map D.int := rfl
@[simp] theorem set_ref (n : Nat) (i : Int) (v : D) : setM (.ref n) (.int i) v S = (match S[n]? with
    | some (.lst l) => (pyIx l.length i).map fun j => S.set n (.lst (l.set j v))
    | _ => none) := rfl
@[simp] theorem W_bnd {α β : Type} (r : R α) (f : α → Store → R β) (q : β → Store → Prop) : W (r.bnd f) q = W r fun a S => W (f a S) q := by cases r <;> simp
@[simp] theorem W_lift {α : Type} (o : Option α) (q : α → Store → Prop) : W (lift o S) q = ∃ a, o = some a ∧ q a S := by cases o <;> simp [lift]
@[simp] theorem u_small (i : Int) : small62 i = decide (-(2 ^ 62) ≤ i ∧ i < 2 ^ 62) := rfl
@[simp] theorem rng_len (lo : Int) (n : Nat) : (rngL lo n).length = n := by simp [rngL]
theorem rng_get {lo : Int} {n i : Nat} {d : D} (h : (rngL lo n)[i]? = some d) : i < n ∧ d = .int (lo + (i : Int)) := by
  unfold rngL at h
  rw [List.getElem?_map] at h
  cases z : (List.range n)[i]? with
  | none => rw [z] at h; cases h
  | some k =>
    rw [z] at h
    obtain ⟨hl, e⟩ := List.getElem?_eq_some_iff.mp z
    rw [List.getElem_range] at e
    subst e
    cases h
    exact ⟨by simpa using hl, rfl⟩
@[simp] theorem at_0 (d : D) (l : List D) : atP (d :: l) 0 = some d := by simp [atP]
@[simp] theorem at_1 (d e : D) (l : List D) : atP (d :: e :: l) 1 = some e := by
  have : pyIx (d :: e :: l).length 1 = some 1 := ix_nn _ 1 (by simp)
  unfold atP
  rw [this]
  rfl
@[simp] theorem ix_1 (n : Nat) : pyIx (n + 1 + 1) 1 = some 1 := ix_nn (n + 2) 1 (by omega)
@[simp high] theorem W_liftIf {α : Type} (c : Prop) [Decidable c] (a : α) (q : α → Store → Prop) : W (lift (if c then some a else none) S) q = (c ∧ q a S) := by
  by_cases h : c <;> simp [h, lift]
@[simp] theorem log_7 : Nat.log2 7 < 9000 := by decide
@[simp] theorem log_2 : Nat.log2 2 < 9000 := by decide
@[simp] theorem LINE_eq : LINE = 16777216 := rfl
@[simp] theorem pyEq_str (a b : Str) : pyEq (.str a) (.str b) = decide (a = b) := by rw [pyEq]
@[simp] theorem pyEq_int (a b : Int) : pyEq (.int a) (.int b) = decide (a = b) := by rw [pyEq]
@[simp] theorem pyEq_tup (a b : List D) : pyEq (.tup a) (.tup b) = pyEqs a b := by rw [pyEq]
@[simp] theorem pyEq_lst (a b : List D) : pyEq (.lst a) (.lst b) = pyEqs a b := by rw [pyEq]
@[simp] theorem pyEqs_nil : pyEqs [] [] = true := by rw [pyEqs]
@[simp] theorem pyEqs_cons (x y : D) (l m : List D) : pyEqs (x :: l) (y :: m) = (pyEq x y && pyEqs l m) := by rw [pyEqs]
@[simp] theorem pyEqs_nc (y : D) (m : List D) : pyEqs [] (y :: m) = false := by rw [pyEqs] <;> simp
@[simp] theorem pyEqs_cn (x : D) (l : List D) : pyEqs (x :: l) [] = false := by rw [pyEqs] <;> simp
@[simp] theorem inL_nil (x : D) : inL x [] = false := rfl
@[simp] theorem inL_cons (x y : D) (l : List D) : inL x (y :: l) = (pyEq y x || inL x l) := rfl
@[simp] theorem pl_str (n : Nat) (a : Str) : plN n (.str a) = true := by cases n <;> rfl
@[simp] theorem pl_int (n : Nat) (a : Int) : plN n (.int a) = true := by cases n <;> rfl
@[simp] theorem pl_bl (n : Nat) (a : Bool) : plN n (.bl a) = true := by cases n <;> rfl
@[simp] theorem pl_non (n : Nat) : plN n .non = true := by cases n <;> rfl
@[simp] theorem pl_tup (n : Nat) (l : List D) : plN (n + 1) (.tup l) = l.all (plN n) := rfl
@[simp] theorem pl_lst (n : Nat) (l : List D) : plN (n + 1) (.lst l) = l.all (plN n) := rfl
@[simp] theorem pl_D (d : D) : plD d = plN 8 d := rfl
end Ro
end

section
set_option Elab.async false
set_option linter.all false
set_option maxRecDepth 100000
set_option maxHeartbeats 4000000
namespace Ro
open PySem
/-! ### the draws: boxes of digits, the same text in every law -/
def b__law_box : ES :=
  (sSeq (sSet 2 (eOp addD (eOp mulD (eC (.int 7919)) (eVar 1)) (eC (.int 13))))
  (sSeq (sIf (bVal (eOp ltA (eVar 1) (eB bLenA (aCons (eVar 0) aNil)))) (sSet 2 (eIdxB (eVar 0) (eVar 1))) sPass)
  (sSeq (sIf (bVal (eOp eqD (eOp modD (eVar 2) (eC (.int 2))) (eC (.int 0)))) (sRet (eLstM (aCons (eOp fdivD (eVar 2) (eC (.int 2))) (aCons (eOp modD (eB bAbs (aCons (eVar 2) aNil)) (eC (.int 2147483647))) aNil)))) sPass)
  (sSeq (sSet 3 (eC (.int 0)))
  (sSeq (sFor (itR1 (aCons (eC (.int 16)) aNil)) (pName 4) (sSeq (sSet 5 (eOp modD (eOp addD (eOp addD (eOp mulD (eOp modD (eVar 2) (eC (.int 2147483647))) (eC (.int 48271))) (eOp mulD (eC (.int 7919)) (eVar 4))) (eC (.int 1))) (eC (.int 2147483647))))
  (sSeq (sSet 5 (eOp modD (eOp mulD (eVar 5) (eVar 5)) (eC (.int 2147483629))))
  (sSet 3 (eOp addD (eOp mulD (eVar 3) (eC (.int 2147483647))) (eOp modD (eOp mulD (eVar 5) (eOp addD (eVar 5) (eC (.int 13)))) (eC (.int 2147483647))))))))
  (sRet (eLstM (aCons (eVar 3) (aCons (eOp modD (eB bAbs (aCons (eVar 2) aNil)) (eC (.int 2147483647))) aNil)))))))))
def m__law_box : Fn := fnM 6 b__law_box
def b__law_more : ES :=
  (sSeq (sSet 1 (eC (.int 0)))
  (sSeq (sFor (itR1 (aCons (eC (.int 12)) aNil)) (pName 2) (sSeq (sSetIt (eVar 0) (eC (.int 1)) (eOp modD (eOp addD (eOp mulD (eIdxB (eVar 0) (eC (.int 1))) (eC (.int 48271))) (eC (.int 30269))) (eC (.int 2147483647))))
  (sSet 1 (eOp addD (eOp mulD (eVar 1) (eC (.int 65521))) (eOp modD (eOp fdivD (eIdxB (eVar 0) (eC (.int 1))) (eC (.int 7))) (eC (.int 65521)))))))
  (sRet (eVar 1))))
def m__law_more : Fn := fnM 3 b__law_more
def b__law_take : ES :=
  (sSeq (sIf (bVal (eChain leD ltA (eC (.int 0)) (eIdxB (eVar 0) (eC (.int 0))) (eVar 1))) (sSetIt (eVar 0) (eC (.int 0)) (eOp addD (eIdxB (eVar 0) (eC (.int 0))) (eOp mulD (eVar 1) (eFn (callM m__law_more 1 0 1 [(0, 0)] []) (aCons (eVar 0) aNil) aNil)))) sPass)
  (sSeq (sUnp (pTup (pCons (pName 2) (pCons (pName 3) pNil))) (eB bDivmod (aCons (eIdxB (eVar 0) (eC (.int 0))) (aCons (eVar 1) aNil))))
  (sSeq (sSetIt (eVar 0) (eC (.int 0)) (eVar 2))
  (sRet (eVar 3)))))
def m__law_take : Fn := fnM 4 b__law_take
/-! ### what they give -/
theorem mulOk_lt {i j : Int} {n m : Nat} (h1 : i.natAbs < 2 ^ n) (h2 : j.natAbs < 2 ^ m) (h : n + m < 1000000) (hn : 0 < n := by decide) (hm : 0 < m := by decide) : mulOk i j = true := by
  have key : ∀ {a k : Nat}, 0 < k → a < 2 ^ k → a.log2 < k := fun {a k} hk ha => by
    by_cases z : a = 0
    · subst z; simpa using hk
    · exact (Nat.log2_lt z).mpr ha
  unfold mulOk
  exact decide_eq_true (by have := key hn h1; have := key hm h2; omega)
/-- a box of digits stands at b -/
def Bx (S : Store) (b : Nat) : Prop := ∃ x y : Int, S[b]? = some (.lst [.int x, .int y]) ∧ 0 ≤ y ∧ y < 2147483647
/-- .. and was drawn from, nothing else was turned -/
def Bs (S : Store) (b : Nat) (S' : Store) : Prop := ∃ x y : Int, 0 ≤ y ∧ y < 2147483647 ∧ S' = S.set b (.lst [.int x, .int y])
theorem Bx.lt {S : Store} {b : Nat} (h : Bx S b) : b < S.length := by
  obtain ⟨x, y, h, _⟩ := h
  exact (List.getElem?_eq_some_iff.mp h).1
theorem Bs.bx {S S' : Store} {b : Nat} (h : Bs S b S') (hb : b < S.length) : Bx S' b := by
  obtain ⟨x, y, h1, h2, rfl⟩ := h
  exact ⟨x, y, by rw [List.getElem?_set]; simp [hb], h1, h2⟩
theorem Bs.trans {S S' S'' : Store} {b : Nat} (h : Bs S b S') (h' : Bs S' b S'') : Bs S b S'' := by
  obtain ⟨x, y, h1, h2, rfl⟩ := h
  obtain ⟨x', y', h3, h4, rfl⟩ := h'
  exact ⟨x', y', h3, h4, by rw [List.set_set]⟩
theorem Bs.len {S S' : Store} {b : Nat} (h : Bs S b S') : S'.length = S.length := by
  obtain ⟨x, y, h1, h2, rfl⟩ := h
  rw [List.length_set]
theorem Bs.other {S S' : Store} {b c : Nat} (h : Bs S b S') (hc : c ≠ b) : S'[c]? = S[c]? := by
  obtain ⟨x, y, h1, h2, rfl⟩ := h
  rw [List.getElem?_set_ne (Ne.symm hc)]
theorem more_ok {S : Store} {b : Nat} {x y : Int} (hS : S[b]? = some (.lst [.int x, .int y])) (hy : 0 ≤ y ∧ y < 2147483647) :
    W (m__law_more [.ref b] S) fun d S' => ∃ i y' : Int, d = .int i ∧ 0 ≤ i ∧ i < 2 ^ 192 ∧ 0 ≤ y' ∧ y' < 2147483647 ∧ S' = S.set b (.lst [.int x, .int y']) := by
  have hb : b < S.length := (List.getElem?_eq_some_iff.mp hS).1
  unfold m__law_more b__law_more
  simp
  refine W.loop (I := fun i env S' => ∃ (num y' : Int) (z : Option D), env = [some (.ref b), some (.int num), z] ∧ 0 ≤ num ∧ num < 2 ^ (16 * i) ∧ 0 ≤ y' ∧ y' < 2147483647 ∧ S' = S.set b (.lst [.int x, .int y'])) (k := 0)
    ⟨0, y, none, rfl, by omega, by decide, hy.1, hy.2, by apply List.ext_getElem?; intro j; by_cases h : b = j <;> simp [List.getElem?_set, h, hb, ← hS] <;> simp [← h, hb, hS]⟩ (fun i d env S' hi hd hI => ?_) (fun env S' hI => ?_)
  · obtain ⟨num, y', z, rfl, h1, h2, h3, h4, rfl⟩ := hI
    obtain ⟨hi12, _⟩ := rng_get hd
    refine ⟨_, rfl, ?_⟩
    have e1 : mulOk y' 48271 = true := mulOk_lt (n := 32) (m := 16) (by omega) (by decide) (by decide)
    have hpow : (2 : Int) ^ (16 * i) ≤ 2 ^ 192 := by
      have : (2 : Nat) ^ (16 * i) ≤ 2 ^ 192 := Nat.pow_le_pow_right (by decide) (by simp at hi12; omega)
      exact_mod_cast this
    have e2 : mulOk num 65521 = true := mulOk_lt (n := 193) (m := 16) (by
      have h : num < 2 ^ 192 := Int.lt_of_lt_of_le h2 hpow
      have : num.natAbs < 2 ^ 192 := by omega
      omega) (by decide) (by decide)
    simp [List.getElem?_set, hb, e1, e2]
    have e3 : (2 : Int) ^ (16 * (i + 1)) = 2 ^ (16 * i) * 65536 := by rw [Nat.mul_add, Int.pow_add]; rfl
    rw [e3]
    generalize (2 : Int) ^ (16 * i) = P at h2
    exact ⟨by omega, by omega, _, by omega, by omega, rfl⟩
  · obtain ⟨num, y', z, rfl, h1, h2, h3, h4, rfl⟩ := hI
    simp at h2
    simp
    exact ⟨h1, h2, y', h3, h4, rfl⟩
theorem set_same {S : Store} {b : Nat} {c : Cell} (h : S[b]? = some c) : S.set b c = S := by
  obtain ⟨h1, h2⟩ := List.getElem?_eq_some_iff.mp h
  rw [← h2]
  exact List.set_getElem_self h1
theorem take_ok {S : Store} {b : Nat} {n : Int} (hB : Bx S b) (hn : 0 < n ∧ n < 1073741824) : W (m__law_take [.ref b, .int n] S) fun d S' => (∃ i : Int, d = .int i ∧ 0 ≤ i ∧ i < n) ∧ Bs S b S' := by
  obtain ⟨x, y, hS, hy1, hy2⟩ := hB
  have hb : b < S.length := (List.getElem?_eq_some_iff.mp hS).1
  have hd : divOk n = true := decide_eq_true hn
  unfold m__law_take b__law_take
  have md : ∀ z : Int, 0 ≤ z % n ∧ z % n < n := fun z => ⟨Int.emod_nonneg _ (by omega), Int.emod_lt_of_pos _ hn.1⟩
  by_cases c1 : 0 ≤ x
  · by_cases c2 : x < n
    · simp [hS, c1, c2]
      refine (more_ok hS ⟨hy1, hy2⟩).mono ?_
      rintro _ _ ⟨i, y', rfl, i1, i2, k1, k2, rfl⟩
      have e : mulOk n i = true := mulOk_lt (n := 31) (m := 193) (by omega) (by omega) (by decide)
      simp [e, hb, bDivmod, hd]
      exact ⟨md _, _, y', k1, k2, rfl⟩
    · simp [hS, c1, c2, bDivmod, hd]
      exact ⟨md _, _, y, hy1, hy2, rfl⟩
  · simp [hS, c1, bDivmod, hd]
    exact ⟨md _, _, y, hy1, hy2, rfl⟩
def boxTail : ES :=
  (sSeq (sIf (bVal (eOp eqD (eOp modD (eVar 2) (eC (.int 2))) (eC (.int 0)))) (sRet (eLstM (aCons (eOp fdivD (eVar 2) (eC (.int 2))) (aCons (eOp modD (eB bAbs (aCons (eVar 2) aNil)) (eC (.int 2147483647))) aNil)))) sPass)
  (sSeq (sSet 3 (eC (.int 0)))
  (sSeq (sFor (itR1 (aCons (eC (.int 16)) aNil)) (pName 4) (sSeq (sSet 5 (eOp modD (eOp addD (eOp addD (eOp mulD (eOp modD (eVar 2) (eC (.int 2147483647))) (eC (.int 48271))) (eOp mulD (eC (.int 7919)) (eVar 4))) (eC (.int 1))) (eC (.int 2147483647))))
  (sSeq (sSet 5 (eOp modD (eOp mulD (eVar 5) (eVar 5)) (eC (.int 2147483629))))
  (sSet 3 (eOp addD (eOp mulD (eVar 3) (eC (.int 2147483647))) (eOp modD (eOp mulD (eVar 5) (eOp addD (eVar 5) (eC (.int 13)))) (eC (.int 2147483647))))))))
  (sRet (eLstM (aCons (eVar 3) (aCons (eOp modD (eB bAbs (aCons (eVar 2) aNil)) (eC (.int 2147483647))) aNil)))))))
/-- a fresh box of the script -/
theorem box_ok {S : Store} {ns : List Int} {k : Nat} (hl : ns.length ≤ 63) (hk : k < 63) : W (m__law_box [.scr ns, .int k] S) fun d S' => ∃ x y : Int, d = .ref S.length ∧ S' = S ++ [.lst [.int x, .int y]] ∧ 0 ≤ y ∧ y < 2147483647 := by
  have eb : b__law_box = sSeq (sSet 2 (eOp addD (eOp mulD (eC (.int 7919)) (eVar 1)) (eC (.int 13)))) (sSeq (sIf (bVal (eOp ltA (eVar 1) (eB bLenA (aCons (eVar 0) aNil)))) (sSet 2 (eIdxB (eVar 0) (eVar 1))) sPass) boxTail) := rfl
  unfold m__law_box
  rw [eb]
  have e0 : mulOk 7919 k = true := mulOk_lt (n := 13) (m := 7) (by decide) (by omega) (by decide)
  have key : ∀ h : Int, W (boxTail [some (.scr ns), some (.int k), some (.int h), none, none, none] S) (fun c S' => ∃ x y : Int, c = .rt (.ref S.length) ∧ S' = S ++ [.lst [.int x, .int y]] ∧ 0 ≤ y ∧ y < 2147483647) := by
    intro h
    unfold boxTail
    have ab : ∀ z : Int, 0 ≤ z % 2147483647 ∧ z % 2147483647 < 2147483647 := fun z => ⟨by omega, by omega⟩
    by_cases c : h % 2 = 0
    · simp [c, bAbs]
      exact ⟨_, _, ⟨rfl, rfl⟩, (ab _).1, (ab _).2⟩
    · simp [c]
      refine W.loop (I := fun i env S' => ∃ (num : Int) (z w : Option D), env = [some (.scr ns), some (.int k), some (.int h), some (.int num), z, w] ∧ 0 ≤ num ∧ num < 2 ^ (31 * i) ∧ S' = S) (k := 0)
        ⟨0, none, none, rfl, by omega, by decide, rfl⟩ (fun i d env S' hi hd hI => ?_) (fun env S' hI => ?_)
      · obtain ⟨num, z, w, rfl, h1, h2, rfl⟩ := hI
        obtain ⟨hi16, rfl⟩ := rng_get hd
        refine ⟨_, rfl, ?_⟩
        have hpow : (2 : Int) ^ (31 * i) ≤ 2 ^ 496 := by
          have : (2 : Nat) ^ (31 * i) ≤ 2 ^ 496 := Nat.pow_le_pow_right (by decide) (by simp at hi16; omega)
          exact_mod_cast this
        have e2 : mulOk num 2147483647 = true := mulOk_lt (n := 497) (m := 31) (by
          have h : num < 2 ^ 496 := Int.lt_of_lt_of_le h2 hpow
          have : num.natAbs < 2 ^ 496 := by omega
          omega) (by decide) (by decide)
        have e3 : ∀ z : Int, mulOk (z % 2147483647) 48271 = true := fun z => mulOk_lt (n := 31) (m := 16) (by omega) (by decide) (by decide)
        have e4 : mulOk 7919 i = true := mulOk_lt (n := 13) (m := 5) (by decide) (by simp at hi16; omega) (by decide)
        have e5 : ∀ z : Int, mulOk (z % 2147483647) (z % 2147483647) = true := fun z => mulOk_lt (n := 31) (m := 31) (by omega) (by omega) (by decide)
        have e6 : ∀ z : Int, mulOk (z % 2147483629) (z % 2147483629 + 13) = true := fun z => mulOk_lt (n := 32) (m := 32) (by omega) (by omega) (by decide)
        simp [e2, e3, e4, e5, e6]
        have e7 : (2 : Int) ^ (31 * (i + 1)) = 2 ^ (31 * i) * 2147483648 := by rw [Nat.mul_add, Int.pow_add]; rfl
        rw [e7]
        generalize (2 : Int) ^ (31 * i) = P at h2
        exact ⟨by omega, by omega⟩
      · obtain ⟨num, z, w, rfl, h1, h2, rfl⟩ := hI
        simp [bAbs]
        exact ⟨_, _, ⟨rfl, rfl⟩, (ab _).1, (ab _).2⟩
  by_cases c : k < ns.length
  · have hix : atP ns (k : Int) = some ns[k] := by
      unfold atP
      rw [ix_nn _ _ c]
      simp [c]
    simp only [u_fnM, W_bnd]
    simp [e0, bLenA, bLen, lenD, c, hix]
    refine ((key ns[k])).mono ?_
    rintro _ _ ⟨x, y, rfl, rfl, h1, h2⟩
    simp
    exact ⟨_, _, ⟨rfl, rfl⟩, h1, h2⟩
  · simp only [u_fnM, W_bnd]
    simp [e0, bLenA, bLen, lenD, c]
    refine ((key (7919 * k + 13))).mono ?_
    rintro _ _ ⟨x, y, rfl, rfl, h1, h2⟩
    simp
    exact ⟨_, _, ⟨rfl, rfl⟩, h1, h2⟩
end Ro
end

section
set_option Elab.async false
set_option linter.all false
set_option maxRecDepth 100000
set_option maxHeartbeats 4000000
namespace Ro
open PySem PySem.Spec PyProof.Rows L2
variable {T : Tb} {E : XK} {X : Cx} {a b c e : Expr} {es : List Expr} {f g h : EX} {fa ga fk : AX} {fb gb : BX} {pos : Pos} {st : Stmt} {sts rest : List Stmt} {s t : ES}
/-! ### calls, the numbers told apart -/
theorem ie_fnF {k n kn pn : Nat} {d : He.DefD} {x : Str} {p : Pos} {kws : List Keyword} {ps ks : List Str} {m : Fn} {pk : List (Nat × Nat)} {dfs : List D} (F : OkF T X.prog X.w X.mg X.base k d ps m) (hK : X.K = T.K) (hr : RG k X.A) (hg : Gl X x) (hm : X.mg x = some (.ref (He.fAd T.K d.at_)))
    (hb : ∀ fd, FunD T.K d.name d.qual d.params d.body d.scope (d.dvs T.K) [] (He.fAd T.K d.at_) fd → KBD T fd ps n ks pk dfs) (tk : Takes X fun c d _ H => E c d H) (ha : AK T E X es kws pos ks fa fk) (hdb : (x == ("__debug__" : Str)) = false := by decide +kernel) (h2 : ks.length = kn := by rfl) (h3 : ps.length = pn := by rfl) :
    IE T E X (.Call (.Name x p) es kws pos) (eFn (callM m n kn pn pk dfs) fa fk) := by
  subst h2 h3
  exact ie_fn F hK hr hg hm hb tk ha hdb
theorem ie_newF {k n n' kn pn : Nat} {cn : String} {d : He.DefD} {p : Pos} {kws : List Keyword} {ps ks : List Str} {m : Fn} {pk : List (Nat × Nat)} {dfs : List D} (F : OkF T X.prog X.w X.mg X.base k d ps m) (M : Mk T.K (He.ga T.K (cn : Str)) (He.fAd T.K d.at_)) (hK : X.K = T.K) (hr : RG (k + 1) X.A) (hg : Gl X (cn : Str)) (hm : X.mg (cn : Str) = some (.ref (He.ga T.K (cn : Str))))
    (hb : ∀ fd, FunD T.K d.name d.qual d.params d.body d.scope (d.dvs T.K) [] (He.fAd T.K d.at_) fd → KBD T fd ps n' ks pk dfs) (tk : Takes X fun c d _ H => E c d H) (ha : AK T E X es kws pos ks fa fk) (h1 : n' = n + 1) (hdb : ((cn : Str) == ("__debug__" : Str)) = false := by decide +kernel) (h2 : ks.length = kn := by rfl) (h3 : ps.length = pn := by rfl) :
    IE T E X (.Call (.Name (cn : Str) p) es kws pos) (eFn (newM cn (callM m n' kn pn pk dfs)) fa fk) := by
  subst h1 h2 h3
  exact ie_new F M hK hr hg hm hb tk ha hdb
theorem ie_methF {cf : String → List String} {cn mn : String} {k n n' kn pn : Nat} {d : He.DefD} {apos : Pos} {pl : Sem Bool} {kws : List Keyword} {ps ks : List Str} {m : Fn} {pk : List (Nat × Nat)} {dfs : List D} (hcf : T.cf = cf) (F : OkF T X.prog X.w X.mg X.base k d ps m) (hK : X.K = T.K) (hr : RG k X.A)
    (hc : Cls T.K (He.ga T.K (cn : Str))) (hm : Meth T.K (He.ga T.K (cn : Str)) (mn : Str) (He.fAd T.K d.at_))
    (hb : ∀ fd, FunD T.K d.name d.qual d.params d.body d.scope (d.dvs T.K) [] (He.fAd T.K d.at_) fd → KBD T fd ps n' ks pk dfs) (tk : Takes X fun c d _ H => E c d H) (ho : IE T E X a f) (ha : AK T E X es kws pos ks fa fk) (h1 : n' = n + 1)
    (ht : eval (.Call (.Attribute a (mn : Str) apos) es kws pos) X.env = (do
      let ov ← eval a X.env
      standAt apos.atName
      let (f, first) ← holding [ov] (getMethod ov (mn : Str) pl)
      callWith pos f first (backTo pos (starEach es X.env)) (backToKw pos (keywordEach kws X.env))) := by rfl) (h2 : ks.length = kn := by rfl) (h3 : ps.length = pn := by rfl) :
    IE T E X (.Call (.Attribute a (mn : Str) apos) es kws pos) (eMeth cf cn mn (callM m n' kn pn pk dfs) f fa fk) := by
  subst h1 h2 h3
  exact ie_meth hcf F hK hr hc hm hb tk ho ha ht
end Ro
end

section
set_option Elab.async false
set_option linter.all false
set_option maxRecDepth 100000
set_option maxHeartbeats 4000000
namespace Ro
open PySem PySem.Spec PyProof.Rows L2
/-! ### mirrors -/
def cf : String → List String
  | "NoSpending" => ["part"]
  | "NoRate" => ["money", "day"]
  | "NoHeads" => ["heads"]
  | "Spending" => ["kind", "amount", "day", "paper", "heads", "money"]
  | _ => []
def tysL : List Ty := [.b "NoneType", .b "bool", .b "int", .b "str", .b "tuple", .b "list", .b "dict", .o "Spending"]
def b__law_rates : ES :=
  (sSeq (sSet 1 eDctT)
  (sSeq (sFor (itR1 (aCons (eFn (callM m__law_take 2 0 2 [(0, 0), (0, 1)] []) (aCons (eVar 0) (aCons (eC (.int 13)) aNil)) aNil) aNil)) (pName 2) (sSeq (sSet 3 (eIdxB (eLst (aCons (eC (.int 0)) (aCons (eFn (callM m__law_take 2 0 2 [(0, 0), (0, 1)] []) (aCons (eVar 0) (aCons (eC (.int 60)) aNil)) aNil) (aCons (eFn (callM m__law_take 2 0 2 [(0, 0), (0, 1)] []) (aCons (eVar 0) (aCons (eC (.int 6)) aNil)) aNil) aNil)))) (eFn (callM m__law_take 2 0 2 [(0, 0), (0, 1)] []) (aCons (eVar 0) (aCons (eC (.int 3)) aNil)) aNil)))
  (sSeq (sSet 4 (eIdxB (eLst (aCons (eC (.int 1)) (aCons (eOp powD (eC (.int 10)) (eC (.int 6))) (aCons (eOp addD (eC (.int 1)) (eFn (callM m__law_take 2 0 2 [(0, 0), (0, 1)] []) (aCons (eVar 0) (aCons (eC (.int 200)) aNil)) aNil)) aNil)))) (eFn (callM m__law_take 2 0 2 [(0, 0), (0, 1)] []) (aCons (eVar 0) (aCons (eC (.int 3)) aNil)) aNil)))
  (sPutT (eVar 1) (aCons (eOp addD (eC (.int 1)) (eFn (callM m__law_take 2 0 2 [(0, 0), (0, 1)] []) (aCons (eVar 0) (aCons (eC (.int 3)) aNil)) aNil)) (aCons (eVar 3) aNil)) (eTup (aCons (eVar 4) (aCons (eIdxB (eLst (aCons (eC (.int 1)) (aCons (eOp powD (eC (.int 10)) (eC (.int 6))) (aCons (eC (.int 100)) (aCons (eOp addD (eC (.int 1)) (eFn (callM m__law_take 2 0 2 [(0, 0), (0, 1)] []) (aCons (eVar 0) (aCons (eC (.int 200)) aNil)) aNil)) aNil))))) (eFn (callM m__law_take 2 0 2 [(0, 0), (0, 1)] []) (aCons (eVar 0) (aCons (eC (.int 4)) aNil)) aNil)) aNil)))))))
  (sRet (eB bTuple (aCons (eLC [5] (itAny (eSorted (aCons (eVar 1) aNil))) (pName 5) bYes (eOp addD (eVar 5) (eIdxB (eVar 1) (eVar 5)))) aNil)))))
def m__law_rates : Fn := fnM 6 b__law_rates
def t__law_rates_5 : ES := (sPutT (eVar 1) (aCons (eOp addD (eC (.int 1)) (eFn (callM m__law_take 2 0 2 [(0, 0), (0, 1)] []) (aCons (eVar 0) (aCons (eC (.int 3)) aNil)) aNil)) (aCons (eVar 3) aNil)) (eTup (aCons (eVar 4) (aCons (eIdxB (eLst (aCons (eC (.int 1)) (aCons (eOp powD (eC (.int 10)) (eC (.int 6))) (aCons (eC (.int 100)) (aCons (eOp addD (eC (.int 1)) (eFn (callM m__law_take 2 0 2 [(0, 0), (0, 1)] []) (aCons (eVar 0) (aCons (eC (.int 200)) aNil)) aNil)) aNil))))) (eFn (callM m__law_take 2 0 2 [(0, 0), (0, 1)] []) (aCons (eVar 0) (aCons (eC (.int 4)) aNil)) aNil)) aNil))))
def t__law_rates_4 : ES := (sSeq (sSet 4 (eIdxB (eLst (aCons (eC (.int 1)) (aCons (eOp powD (eC (.int 10)) (eC (.int 6))) (aCons (eOp addD (eC (.int 1)) (eFn (callM m__law_take 2 0 2 [(0, 0), (0, 1)] []) (aCons (eVar 0) (aCons (eC (.int 200)) aNil)) aNil)) aNil)))) (eFn (callM m__law_take 2 0 2 [(0, 0), (0, 1)] []) (aCons (eVar 0) (aCons (eC (.int 3)) aNil)) aNil))) t__law_rates_5)
def t__law_rates_3 : ES := (sSeq (sSet 3 (eIdxB (eLst (aCons (eC (.int 0)) (aCons (eFn (callM m__law_take 2 0 2 [(0, 0), (0, 1)] []) (aCons (eVar 0) (aCons (eC (.int 60)) aNil)) aNil) (aCons (eFn (callM m__law_take 2 0 2 [(0, 0), (0, 1)] []) (aCons (eVar 0) (aCons (eC (.int 6)) aNil)) aNil) aNil)))) (eFn (callM m__law_take 2 0 2 [(0, 0), (0, 1)] []) (aCons (eVar 0) (aCons (eC (.int 3)) aNil)) aNil))) t__law_rates_4)
def t__law_rates_6 : ES := (sRet (eB bTuple (aCons (eLC [5] (itAny (eSorted (aCons (eVar 1) aNil))) (pName 5) bYes (eOp addD (eVar 5) (eIdxB (eVar 1) (eVar 5)))) aNil)))
def t__law_rates_2 : ES := (sSeq (sFor (itR1 (aCons (eFn (callM m__law_take 2 0 2 [(0, 0), (0, 1)] []) (aCons (eVar 0) (aCons (eC (.int 13)) aNil)) aNil) aNil)) (pName 2) t__law_rates_3) t__law_rates_6)
theorem x__law_rates : b__law_rates = (sSeq (sSet 1 eDctT) t__law_rates_2) := rfl
def b__law_row : ES :=
  (sSeq (sSet 1 (eIdxB (eLst (aCons (eC (.str "bed")) (aCons (eC (.str "fee")) (aCons (eC (.str "meal")) (aCons (eC (.str "ride")) (aCons (eC (.str "sundry")) aNil)))))) (eFn (callM m__law_take 2 0 2 [(0, 0), (0, 1)] []) (aCons (eVar 0) (aCons (eC (.int 5)) aNil)) aNil)))
  (sSeq (sSet 2 (eIdxB (eLst (aCons (eC (.int 1)) (aCons (eOp powD (eC (.int 10)) (eC (.int 6))) (aCons (eOp addD (eC (.int 1)) (eFn (callM m__law_take 2 0 2 [(0, 0), (0, 1)] []) (aCons (eVar 0) (aCons (eC (.int 400)) aNil)) aNil)) (aCons (eOp addD (eC (.int 1)) (eFn (callM m__law_take 2 0 2 [(0, 0), (0, 1)] []) (aCons (eVar 0) (aCons (eOp powD (eC (.int 10)) (eC (.int 6))) aNil)) aNil)) aNil))))) (eFn (callM m__law_take 2 0 2 [(0, 0), (0, 1)] []) (aCons (eVar 0) (aCons (eC (.int 4)) aNil)) aNil)))
  (sSeq (sPar2 4 5 (aCons (eIdxB (eLst (aCons (eC (.int 0)) (aCons (eC (.int 59)) (aCons (eFn (callM m__law_take 2 0 2 [(0, 0), (0, 1)] []) (aCons (eVar 0) (aCons (eC (.int 5)) aNil)) aNil) (aCons (eFn (callM m__law_take 2 0 2 [(0, 0), (0, 1)] []) (aCons (eVar 0) (aCons (eC (.int 60)) aNil)) aNil) aNil))))) (eFn (callM m__law_take 2 0 2 [(0, 0), (0, 1)] []) (aCons (eVar 0) (aCons (eC (.int 4)) aNil)) aNil)) (aCons (eOp gtD (eFn (callM m__law_take 2 0 2 [(0, 0), (0, 1)] []) (aCons (eVar 0) (aCons (eC (.int 3)) aNil)) aNil) (eC (.int 0))) aNil)))
  (sSeq (sSet 3 (eIdxB (eLst (aCons (eC (.int 1)) (aCons (eC (.int 1)) (aCons (eC (.int 6)) (aCons (eOp addD (eC (.int 1)) (eFn (callM m__law_take 2 0 2 [(0, 0), (0, 1)] []) (aCons (eVar 0) (aCons (eC (.int 6)) aNil)) aNil)) aNil))))) (eFn (callM m__law_take 2 0 2 [(0, 0), (0, 1)] []) (aCons (eVar 0) (aCons (eC (.int 4)) aNil)) aNil)))
  (sRet (eTup (aCons (eVar 1) (aCons (eVar 2) (aCons (eVar 4) (aCons (eVar 5) (aCons (eVar 3) (aCons (eIdxB (eLst (aCons (eC (.int 0)) (aCons (eFn (callM m__law_take 2 0 2 [(0, 0), (0, 1)] []) (aCons (eVar 0) (aCons (eC (.int 4)) aNil)) aNil) aNil))) (eFn (callM m__law_take 2 0 2 [(0, 0), (0, 1)] []) (aCons (eVar 0) (aCons (eC (.int 2)) aNil)) aNil)) aNil))))))))))))
def m__law_row : Fn := fnM 6 b__law_row
def t__law_row_5 : ES := (sRet (eTup (aCons (eVar 1) (aCons (eVar 2) (aCons (eVar 4) (aCons (eVar 5) (aCons (eVar 3) (aCons (eIdxB (eLst (aCons (eC (.int 0)) (aCons (eFn (callM m__law_take 2 0 2 [(0, 0), (0, 1)] []) (aCons (eVar 0) (aCons (eC (.int 4)) aNil)) aNil) aNil))) (eFn (callM m__law_take 2 0 2 [(0, 0), (0, 1)] []) (aCons (eVar 0) (aCons (eC (.int 2)) aNil)) aNil)) aNil))))))))
def t__law_row_4 : ES := (sSeq (sSet 3 (eIdxB (eLst (aCons (eC (.int 1)) (aCons (eC (.int 1)) (aCons (eC (.int 6)) (aCons (eOp addD (eC (.int 1)) (eFn (callM m__law_take 2 0 2 [(0, 0), (0, 1)] []) (aCons (eVar 0) (aCons (eC (.int 6)) aNil)) aNil)) aNil))))) (eFn (callM m__law_take 2 0 2 [(0, 0), (0, 1)] []) (aCons (eVar 0) (aCons (eC (.int 4)) aNil)) aNil))) t__law_row_5)
def t__law_row_3 : ES := (sSeq (sPar2 4 5 (aCons (eIdxB (eLst (aCons (eC (.int 0)) (aCons (eC (.int 59)) (aCons (eFn (callM m__law_take 2 0 2 [(0, 0), (0, 1)] []) (aCons (eVar 0) (aCons (eC (.int 5)) aNil)) aNil) (aCons (eFn (callM m__law_take 2 0 2 [(0, 0), (0, 1)] []) (aCons (eVar 0) (aCons (eC (.int 60)) aNil)) aNil) aNil))))) (eFn (callM m__law_take 2 0 2 [(0, 0), (0, 1)] []) (aCons (eVar 0) (aCons (eC (.int 4)) aNil)) aNil)) (aCons (eOp gtD (eFn (callM m__law_take 2 0 2 [(0, 0), (0, 1)] []) (aCons (eVar 0) (aCons (eC (.int 3)) aNil)) aNil) (eC (.int 0))) aNil))) t__law_row_4)
def t__law_row_2 : ES := (sSeq (sSet 2 (eIdxB (eLst (aCons (eC (.int 1)) (aCons (eOp powD (eC (.int 10)) (eC (.int 6))) (aCons (eOp addD (eC (.int 1)) (eFn (callM m__law_take 2 0 2 [(0, 0), (0, 1)] []) (aCons (eVar 0) (aCons (eC (.int 400)) aNil)) aNil)) (aCons (eOp addD (eC (.int 1)) (eFn (callM m__law_take 2 0 2 [(0, 0), (0, 1)] []) (aCons (eVar 0) (aCons (eOp powD (eC (.int 10)) (eC (.int 6))) aNil)) aNil)) aNil))))) (eFn (callM m__law_take 2 0 2 [(0, 0), (0, 1)] []) (aCons (eVar 0) (aCons (eC (.int 4)) aNil)) aNil))) t__law_row_3)
theorem x__law_row : b__law_row = (sSeq (sSet 1 (eIdxB (eLst (aCons (eC (.str "bed")) (aCons (eC (.str "fee")) (aCons (eC (.str "meal")) (aCons (eC (.str "ride")) (aCons (eC (.str "sundry")) aNil)))))) (eFn (callM m__law_take 2 0 2 [(0, 0), (0, 1)] []) (aCons (eVar 0) (aCons (eC (.int 5)) aNil)) aNil))) t__law_row_2) := rfl
def b__law_rate : ES :=
  (sSeq (sIf (bVal (eOp eqD (eVar 1) (eC (.int 0)))) (sRet (eTup (aCons (eC (.int 1)) (aCons (eC (.int 1)) aNil)))) sPass)
  (sSeq (sSet 3 (eC .non))
  (sSeq (sFor (itAny (eVar 0)) (pTup (pCons (pName 4) (pCons (pName 5) (pCons (pName 6) (pCons (pName 7) pNil))))) (sIf (bAnd (bVal (eOp eqD (eVar 4) (eVar 1))) (bVal (eOp leD (eVar 5) (eVar 2)))) (sSet 3 (eTup (aCons (eVar 6) (aCons (eVar 7) aNil)))) sPass))
  (sRet (eVar 3)))))
def m__law_rate : Fn := fnM 8 b__law_rate
def t__law_rate_5 : ES := (sIf (bAnd (bVal (eOp eqD (eVar 4) (eVar 1))) (bVal (eOp leD (eVar 5) (eVar 2)))) (sSet 3 (eTup (aCons (eVar 6) (aCons (eVar 7) aNil)))) sPass)
def t__law_rate_7 : ES := (sRet (eVar 3))
def t__law_rate_4 : ES := (sSeq (sFor (itAny (eVar 0)) (pTup (pCons (pName 4) (pCons (pName 5) (pCons (pName 6) (pCons (pName 7) pNil))))) t__law_rate_5) t__law_rate_7)
def t__law_rate_3 : ES := (sSeq (sSet 3 (eC .non)) t__law_rate_4)
theorem x__law_rate : b__law_rate = (sSeq (sIf (bVal (eOp eqD (eVar 1) (eC (.int 0)))) (sRet (eTup (aCons (eC (.int 1)) (aCons (eC (.int 1)) aNil)))) sPass) t__law_rate_3) := rfl
def b_is_kind : ES :=
  (sRet (eAnd (eIsI tysL (.b "str") (eVar 0)) (eOp inD (eVar 0) (eC (.tup [.str "bed", .str "fee", .str "meal", .str "ride", .str "sundry"])))))
def m_is_kind : Fn := fnM 1 b_is_kind
def b_is_whole : ES :=
  (sRet (eAnd (eIsI tysL (.b "int") (eVar 0)) (eAnd (eNot (eIsI tysL (.b "bool") (eVar 0))) (eChain leD leD (eVar 1) (eVar 0) (eVar 2)))))
def m_is_whole : Fn := fnM 3 b_is_whole
def b_Spending_init : ES :=
  (sSeq (sIf (bNot (bVal (eFn (callM m_is_kind 1 0 1 [(0, 0)] []) (aCons (eVar 1) aNil) aNil))) sBad sPass)
  (sSeq (sIf (bNot (bVal (eFn (callM m_is_whole 3 0 3 [(0, 0), (0, 1), (0, 2)] []) (aCons (eVar 2) (aCons (eC (.int 1)) (aCons (eC (.int 1000000)) aNil))) aNil))) sBad sPass)
  (sSeq (sIf (bNot (bVal (eFn (callM m_is_whole 3 0 3 [(0, 0), (0, 1), (0, 2)] []) (aCons (eVar 3) (aCons (eC (.int 0)) (aCons (eC (.int 59)) aNil))) aNil))) sBad sPass)
  (sSeq (sIf (bNot (bVal (eIsI tysL (.b "bool") (eVar 4)))) sBad sPass)
  (sSeq (sIf (bVal (eFn (callM m_is_whole 3 0 3 [(0, 0), (0, 1), (0, 2)] []) (aCons (eVar 5) (aCons (eC (.int 0)) (aCons (eC (.int 0)) aNil))) aNil)) sBad sPass)
  (sSeq (sIf (bNot (bVal (eFn (callM m_is_whole 3 0 3 [(0, 0), (0, 1), (0, 2)] []) (aCons (eVar 5) (aCons (eC (.int 1)) (aCons (eC (.int 6)) aNil))) aNil))) sBad sPass)
  (sSeq (sIf (bNot (bVal (eFn (callM m_is_whole 3 0 3 [(0, 0), (0, 1), (0, 2)] []) (aCons (eVar 6) (aCons (eC (.int 0)) (aCons (eC (.int 3)) aNil))) aNil))) sBad sPass)
  (sSeq (sSetAttr ["Spending"] "kind" (eVar 0) (eVar 1))
  (sSeq (sSetAttr ["Spending"] "amount" (eVar 0) (eVar 2))
  (sSeq (sSetAttr ["Spending"] "day" (eVar 0) (eVar 3))
  (sSeq (sSetAttr ["Spending"] "paper" (eVar 0) (eVar 4))
  (sSeq (sSetAttr ["Spending"] "heads" (eVar 0) (eVar 5))
  (sSetAttr ["Spending"] "money" (eVar 0) (eVar 6))))))))))))))
def m_Spending_init : Fn := fnM 7 b_Spending_init
def t_Spending_init_20 : ES := (sSetAttr ["Spending"] "money" (eVar 0) (eVar 6))
def t_Spending_init_19 : ES := (sSeq (sSetAttr ["Spending"] "heads" (eVar 0) (eVar 5)) t_Spending_init_20)
def t_Spending_init_18 : ES := (sSeq (sSetAttr ["Spending"] "paper" (eVar 0) (eVar 4)) t_Spending_init_19)
def t_Spending_init_17 : ES := (sSeq (sSetAttr ["Spending"] "day" (eVar 0) (eVar 3)) t_Spending_init_18)
def t_Spending_init_16 : ES := (sSeq (sSetAttr ["Spending"] "amount" (eVar 0) (eVar 2)) t_Spending_init_17)
def t_Spending_init_15 : ES := (sSeq (sSetAttr ["Spending"] "kind" (eVar 0) (eVar 1)) t_Spending_init_16)
def t_Spending_init_13 : ES := (sSeq (sIf (bNot (bVal (eFn (callM m_is_whole 3 0 3 [(0, 0), (0, 1), (0, 2)] []) (aCons (eVar 6) (aCons (eC (.int 0)) (aCons (eC (.int 3)) aNil))) aNil))) sBad sPass) t_Spending_init_15)
def t_Spending_init_11 : ES := (sSeq (sIf (bNot (bVal (eFn (callM m_is_whole 3 0 3 [(0, 0), (0, 1), (0, 2)] []) (aCons (eVar 5) (aCons (eC (.int 1)) (aCons (eC (.int 6)) aNil))) aNil))) sBad sPass) t_Spending_init_13)
def t_Spending_init_9 : ES := (sSeq (sIf (bVal (eFn (callM m_is_whole 3 0 3 [(0, 0), (0, 1), (0, 2)] []) (aCons (eVar 5) (aCons (eC (.int 0)) (aCons (eC (.int 0)) aNil))) aNil)) sBad sPass) t_Spending_init_11)
def t_Spending_init_7 : ES := (sSeq (sIf (bNot (bVal (eIsI tysL (.b "bool") (eVar 4)))) sBad sPass) t_Spending_init_9)
def t_Spending_init_5 : ES := (sSeq (sIf (bNot (bVal (eFn (callM m_is_whole 3 0 3 [(0, 0), (0, 1), (0, 2)] []) (aCons (eVar 3) (aCons (eC (.int 0)) (aCons (eC (.int 59)) aNil))) aNil))) sBad sPass) t_Spending_init_7)
def t_Spending_init_3 : ES := (sSeq (sIf (bNot (bVal (eFn (callM m_is_whole 3 0 3 [(0, 0), (0, 1), (0, 2)] []) (aCons (eVar 2) (aCons (eC (.int 1)) (aCons (eC (.int 1000000)) aNil))) aNil))) sBad sPass) t_Spending_init_5)
theorem x_Spending_init : b_Spending_init = (sSeq (sIf (bNot (bVal (eFn (callM m_is_kind 1 0 1 [(0, 0)] []) (aCons (eVar 1) aNil) aNil))) sBad sPass) t_Spending_init_3) := rfl
def b__law_spent : ES :=
  (sRet (eFrz cf (eFn (newM "Spending" (callM m_Spending_init 3 4 7 [(0, 0), (0, 1), (0, 2), (2, 0), (2, 1), (2, 2), (2, 3)] [.int 0, .bl true, .int 1, .int 0])) (aCons (eIdxB (eVar 0) (eC (.int 0))) (aCons (eIdxB (eVar 0) (eC (.int 1))) aNil)) (aCons (eIdxB (eVar 0) (eC (.int 2))) (aCons (eIdxB (eVar 0) (eC (.int 3))) (aCons (eIdxB (eVar 0) (eC (.int 4))) (aCons (eIdxB (eVar 0) (eC (.int 5))) aNil)))))))
def m__law_spent : Fn := fnM 1 b__law_spent
def b_is_rate : ES :=
  (sSeq (sIf (bOr (bNot (bVal (eIsI tysL (.b "tuple") (eVar 0)))) (bVal (eOp neD (eB bLenA (aCons (eVar 0) aNil)) (eC (.int 4))))) (sRet (eC (.bl false))) sPass)
  (sSeq (sIf (bOr (bNot (bVal (eFn (callM m_is_whole 3 0 3 [(0, 0), (0, 1), (0, 2)] []) (aCons (eIdxB (eVar 0) (eC (.int 0))) (aCons (eC (.int 1)) (aCons (eC (.int 3)) aNil))) aNil))) (bNot (bVal (eFn (callM m_is_whole 3 0 3 [(0, 0), (0, 1), (0, 2)] []) (aCons (eIdxB (eVar 0) (eC (.int 1))) (aCons (eC (.int 0)) (aCons (eC (.int 59)) aNil))) aNil)))) (sRet (eC (.bl false))) sPass)
  (sRet (eAnd (eFn (callM m_is_whole 3 0 3 [(0, 0), (0, 1), (0, 2)] []) (aCons (eIdxB (eVar 0) (eC (.int 2))) (aCons (eC (.int 1)) (aCons (eC (.int 1000000)) aNil))) aNil) (eFn (callM m_is_whole 3 0 3 [(0, 0), (0, 1), (0, 2)] []) (aCons (eIdxB (eVar 0) (eC (.int 3))) (aCons (eC (.int 1)) (aCons (eC (.int 1000000)) aNil))) aNil)))))
def m_is_rate : Fn := fnM 1 b_is_rate
def t_is_rate_5 : ES := (sRet (eAnd (eFn (callM m_is_whole 3 0 3 [(0, 0), (0, 1), (0, 2)] []) (aCons (eIdxB (eVar 0) (eC (.int 2))) (aCons (eC (.int 1)) (aCons (eC (.int 1000000)) aNil))) aNil) (eFn (callM m_is_whole 3 0 3 [(0, 0), (0, 1), (0, 2)] []) (aCons (eIdxB (eVar 0) (eC (.int 3))) (aCons (eC (.int 1)) (aCons (eC (.int 1000000)) aNil))) aNil)))
def t_is_rate_3 : ES := (sSeq (sIf (bOr (bNot (bVal (eFn (callM m_is_whole 3 0 3 [(0, 0), (0, 1), (0, 2)] []) (aCons (eIdxB (eVar 0) (eC (.int 0))) (aCons (eC (.int 1)) (aCons (eC (.int 3)) aNil))) aNil))) (bNot (bVal (eFn (callM m_is_whole 3 0 3 [(0, 0), (0, 1), (0, 2)] []) (aCons (eIdxB (eVar 0) (eC (.int 1))) (aCons (eC (.int 0)) (aCons (eC (.int 59)) aNil))) aNil)))) (sRet (eC (.bl false))) sPass) t_is_rate_5)
theorem x_is_rate : b_is_rate = (sSeq (sIf (bOr (bNot (bVal (eIsI tysL (.b "tuple") (eVar 0)))) (bVal (eOp neD (eB bLenA (aCons (eVar 0) aNil)) (eC (.int 4))))) (sRet (eC (.bl false))) sPass) t_is_rate_3) := rfl
def b_need_rates : ES :=
  (sSeq (sIf (bOr (bNot (bVal (eIsI tysL (.b "tuple") (eVar 0)))) (bOr (bVal (eOp gtD (eB bLenA (aCons (eVar 0) aNil)) (eC (.int 12)))) (bNot (bVal (eB bAll (aCons (eLC [1] (itAny (eVar 0)) (pName 1) bYes (eFn (callM m_is_rate 1 0 1 [(0, 0)] []) (aCons (eVar 1) aNil) aNil)) aNil)))))) sBad sPass)
  (sIf (bNot (bVal (eB bAll (aCons (eLC [1, 2] (itZip (aCons (eCut (eVar 0) oNone (oSome (eUn negD (eC (.int 1))))) (aCons (eCut (eVar 0) (oSome (eC (.int 1))) oNone) aNil))) (pTup (pCons (pName 1) (pCons (pName 2) pNil))) bYes (eOp ltA (eCut (eVar 1) oNone (oSome (eC (.int 2)))) (eCut (eVar 2) oNone (oSome (eC (.int 2)))))) aNil)))) sBad sPass))
def m_need_rates : Fn := fnM 3 b_need_rates
def t_need_rates_3 : ES := (sIf (bNot (bVal (eB bAll (aCons (eLC [1, 2] (itZip (aCons (eCut (eVar 0) oNone (oSome (eUn negD (eC (.int 1))))) (aCons (eCut (eVar 0) (oSome (eC (.int 1))) oNone) aNil))) (pTup (pCons (pName 1) (pCons (pName 2) pNil))) bYes (eOp ltA (eCut (eVar 1) oNone (oSome (eC (.int 2)))) (eCut (eVar 2) oNone (oSome (eC (.int 2)))))) aNil)))) sBad sPass)
theorem x_need_rates : b_need_rates = (sSeq (sIf (bOr (bNot (bVal (eIsI tysL (.b "tuple") (eVar 0)))) (bOr (bVal (eOp gtD (eB bLenA (aCons (eVar 0) aNil)) (eC (.int 12)))) (bNot (bVal (eB bAll (aCons (eLC [1] (itAny (eVar 0)) (pName 1) bYes (eFn (callM m_is_rate 1 0 1 [(0, 0)] []) (aCons (eVar 1) aNil) aNil)) aNil)))))) sBad sPass) t_need_rates_3) := rfl
def b_rate_by : ES :=
  (sSeq (sIf (bVal (eOp eqD (eVar 1) (eC (.int 0)))) (sRet (eTup (aCons (eC (.int 1)) (aCons (eC (.int 1)) aNil)))) sPass)
  (sSeq (sSet 3 (eLC [4] (itAny (eVar 0)) (pName 4) (bAnd (bVal (eOp eqD (eIdxB (eVar 4) (eC (.int 0))) (eVar 1))) (bVal (eOp leD (eIdxB (eVar 4) (eC (.int 1))) (eVar 2)))) (eVar 4)))
  (sSeq (sIf (bVal (eOp eqD (eVar 3) (eLst aNil))) sBad sPass)
  (sRet (eCut (eIdxB (eVar 3) (eUn negD (eC (.int 1)))) (oSome (eC (.int 2))) oNone)))))
def m_rate_by : Fn := fnM 5 b_rate_by
def t_rate_by_6 : ES := (sRet (eCut (eIdxB (eVar 3) (eUn negD (eC (.int 1)))) (oSome (eC (.int 2))) oNone))
def t_rate_by_4 : ES := (sSeq (sIf (bVal (eOp eqD (eVar 3) (eLst aNil))) sBad sPass) t_rate_by_6)
def t_rate_by_3 : ES := (sSeq (sSet 3 (eLC [4] (itAny (eVar 0)) (pName 4) (bAnd (bVal (eOp eqD (eIdxB (eVar 4) (eC (.int 0))) (eVar 1))) (bVal (eOp leD (eIdxB (eVar 4) (eC (.int 1))) (eVar 2)))) (eVar 4))) t_rate_by_4)
theorem x_rate_by : b_rate_by = (sSeq (sIf (bVal (eOp eqD (eVar 1) (eC (.int 0)))) (sRet (eTup (aCons (eC (.int 1)) (aCons (eC (.int 1)) aNil)))) sPass) t_rate_by_3) := rfl
def b_share_by : ES :=
  (sSeq (sUnp (pTup (pCons (pName 3) (pCons (pName 4) pNil))) (eFn (callM m_rate_by 3 0 3 [(0, 0), (0, 1), (0, 2)] []) (aCons (eVar 1) (aCons (eAttr cf ["Spending"] "money" (eVar 0)) (aCons (eAttr cf ["Spending"] "day" (eVar 0)) aNil))) aNil))
  (sSeq (sSet 2 (eOp mulD (eVar 4) (eAttr cf ["Spending"] "heads" (eVar 0))))
  (sRet (eOp fdivD (eOp addD (eOp mulD (eOp mulD (eC (.int 2)) (eAttr cf ["Spending"] "amount" (eVar 0))) (eVar 3)) (eVar 2)) (eOp mulD (eC (.int 2)) (eVar 2))))))
def m_share_by : Fn := fnM 5 b_share_by
def t_share_by_3 : ES := (sRet (eOp fdivD (eOp addD (eOp mulD (eOp mulD (eC (.int 2)) (eAttr cf ["Spending"] "amount" (eVar 0))) (eVar 3)) (eVar 2)) (eOp mulD (eC (.int 2)) (eVar 2))))
def t_share_by_2 : ES := (sSeq (sSet 2 (eOp mulD (eVar 4) (eAttr cf ["Spending"] "heads" (eVar 0)))) t_share_by_3)
theorem x_share_by : b_share_by = (sSeq (sUnp (pTup (pCons (pName 3) (pCons (pName 4) pNil))) (eFn (callM m_rate_by 3 0 3 [(0, 0), (0, 1), (0, 2)] []) (aCons (eVar 1) (aCons (eAttr cf ["Spending"] "money" (eVar 0)) (aCons (eAttr cf ["Spending"] "day" (eVar 0)) aNil))) aNil)) t_share_by_2) := rfl
def b_share_of : ES :=
  (sSeq (sSet 2 (eIf (bVal (eOp isND (eVar 1) (eC .non))) (eTup aNil) (eVar 1)))
  (sSeq (sExpr (eFn (callM m_need_rates 1 0 1 [(0, 0)] []) (aCons (eVar 2) aNil) aNil))
  (sRet (eFn (callM m_share_by 2 0 2 [(0, 0), (0, 1)] []) (aCons (eVar 0) (aCons (eVar 2) aNil)) aNil))))
def m_share_of : Fn := fnM 3 b_share_of
def t_share_of_3 : ES := (sRet (eFn (callM m_share_by 2 0 2 [(0, 0), (0, 1)] []) (aCons (eVar 0) (aCons (eVar 2) aNil)) aNil))
def t_share_of_2 : ES := (sSeq (sExpr (eFn (callM m_need_rates 1 0 1 [(0, 0)] []) (aCons (eVar 2) aNil) aNil)) t_share_of_3)
theorem x_share_of : b_share_of = (sSeq (sSet 2 (eIf (bVal (eOp isND (eVar 1) (eC .non))) (eTup aNil) (eVar 1))) t_share_of_2) := rfl
def b_rate_on : ES :=
  (sSeq (sExpr (eFn (callM m_need_rates 1 0 1 [(0, 0)] []) (aCons (eVar 0) aNil) aNil))
  (sRet (eFn (callM m_rate_by 3 0 3 [(0, 0), (0, 1), (0, 2)] []) (aCons (eVar 0) (aCons (eVar 1) (aCons (eVar 2) aNil))) aNil)))
def m_rate_on : Fn := fnM 3 b_rate_on
def t_rate_on_2 : ES := (sRet (eFn (callM m_rate_by 3 0 3 [(0, 0), (0, 1), (0, 2)] []) (aCons (eVar 0) (aCons (eVar 1) (aCons (eVar 2) aNil))) aNil))
theorem x_rate_on : b_rate_on = (sSeq (sExpr (eFn (callM m_need_rates 1 0 1 [(0, 0)] []) (aCons (eVar 0) aNil) aNil)) t_rate_on_2) := rfl
def b_Spending_all_parts : ES :=
  (sRet (eTup (aCons (eAttr cf ["Spending"] "kind" (eVar 0)) (aCons (eAttr cf ["Spending"] "amount" (eVar 0)) (aCons (eAttr cf ["Spending"] "day" (eVar 0)) (aCons (eAttr cf ["Spending"] "paper" (eVar 0)) (aCons (eAttr cf ["Spending"] "heads" (eVar 0)) (aCons (eAttr cf ["Spending"] "money" (eVar 0)) aNil))))))))
def m_Spending_all_parts : Fn := fnM 1 b_Spending_all_parts
def b_Spending_but : ES :=
  (sSeq (sSet 7 (eTup (aCons (eVar 1) (aCons (eVar 2) (aCons (eVar 3) (aCons (eVar 4) (aCons (eVar 5) (aCons (eVar 6) aNil))))))))
  (sSeq (sSet 8 (eLC [9, 10] (itZip (aCons (eVar 7) (aCons (eMeth cf "Spending" "all_parts" (callM m_Spending_all_parts 1 0 1 [(0, 0)] []) (eVar 0) aNil aNil) aNil))) (pTup (pCons (pName 9) (pCons (pName 10) pNil))) bYes (eIf (bVal (eOp isND (eVar 9) (eC .non))) (eVar 10) (eVar 9))))
  (sRet (eFrz cf (eFn (newM "Spending" (callM m_Spending_init 3 4 7 [(0, 0), (0, 1), (0, 2), (2, 0), (2, 1), (2, 2), (2, 3)] [.int 0, .bl true, .int 1, .int 0])) (aCons (eIdxB (eVar 8) (eC (.int 0))) (aCons (eIdxB (eVar 8) (eC (.int 1))) aNil)) (aCons (eIdxB (eVar 8) (eC (.int 2))) (aCons (eIdxB (eVar 8) (eC (.int 3))) (aCons (eIdxB (eVar 8) (eC (.int 4))) (aCons (eIdxB (eVar 8) (eC (.int 5))) aNil)))))))))
def m_Spending_but : Fn := fnM 11 b_Spending_but
def t_Spending_but_3 : ES := (sRet (eFrz cf (eFn (newM "Spending" (callM m_Spending_init 3 4 7 [(0, 0), (0, 1), (0, 2), (2, 0), (2, 1), (2, 2), (2, 3)] [.int 0, .bl true, .int 1, .int 0])) (aCons (eIdxB (eVar 8) (eC (.int 0))) (aCons (eIdxB (eVar 8) (eC (.int 1))) aNil)) (aCons (eIdxB (eVar 8) (eC (.int 2))) (aCons (eIdxB (eVar 8) (eC (.int 3))) (aCons (eIdxB (eVar 8) (eC (.int 4))) (aCons (eIdxB (eVar 8) (eC (.int 5))) aNil)))))))
def t_Spending_but_2 : ES := (sSeq (sSet 8 (eLC [9, 10] (itZip (aCons (eVar 7) (aCons (eMeth cf "Spending" "all_parts" (callM m_Spending_all_parts 1 0 1 [(0, 0)] []) (eVar 0) aNil aNil) aNil))) (pTup (pCons (pName 9) (pCons (pName 10) pNil))) bYes (eIf (bVal (eOp isND (eVar 9) (eC .non))) (eVar 10) (eVar 9)))) t_Spending_but_3)
theorem x_Spending_but : b_Spending_but = (sSeq (sSet 7 (eTup (aCons (eVar 1) (aCons (eVar 2) (aCons (eVar 3) (aCons (eVar 4) (aCons (eVar 5) (aCons (eVar 6) aNil)))))))) t_Spending_but_2) := rfl
def b__law_shares_right : ES :=
  (sSeq (sSet 3 (eFn (callM m__law_spent 1 0 1 [(0, 0)] []) (aCons (eVar 1) aNil) aNil))
  (sSeq (sSet 4 (eFn (callM m_share_of 2 0 2 [(0, 0), (0, 1)] [.non]) (aCons (eVar 3) (aCons (eVar 2) aNil)) aNil))
  (sSeq (sUnp (pTup (pCons (pName 6) (pCons (pName 7) pNil))) (eFn (callM m_rate_on 3 0 3 [(0, 0), (0, 1), (0, 2)] []) (aCons (eVar 2) (aCons (eIdxB (eVar 1) (eC (.int 5))) (aCons (eIdxB (eVar 1) (eC (.int 2))) aNil))) aNil))
  (sSeq (sSet 5 (eOp mulD (eVar 7) (eIdxB (eVar 1) (eC (.int 4)))))
  (sSeq (sIf (bVal (eOp gtD (eB bAbs (aCons (eOp subD (eOp mulD (eOp mulD (eC (.int 2)) (eVar 4)) (eVar 5)) (eOp mulD (eOp mulD (eC (.int 2)) (eIdxB (eVar 1) (eC (.int 1)))) (eVar 6))) aNil)) (eVar 5))) (sRet (eC (.bl false))) sPass)
  (sSeq (sIf (bAnd (bVal (eOp ltA (eIdxB (eVar 1) (eC (.int 1))) (eOp powD (eC (.int 10)) (eC (.int 6))))) (bVal (eOp ltA (eFn (callM m_share_of 2 0 2 [(0, 0), (0, 1)] [.non]) (aCons (eMeth cf "Spending" "but" (callM m_Spending_but 1 1 7 [(0, 0), (1, 0), (2, 0), (1, 2), (1, 3), (1, 4), (1, 5)] [.non, .non, .non, .non, .non, .non]) (eVar 3) aNil (aCons (eOp addD (eIdxB (eVar 1) (eC (.int 1))) (eC (.int 1))) aNil)) (aCons (eVar 2) aNil)) aNil) (eVar 4)))) (sRet (eC (.bl false))) sPass)
  (sSeq (sIf (bAnd (bVal (eOp ltA (eIdxB (eVar 1) (eC (.int 4))) (eC (.int 6)))) (bVal (eOp gtD (eFn (callM m_share_of 2 0 2 [(0, 0), (0, 1)] [.non]) (aCons (eMeth cf "Spending" "but" (callM m_Spending_but 1 1 7 [(0, 0), (1, 0), (1, 1), (1, 2), (1, 3), (2, 0), (1, 5)] [.non, .non, .non, .non, .non, .non]) (eVar 3) aNil (aCons (eOp addD (eIdxB (eVar 1) (eC (.int 4))) (eC (.int 1))) aNil)) (aCons (eVar 2) aNil)) aNil) (eVar 4)))) (sRet (eC (.bl false))) sPass)
  (sSeq (sIf (bAnd (bVal (eOp ltA (eIdxB (eVar 1) (eC (.int 4))) (eC (.int 4)))) (bVal (eOp leD (eIdxB (eVar 1) (eC (.int 1))) (eOp mulD (eC (.int 5)) (eOp powD (eC (.int 10)) (eC (.int 5))))))) (sIf (bVal (eOp neD (eFn (callM m_share_of 2 0 2 [(0, 0), (0, 1)] [.non]) (aCons (eMeth cf "Spending" "but" (callM m_Spending_but 1 2 7 [(0, 0), (1, 0), (2, 0), (1, 2), (1, 3), (2, 1), (1, 5)] [.non, .non, .non, .non, .non, .non]) (eVar 3) aNil (aCons (eOp mulD (eC (.int 2)) (eIdxB (eVar 1) (eC (.int 1)))) (aCons (eOp mulD (eC (.int 2)) (eIdxB (eVar 1) (eC (.int 4)))) aNil))) (aCons (eVar 2) aNil)) aNil) (eVar 4))) (sRet (eC (.bl false))) sPass) sPass)
  (sSeq (sIf (bVal (eOp neD (eFn (callM m_share_of 2 0 2 [(0, 0), (0, 1)] [.non]) (aCons (eMeth cf "Spending" "but" (callM m_Spending_but 1 2 7 [(0, 0), (1, 0), (1, 1), (1, 2), (1, 3), (2, 1), (2, 0)] [.non, .non, .non, .non, .non, .non]) (eVar 3) aNil (aCons (eC (.int 0)) (aCons (eC (.int 1)) aNil))) (aCons (eVar 2) aNil)) aNil) (eIdxB (eVar 1) (eC (.int 1))))) (sRet (eC (.bl false))) sPass)
  (sRet (eOp eqD (eFn (callM m_share_of 2 0 2 [(0, 0), (0, 1)] [.non]) (aCons (eMeth cf "Spending" "but" (callM m_Spending_but 1 1 7 [(0, 0), (1, 0), (1, 1), (1, 2), (2, 0), (1, 4), (1, 5)] [.non, .non, .non, .non, .non, .non]) (eVar 3) aNil (aCons (eNot (eIdxB (eVar 1) (eC (.int 3)))) aNil)) (aCons (eVar 2) aNil)) aNil) (eVar 4))))))))))))
def m__law_shares_right : Fn := fnM 8 b__law_shares_right
def t__law_shares_right_16 : ES := (sRet (eOp eqD (eFn (callM m_share_of 2 0 2 [(0, 0), (0, 1)] [.non]) (aCons (eMeth cf "Spending" "but" (callM m_Spending_but 1 1 7 [(0, 0), (1, 0), (1, 1), (1, 2), (2, 0), (1, 4), (1, 5)] [.non, .non, .non, .non, .non, .non]) (eVar 3) aNil (aCons (eNot (eIdxB (eVar 1) (eC (.int 3)))) aNil)) (aCons (eVar 2) aNil)) aNil) (eVar 4)))
def t__law_shares_right_14 : ES := (sSeq (sIf (bVal (eOp neD (eFn (callM m_share_of 2 0 2 [(0, 0), (0, 1)] [.non]) (aCons (eMeth cf "Spending" "but" (callM m_Spending_but 1 2 7 [(0, 0), (1, 0), (1, 1), (1, 2), (1, 3), (2, 1), (2, 0)] [.non, .non, .non, .non, .non, .non]) (eVar 3) aNil (aCons (eC (.int 0)) (aCons (eC (.int 1)) aNil))) (aCons (eVar 2) aNil)) aNil) (eIdxB (eVar 1) (eC (.int 1))))) (sRet (eC (.bl false))) sPass) t__law_shares_right_16)
def t__law_shares_right_11 : ES := (sSeq (sIf (bAnd (bVal (eOp ltA (eIdxB (eVar 1) (eC (.int 4))) (eC (.int 4)))) (bVal (eOp leD (eIdxB (eVar 1) (eC (.int 1))) (eOp mulD (eC (.int 5)) (eOp powD (eC (.int 10)) (eC (.int 5))))))) (sIf (bVal (eOp neD (eFn (callM m_share_of 2 0 2 [(0, 0), (0, 1)] [.non]) (aCons (eMeth cf "Spending" "but" (callM m_Spending_but 1 2 7 [(0, 0), (1, 0), (2, 0), (1, 2), (1, 3), (2, 1), (1, 5)] [.non, .non, .non, .non, .non, .non]) (eVar 3) aNil (aCons (eOp mulD (eC (.int 2)) (eIdxB (eVar 1) (eC (.int 1)))) (aCons (eOp mulD (eC (.int 2)) (eIdxB (eVar 1) (eC (.int 4)))) aNil))) (aCons (eVar 2) aNil)) aNil) (eVar 4))) (sRet (eC (.bl false))) sPass) sPass) t__law_shares_right_14)
def t__law_shares_right_9 : ES := (sSeq (sIf (bAnd (bVal (eOp ltA (eIdxB (eVar 1) (eC (.int 4))) (eC (.int 6)))) (bVal (eOp gtD (eFn (callM m_share_of 2 0 2 [(0, 0), (0, 1)] [.non]) (aCons (eMeth cf "Spending" "but" (callM m_Spending_but 1 1 7 [(0, 0), (1, 0), (1, 1), (1, 2), (1, 3), (2, 0), (1, 5)] [.non, .non, .non, .non, .non, .non]) (eVar 3) aNil (aCons (eOp addD (eIdxB (eVar 1) (eC (.int 4))) (eC (.int 1))) aNil)) (aCons (eVar 2) aNil)) aNil) (eVar 4)))) (sRet (eC (.bl false))) sPass) t__law_shares_right_11)
def t__law_shares_right_7 : ES := (sSeq (sIf (bAnd (bVal (eOp ltA (eIdxB (eVar 1) (eC (.int 1))) (eOp powD (eC (.int 10)) (eC (.int 6))))) (bVal (eOp ltA (eFn (callM m_share_of 2 0 2 [(0, 0), (0, 1)] [.non]) (aCons (eMeth cf "Spending" "but" (callM m_Spending_but 1 1 7 [(0, 0), (1, 0), (2, 0), (1, 2), (1, 3), (1, 4), (1, 5)] [.non, .non, .non, .non, .non, .non]) (eVar 3) aNil (aCons (eOp addD (eIdxB (eVar 1) (eC (.int 1))) (eC (.int 1))) aNil)) (aCons (eVar 2) aNil)) aNil) (eVar 4)))) (sRet (eC (.bl false))) sPass) t__law_shares_right_9)
def t__law_shares_right_5 : ES := (sSeq (sIf (bVal (eOp gtD (eB bAbs (aCons (eOp subD (eOp mulD (eOp mulD (eC (.int 2)) (eVar 4)) (eVar 5)) (eOp mulD (eOp mulD (eC (.int 2)) (eIdxB (eVar 1) (eC (.int 1)))) (eVar 6))) aNil)) (eVar 5))) (sRet (eC (.bl false))) sPass) t__law_shares_right_7)
def t__law_shares_right_4 : ES := (sSeq (sSet 5 (eOp mulD (eVar 7) (eIdxB (eVar 1) (eC (.int 4))))) t__law_shares_right_5)
def t__law_shares_right_3 : ES := (sSeq (sUnp (pTup (pCons (pName 6) (pCons (pName 7) pNil))) (eFn (callM m_rate_on 3 0 3 [(0, 0), (0, 1), (0, 2)] []) (aCons (eVar 2) (aCons (eIdxB (eVar 1) (eC (.int 5))) (aCons (eIdxB (eVar 1) (eC (.int 2))) aNil))) aNil)) t__law_shares_right_4)
def t__law_shares_right_2 : ES := (sSeq (sSet 4 (eFn (callM m_share_of 2 0 2 [(0, 0), (0, 1)] [.non]) (aCons (eVar 3) (aCons (eVar 2) aNil)) aNil)) t__law_shares_right_3)
theorem x__law_shares_right : b__law_shares_right = (sSeq (sSet 3 (eFn (callM m__law_spent 1 0 1 [(0, 0)] []) (aCons (eVar 1) aNil) aNil)) t__law_shares_right_2) := rfl
def b__law_later_right : ES :=
  (sSeq (sIf (bOr (bVal (eOp eqD (eIdxB (eVar 1) (eC (.int 5))) (eC (.int 0)))) (bVal (eOp eqD (eB bLenA (aCons (eVar 2) aNil)) (eC (.int 12))))) (sRet (eC (.bl true))) sPass)
  (sSeq (sSet 3 (eFn (callM m__law_take 2 0 2 [(0, 0), (0, 1)] []) (aCons (eVar 0) (aCons (eC (.int 60)) aNil)) aNil))
  (sSeq (sIf (bVal (eOp neD (eLC [10] (itAny (eVar 2)) (pName 10) (bVal (eOp eqD (eCut (eVar 10) oNone (oSome (eC (.int 2)))) (eTup (aCons (eIdxB (eVar 1) (eC (.int 5))) (aCons (eVar 3) aNil))))) (eVar 10)) (eLst aNil))) (sRet (eC (.bl true))) sPass)
  (sSeq (sSet 4 (eB bTuple (aCons (eSorted (aCons (eOp addD (eVar 2) (eTup (aCons (eTup (aCons (eIdxB (eVar 1) (eC (.int 5))) (aCons (eVar 3) (aCons (eC (.int 7)) (aCons (eC (.int 3)) aNil))))) aNil))) aNil)) aNil)))
  (sSeq (sSet 5 (eLC [10] (itAny (eVar 2)) (pName 10) (bAnd (bVal (eOp eqD (eIdxB (eVar 10) (eC (.int 0))) (eIdxB (eVar 1) (eC (.int 5))))) (bVal (eOp gtD (eIdxB (eVar 10) (eC (.int 1))) (eVar 3)))) (eIdxB (eVar 10) (eC (.int 1)))))
  (sSeq (sSet 6 (eB bMinL (aCons (eOp addD (eVar 5) (eLst (aCons (eC (.int 60)) aNil))) aNil)))
  (sSeq (sFor (itR3 (aCons (eC (.int 0)) (aCons (eC (.int 60)) (aCons (eOp addD (eC (.int 1)) (eFn (callM m__law_take 2 0 2 [(0, 0), (0, 1)] []) (aCons (eVar 0) (aCons (eC (.int 4)) aNil)) aNil)) aNil)))) (pName 7) (sSeq (sSet 8 (eIf (bVal (eOp geD (eVar 7) (eVar 3))) (eFn (callM m_rate_on 3 0 3 [(0, 0), (0, 1), (0, 2)] []) (aCons (eVar 4) (aCons (eIdxB (eVar 1) (eC (.int 5))) (aCons (eVar 7) aNil))) aNil) (eTup (aCons (eC (.int 7)) (aCons (eC (.int 3)) aNil)))))
  (sSeq (sIf (bAnd (bVal (eChain leD ltA (eVar 3) (eVar 7) (eVar 6))) (bVal (eOp neD (eVar 8) (eTup (aCons (eC (.int 7)) (aCons (eC (.int 3)) aNil)))))) (sRet (eC (.bl false))) sPass)
  (sSeq (sSet 9 (eLC [10] (itAny (eVar 2)) (pName 10) (bAnd (bVal (eOp eqD (eIdxB (eVar 10) (eC (.int 0))) (eIdxB (eVar 1) (eC (.int 5))))) (bVal (eOp leD (eIdxB (eVar 10) (eC (.int 1))) (eVar 7)))) (eVar 10)))
  (sIf (bAnd (bNot (bVal (eChain leD ltA (eVar 3) (eVar 7) (eVar 6)))) (bVal (eOp neD (eVar 9) (eLst aNil)))) (sIf (bVal (eOp neD (eFn (callM m_rate_on 3 0 3 [(0, 0), (0, 1), (0, 2)] []) (aCons (eVar 4) (aCons (eIdxB (eVar 1) (eC (.int 5))) (aCons (eVar 7) aNil))) aNil) (eFn (callM m_rate_on 3 0 3 [(0, 0), (0, 1), (0, 2)] []) (aCons (eVar 2) (aCons (eIdxB (eVar 1) (eC (.int 5))) (aCons (eVar 7) aNil))) aNil))) (sRet (eC (.bl false))) sPass) sPass)))))
  (sRet (eC (.bl true))))))))))
def m__law_later_right : Fn := fnM 11 b__law_later_right
def t__law_later_right_14 : ES := (sIf (bAnd (bNot (bVal (eChain leD ltA (eVar 3) (eVar 7) (eVar 6)))) (bVal (eOp neD (eVar 9) (eLst aNil)))) (sIf (bVal (eOp neD (eFn (callM m_rate_on 3 0 3 [(0, 0), (0, 1), (0, 2)] []) (aCons (eVar 4) (aCons (eIdxB (eVar 1) (eC (.int 5))) (aCons (eVar 7) aNil))) aNil) (eFn (callM m_rate_on 3 0 3 [(0, 0), (0, 1), (0, 2)] []) (aCons (eVar 2) (aCons (eIdxB (eVar 1) (eC (.int 5))) (aCons (eVar 7) aNil))) aNil))) (sRet (eC (.bl false))) sPass) sPass)
def t__law_later_right_13 : ES := (sSeq (sSet 9 (eLC [10] (itAny (eVar 2)) (pName 10) (bAnd (bVal (eOp eqD (eIdxB (eVar 10) (eC (.int 0))) (eIdxB (eVar 1) (eC (.int 5))))) (bVal (eOp leD (eIdxB (eVar 10) (eC (.int 1))) (eVar 7)))) (eVar 10))) t__law_later_right_14)
def t__law_later_right_11 : ES := (sSeq (sIf (bAnd (bVal (eChain leD ltA (eVar 3) (eVar 7) (eVar 6))) (bVal (eOp neD (eVar 8) (eTup (aCons (eC (.int 7)) (aCons (eC (.int 3)) aNil)))))) (sRet (eC (.bl false))) sPass) t__law_later_right_13)
def t__law_later_right_10 : ES := (sSeq (sSet 8 (eIf (bVal (eOp geD (eVar 7) (eVar 3))) (eFn (callM m_rate_on 3 0 3 [(0, 0), (0, 1), (0, 2)] []) (aCons (eVar 4) (aCons (eIdxB (eVar 1) (eC (.int 5))) (aCons (eVar 7) aNil))) aNil) (eTup (aCons (eC (.int 7)) (aCons (eC (.int 3)) aNil))))) t__law_later_right_11)
def t__law_later_right_17 : ES := (sRet (eC (.bl true)))
def t__law_later_right_9 : ES := (sSeq (sFor (itR3 (aCons (eC (.int 0)) (aCons (eC (.int 60)) (aCons (eOp addD (eC (.int 1)) (eFn (callM m__law_take 2 0 2 [(0, 0), (0, 1)] []) (aCons (eVar 0) (aCons (eC (.int 4)) aNil)) aNil)) aNil)))) (pName 7) t__law_later_right_10) t__law_later_right_17)
def t__law_later_right_8 : ES := (sSeq (sSet 6 (eB bMinL (aCons (eOp addD (eVar 5) (eLst (aCons (eC (.int 60)) aNil))) aNil))) t__law_later_right_9)
def t__law_later_right_7 : ES := (sSeq (sSet 5 (eLC [10] (itAny (eVar 2)) (pName 10) (bAnd (bVal (eOp eqD (eIdxB (eVar 10) (eC (.int 0))) (eIdxB (eVar 1) (eC (.int 5))))) (bVal (eOp gtD (eIdxB (eVar 10) (eC (.int 1))) (eVar 3)))) (eIdxB (eVar 10) (eC (.int 1))))) t__law_later_right_8)
def t__law_later_right_6 : ES := (sSeq (sSet 4 (eB bTuple (aCons (eSorted (aCons (eOp addD (eVar 2) (eTup (aCons (eTup (aCons (eIdxB (eVar 1) (eC (.int 5))) (aCons (eVar 3) (aCons (eC (.int 7)) (aCons (eC (.int 3)) aNil))))) aNil))) aNil)) aNil))) t__law_later_right_7)
def t__law_later_right_4 : ES := (sSeq (sIf (bVal (eOp neD (eLC [10] (itAny (eVar 2)) (pName 10) (bVal (eOp eqD (eCut (eVar 10) oNone (oSome (eC (.int 2)))) (eTup (aCons (eIdxB (eVar 1) (eC (.int 5))) (aCons (eVar 3) aNil))))) (eVar 10)) (eLst aNil))) (sRet (eC (.bl true))) sPass) t__law_later_right_6)
def t__law_later_right_3 : ES := (sSeq (sSet 3 (eFn (callM m__law_take 2 0 2 [(0, 0), (0, 1)] []) (aCons (eVar 0) (aCons (eC (.int 60)) aNil)) aNil)) t__law_later_right_4)
theorem x__law_later_right : b__law_later_right = (sSeq (sIf (bOr (bVal (eOp eqD (eIdxB (eVar 1) (eC (.int 5))) (eC (.int 0)))) (bVal (eOp eqD (eB bLenA (aCons (eVar 2) aNil)) (eC (.int 12))))) (sRet (eC (.bl true))) sPass) t__law_later_right_3) := rfl
def b_law : ES :=
  (sSeq (sFor (itR1 (aCons (eB bMax2 (aCons (eC (.int 1)) (aCons (eB bMin2 (aCons (eB bLenA (aCons (eVar 0) aNil)) (aCons (eC (.int 3)) aNil))) aNil))) aNil)) (pName 1) (sSeq (sSet 2 (eFn (callM m__law_box 2 0 2 [(0, 0), (0, 1)] []) (aCons (eVar 0) (aCons (eVar 1) aNil)) aNil))
  (sSeq (sSet 3 (eFn (callM m__law_rates 1 0 1 [(0, 0)] []) (aCons (eVar 2) aNil) aNil))
  (sFor (itR1 (aCons (eC (.int 8)) aNil)) (pName 4) (sSeq (sSet 5 (eFn (callM m__law_row 1 0 1 [(0, 0)] []) (aCons (eVar 2) aNil) aNil))
  (sSeq (sIf (bAnd (bVal (eOp notND (eFn (callM m__law_rate 3 0 3 [(0, 0), (0, 1), (0, 2)] []) (aCons (eVar 3) (aCons (eIdxB (eVar 5) (eC (.int 5))) (aCons (eIdxB (eVar 5) (eC (.int 2))) aNil))) aNil) (eC .non))) (bNot (bVal (eFn (callM m__law_shares_right 3 0 3 [(0, 0), (0, 1), (0, 2)] []) (aCons (eVar 2) (aCons (eVar 5) (aCons (eVar 3) aNil))) aNil)))) (sRet (eC (.bl false))) sPass)
  (sIf (bNot (bVal (eFn (callM m__law_later_right 3 0 3 [(0, 0), (0, 1), (0, 2)] []) (aCons (eVar 2) (aCons (eVar 5) (aCons (eVar 3) aNil))) aNil))) (sRet (eC (.bl false))) sPass)))))))
  (sRet (eC (.bl true))))
def m_law : Fn := fnM 6 b_law
def t_law_8 : ES := (sIf (bNot (bVal (eFn (callM m__law_later_right 3 0 3 [(0, 0), (0, 1), (0, 2)] []) (aCons (eVar 2) (aCons (eVar 5) (aCons (eVar 3) aNil))) aNil))) (sRet (eC (.bl false))) sPass)
def t_law_6 : ES := (sSeq (sIf (bAnd (bVal (eOp notND (eFn (callM m__law_rate 3 0 3 [(0, 0), (0, 1), (0, 2)] []) (aCons (eVar 3) (aCons (eIdxB (eVar 5) (eC (.int 5))) (aCons (eIdxB (eVar 5) (eC (.int 2))) aNil))) aNil) (eC .non))) (bNot (bVal (eFn (callM m__law_shares_right 3 0 3 [(0, 0), (0, 1), (0, 2)] []) (aCons (eVar 2) (aCons (eVar 5) (aCons (eVar 3) aNil))) aNil)))) (sRet (eC (.bl false))) sPass) t_law_8)
def t_law_5 : ES := (sSeq (sSet 5 (eFn (callM m__law_row 1 0 1 [(0, 0)] []) (aCons (eVar 2) aNil) aNil)) t_law_6)
def t_law_4 : ES := (sFor (itR1 (aCons (eC (.int 8)) aNil)) (pName 4) t_law_5)
def t_law_3 : ES := (sSeq (sSet 3 (eFn (callM m__law_rates 1 0 1 [(0, 0)] []) (aCons (eVar 2) aNil) aNil)) t_law_4)
def t_law_2 : ES := (sSeq (sSet 2 (eFn (callM m__law_box 2 0 2 [(0, 0), (0, 1)] []) (aCons (eVar 0) (aCons (eVar 1) aNil)) aNil)) t_law_3)
def t_law_10 : ES := (sRet (eC (.bl true)))
theorem x_law : b_law = (sSeq (sFor (itR1 (aCons (eB bMax2 (aCons (eC (.int 1)) (aCons (eB bMin2 (aCons (eB bLenA (aCons (eVar 0) aNil)) (aCons (eC (.int 3)) aNil))) aNil))) aNil)) (pName 1) t_law_2) t_law_10) := rfl
/-! ### the text -/
def top (i : Nat) : Stmt := (PySem.Challenge.pw_roadpence_k15_whole_shares).main.body.getD i (.Pass ⟨0, 0, 0, 0⟩)
def clsBody : Stmt → List Stmt
  | .ClassDef _ _ _ b _ _ _ _ _ _ _ => b
  | _ => []
abbrev meth (i j : Nat) : Stmt := (clsBody (top i)).getD j (.Pass ⟨0, 0, 0, 0⟩)
def d__law_box : He.DefD := ⟨("_law_box", none), "_law_box", "_law_box", defArgs (top 26), defBody (top 26), defScope (top 26), [], []⟩
def d__law_more : He.DefD := ⟨("_law_more", none), "_law_more", "_law_more", defArgs (top 27), defBody (top 27), defScope (top 27), [], []⟩
def d__law_take : He.DefD := ⟨("_law_take", none), "_law_take", "_law_take", defArgs (top 28), defBody (top 28), defScope (top 28), [], []⟩
def d__law_rates : He.DefD := ⟨("_law_rates", none), "_law_rates", "_law_rates", defArgs (top 31), defBody (top 31), defScope (top 31), [], []⟩
def d__law_row : He.DefD := ⟨("_law_row", none), "_law_row", "_law_row", defArgs (top 29), defBody (top 29), defScope (top 29), [], []⟩
def d__law_rate : He.DefD := ⟨("_law_rate", none), "_law_rate", "_law_rate", defArgs (top 32), defBody (top 32), defScope (top 32), [], []⟩
def d_is_kind : He.DefD := ⟨("is_kind", none), "is_kind", "is_kind", defArgs (top 13), defBody (top 13), defScope (top 13), [], []⟩
def d_is_whole : He.DefD := ⟨("is_whole", none), "is_whole", "is_whole", defArgs (top 12), defBody (top 12), defScope (top 12), [], []⟩
def d_Spending_init : He.DefD := ⟨("Spending", some "__init__"), "__init__", "Spending.__init__", defArgs (meth 15 0), defBody (meth 15 0), defScope (meth 15 0), [.int 0, .bl true, .int 1, .int 0], []⟩
def d__law_spent : He.DefD := ⟨("_law_spent", none), "_law_spent", "_law_spent", defArgs (top 30), defBody (top 30), defScope (top 30), [], []⟩
def d_is_rate : He.DefD := ⟨("is_rate", none), "is_rate", "is_rate", defArgs (top 19), defBody (top 19), defScope (top 19), [], []⟩
def d_need_rates : He.DefD := ⟨("need_rates", none), "need_rates", "need_rates", defArgs (top 20), defBody (top 20), defScope (top 20), [], []⟩
def d_rate_by : He.DefD := ⟨("rate_by", none), "rate_by", "rate_by", defArgs (top 21), defBody (top 21), defScope (top 21), [], []⟩
def d_share_by : He.DefD := ⟨("share_by", none), "share_by", "share_by", defArgs (top 23), defBody (top 23), defScope (top 23), [], []⟩
def d_share_of : He.DefD := ⟨("share_of", none), "share_of", "share_of", defArgs (top 24), defBody (top 24), defScope (top 24), [.non], []⟩
def d_rate_on : He.DefD := ⟨("rate_on", none), "rate_on", "rate_on", defArgs (top 22), defBody (top 22), defScope (top 22), [], []⟩
def d_Spending_all_parts : He.DefD := ⟨("Spending", some "all_parts"), "all_parts", "Spending.all_parts", defArgs (meth 15 1), defBody (meth 15 1), defScope (meth 15 1), [], []⟩
def d_Spending_but : He.DefD := ⟨("Spending", some "but"), "but", "Spending.but", defArgs (meth 15 4), defBody (meth 15 4), defScope (meth 15 4), [.non, .non, .non, .non, .non, .non], []⟩
def d__law_shares_right : He.DefD := ⟨("_law_shares_right", none), "_law_shares_right", "_law_shares_right", defArgs (top 33), defBody (top 33), defScope (top 33), [], []⟩
def d__law_later_right : He.DefD := ⟨("_law_later_right", none), "_law_later_right", "_law_later_right", defArgs (top 34), defBody (top 34), defScope (top 34), [], []⟩
def d_law : He.DefD := ⟨("law", none), "law", "law", defArgs (top 35), defBody (top 35), defScope (top 35), [], []⟩
def lw : Lw where
  glo := ["KINDS", "Spending", "_law_box", "_law_later_right", "_law_more", "_law_rate", "_law_rates", "_law_row", "_law_shares_right", "_law_spent", "_law_take", "is_kind", "is_rate", "is_whole", "law", "need_rates", "rate_by", "rate_on", "share_by", "share_of"]
  free := ["abs", "all", "bool", "divmod", "int", "isinstance", "len", "max", "min", "range", "sorted", "str", "tuple", "zip"]
  gins := [("LAST_DAY", 59), ("LAST_MONEY", 3), ("MOST_AMOUNT", 1000000), ("MOST_HEADS", 6), ("MOST_PART", 1000000), ("MOST_RATES", 12)]
  cls := ["Spending"]
  noat := [("Spending", "amount"), ("Spending", "day"), ("Spending", "heads"), ("Spending", "kind"), ("Spending", "money"), ("Spending", "paper")]
  meth := [("Spending", "all_parts"), ("Spending", "but")]
  mkr := ["Spending"]
  isi := ["Spending"]
  kit := [(.b "NoneType", .b "bool"), (.b "NoneType", .b "int"), (.b "NoneType", .b "str"), (.b "NoneType", .b "tuple"), (.b "bool", .b "bool"), (.b "bool", .b "int"), (.b "bool", .b "str"), (.b "bool", .b "tuple"), (.b "dict", .b "bool"), (.b "dict", .b "int"), (.b "dict", .b "str"), (.b "dict", .b "tuple"), (.b "int", .b "bool"), (.b "int", .b "int"), (.b "int", .b "str"), (.b "int", .b "tuple"), (.b "list", .b "bool"), (.b "list", .b "int"), (.b "list", .b "str"), (.b "list", .b "tuple"), (.b "str", .b "bool"), (.b "str", .b "int"), (.b "str", .b "str"), (.b "str", .b "tuple"), (.b "tuple", .b "bool"), (.b "tuple", .b "int"), (.b "tuple", .b "str"), (.b "tuple", .b "tuple"), (.o "Spending", .b "bool"), (.o "Spending", .b "int"), (.o "Spending", .b "str"), (.o "Spending", .b "tuple")]
  tups := [("KINDS", [.str "bed", .str "fee", .str "meal", .str "ride", .str "sundry"])]
  defs := [d__law_box, d__law_more, d__law_take, d__law_rates, d__law_row, d__law_rate, d_is_kind, d_is_whole, d_Spending_init, d__law_spent, d_is_rate, d_need_rates, d_rate_by, d_share_by, d_share_of, d_rate_on, d_Spending_all_parts, d_Spending_but, d__law_shares_right, d__law_later_right, d_law]
/-! ### each def keeps to its mirror -/
section
variable {T : Tb} {P : Program} {w : World} {mg : Str → Option Value} {base : Heap}
theorem nd__law_box : (["_law_script", "_law_k", "_law_here", "_law_number", "_law_j", "_law_piece"] : List Str).Nodup := by decide +kernel
theorem sc__law_box : FnScope ["_law_script", "_law_k", "_law_here", "_law_number", "_law_j", "_law_piece"] ["_law_script", "_law_k"] d__law_box.scope := ⟨rfl, rfl, rfl, nd__law_box, rfl, by decide +kernel, by decide +kernel⟩
theorem ok__law_box (F : Fx T mg lw) (hcf : T.cf = cf) : OkF T P w mg base 1 d__law_box ["_law_script", "_law_k"] m__law_box := by
  obtain ⟨fd, FD⟩ := F.defs 0 d__law_box rfl
  refine OkF.mk' (N := ["_law_script", "_law_k", "_law_here", "_law_number", "_law_j", "_law_piece"]) FD sc__law_box fun cdv A outer s H E hr => ?_
  show ISs T E _ (defBody (top 26)) b__law_box
  exact (is_cons (is_st 2 nd__law_box (ie_op (oi_add (by rfl)) (ie_op (oi_mul) ie_int (ie_v 1)) ie_int))
  (is_cons (is_if (ib_cmp (oi_ltA (by rfl) (by exact hr.rm.units0)) (ie_v 1) (ie_b (by exact call_len) bo_lenA (by rfl) (by exact F.f "len") (by decide +kernel) (ia_cons (ie_v 0) ia_nil)) (by rfl)) (is_one (is_st 2 nd__law_box (ie_idxB (by rfl) (by exact hu1 hr) (ie_v 0) (ie_v 1)))) is_nil)
  (is_cons (is_if (ib_cmp (oi_eqP (by rfl) (by exact hr.rm.units)) (ie_op (oi_mod) (ie_v 2) ie_int) ie_int (by rfl)) (is_one (is_ret (ie_lstM (ia_cons (ie_op (oi_fdiv) (ie_v 2) ie_int) (ia_cons (ie_op (oi_mod) (ie_b (by exact call_abs) bo_abs (by rfl) (by exact F.f "abs") (by decide +kernel) (ia_cons (ie_v 2) ia_nil)) ie_int) ia_nil))))) is_nil)
  (is_cons (is_st 3 nd__law_box ie_int)
  (is_cons (is_for (vs := allN 6) (by exact passes_of rfl) (by rfl) (ii_r1 (by rfl) (by exact F.f "range") (ia_cons ie_int ia_nil)) (ig_n 4 nd__law_box) (is_cons (is_st 5 nd__law_box (ie_op (oi_mod) (ie_op (oi_add (by rfl)) (ie_op (oi_add (by rfl)) (ie_op (oi_mul) (ie_op (oi_mod) (ie_v 2) ie_int) ie_int) (ie_op (oi_mul) ie_int (ie_v 4))) ie_int) ie_int))
  (is_cons (is_st 5 nd__law_box (ie_op (oi_mod) (ie_op (oi_mul) (ie_v 5) (ie_v 5)) ie_int))
  (is_one (is_st 3 nd__law_box (ie_op (oi_add (by rfl)) (ie_op (oi_mul) (ie_v 3) ie_int) (ie_op (oi_mod) (ie_op (oi_mul) (ie_v 5) (ie_op (oi_add (by rfl)) (ie_v 5) ie_int)) ie_int)))))))
  (is_one (is_ret (ie_lstM (ia_cons (ie_v 3) (ia_cons (ie_op (oi_mod) (ie_b (by exact call_abs) bo_abs (by rfl) (by exact F.f "abs") (by decide +kernel) (ia_cons (ie_v 2) ia_nil)) ie_int) ia_nil))))))))))
theorem kb__law_box_0 (fd : FuncData) (FD : FunD T.K d__law_box.name d__law_box.qual d__law_box.params d__law_box.body d__law_box.scope (d__law_box.dvs T.K) [] (He.fAd T.K d__law_box.at_) fd) : KBD T fd ["_law_script", "_law_k"] 2 [] [(0, 0), (0, 1)] [] :=
  kbd_n FD fun kV doc pm an cdv ct us ws h1 h2 => match us, ws, h1, h2 with | [_, _], [], _, _ => rfl
theorem nd__law_more : (["_law_box_here", "_law_number", "_law_j"] : List Str).Nodup := by decide +kernel
theorem sc__law_more : FnScope ["_law_box_here", "_law_number", "_law_j"] ["_law_box_here"] d__law_more.scope := ⟨rfl, rfl, rfl, nd__law_more, rfl, by decide +kernel, by decide +kernel⟩
theorem ok__law_more (F : Fx T mg lw) (hcf : T.cf = cf) : OkF T P w mg base 1 d__law_more ["_law_box_here"] m__law_more := by
  obtain ⟨fd, FD⟩ := F.defs 1 d__law_more rfl
  refine OkF.mk' (N := ["_law_box_here", "_law_number", "_law_j"]) FD sc__law_more fun cdv A outer s H E hr => ?_
  show ISs T E _ (defBody (top 27)) b__law_more
  exact (is_cons (is_st 1 nd__law_more ie_int)
  (is_cons (is_for (vs := allN 3) (by exact passes_of rfl) (by rfl) (ii_r1 (by rfl) (by exact F.f "range") (ia_cons ie_int ia_nil)) (ig_n 2 nd__law_more) (is_cons (is_setit (ie_op (oi_mod) (ie_op (oi_add (by rfl)) (ie_op (oi_mul) (ie_idxB (by rfl) (by exact hu1 hr) (ie_v 0) ie_int) ie_int) ie_int) ie_int) (ie_v 0) ie_int)
  (is_one (is_st 1 nd__law_more (ie_op (oi_add (by rfl)) (ie_op (oi_mul) (ie_v 1) ie_int) (ie_op (oi_mod) (ie_op (oi_fdiv) (ie_idxB (by rfl) (by exact hu1 hr) (ie_v 0) ie_int) ie_int) ie_int))))))
  (is_one (is_ret (ie_v 1)))))
theorem kb__law_more_0 (fd : FuncData) (FD : FunD T.K d__law_more.name d__law_more.qual d__law_more.params d__law_more.body d__law_more.scope (d__law_more.dvs T.K) [] (He.fAd T.K d__law_more.at_) fd) : KBD T fd ["_law_box_here"] 1 [] [(0, 0)] [] :=
  kbd_n FD fun kV doc pm an cdv ct us ws h1 h2 => match us, ws, h1, h2 with | [_], [], _, _ => rfl
theorem nd__law_take : (["_law_box_here", "_law_count", "_law_rest_of", "_law_digit"] : List Str).Nodup := by decide +kernel
theorem sc__law_take : FnScope ["_law_box_here", "_law_count", "_law_rest_of", "_law_digit"] ["_law_box_here", "_law_count"] d__law_take.scope := ⟨rfl, rfl, rfl, nd__law_take, rfl, by decide +kernel, by decide +kernel⟩
theorem ok__law_take (F : Fx T mg lw) (hcf : T.cf = cf) : OkF T P w mg base 2 d__law_take ["_law_box_here", "_law_count"] m__law_take := by
  obtain ⟨fd, FD⟩ := F.defs 2 d__law_take rfl
  refine OkF.mk' (N := ["_law_box_here", "_law_count", "_law_rest_of", "_law_digit"]) FD sc__law_take fun cdv A outer s H E hr => ?_
  show ISs T E _ (defBody (top 28)) b__law_take
  exact (is_cons (is_if (ib_chain (oi_le) (oi_ltA (by rfl) (by exact hr.rm.units0)) ie_int (ie_idxB (by rfl) (by exact hu1 hr) (ie_v 0) ie_int) (ie_v 1)) (is_one (is_setit (ie_op (oi_add (by rfl)) (ie_idxB (by rfl) (by exact hu1 hr) (ie_v 0) ie_int) (ie_op (oi_mul) (ie_v 1) (ie_fnF (by exact ok__law_more F hcf) (by rfl) (by exact hr.mono (by decide)) (by rfl) (by exact F.g "_law_more") kb__law_more_0 (by exact tk_cx) (ak_cons (ia_cons (ie_v 0) ia_nil) ik_nil)))) (ie_v 0) ie_int)) is_nil)
  (is_cons (is_unp (vs := allN 4) (ie_b (by exact call_divmod) bo_divmod (by rfl) (by exact F.f "divmod") (by decide +kernel) (ia_cons (ie_idxB (by rfl) (by exact hu1 hr) (ie_v 0) ie_int) (ia_cons (ie_v 1) ia_nil))) (ig_tup (by rfl) (igs_cons (ig_n 2 nd__law_take) (igs_cons (ig_n 3 nd__law_take) igs_nil)) (len_cons (len_cons len_nil))))
  (is_cons (is_setit (ie_v 2) (ie_v 0) ie_int)
  (is_one (is_ret (ie_v 3))))))
theorem kb__law_take_0 (fd : FuncData) (FD : FunD T.K d__law_take.name d__law_take.qual d__law_take.params d__law_take.body d__law_take.scope (d__law_take.dvs T.K) [] (He.fAd T.K d__law_take.at_) fd) : KBD T fd ["_law_box_here", "_law_count"] 2 [] [(0, 0), (0, 1)] [] :=
  kbd_n FD fun kV doc pm an cdv ct us ws h1 h2 => match us, ws, h1, h2 with | [_, _], [], _, _ => rfl
theorem nd__law_rates : (["_law_box_here", "_law_found", "_law_turn", "_law_when", "_law_top", "_law_key"] : List Str).Nodup := by decide +kernel
theorem sc__law_rates : FnScope ["_law_box_here", "_law_found", "_law_turn", "_law_when", "_law_top", "_law_key"] ["_law_box_here"] d__law_rates.scope := ⟨rfl, rfl, rfl, nd__law_rates, rfl, by decide +kernel, by decide +kernel⟩
theorem ok__law_rates (F : Fx T mg lw) (hcf : T.cf = cf) : OkF T P w mg base 3 d__law_rates ["_law_box_here"] m__law_rates := by
  obtain ⟨fd, FD⟩ := F.defs 3 d__law_rates rfl
  refine OkF.mk' (N := ["_law_box_here", "_law_found", "_law_turn", "_law_when", "_law_top", "_law_key"]) FD sc__law_rates fun cdv A outer s H E hr => ?_
  show ISs T E _ (defBody (top 31)) b__law_rates
  exact (is_cons (is_st 1 nd__law_rates ie_dctT)
  (is_cons (is_for (vs := allN 6) (by exact passes_of rfl) (by rfl) (ii_r1 (by rfl) (by exact F.f "range") (ia_cons (ie_fnF (by exact ok__law_take F hcf) (by rfl) (by exact hr.mono (by decide)) (by rfl) (by exact F.g "_law_take") kb__law_take_0 (by exact tk_cx) (ak_cons (ia_cons (ie_v 0) (ia_cons ie_int ia_nil)) ik_nil)) ia_nil)) (ig_n 2 nd__law_rates) (is_cons (is_st 3 nd__law_rates (ie_idxB (by rfl) (by exact hu1 hr) (ie_lst (ia_cons ie_int (ia_cons (ie_fnF (by exact ok__law_take F hcf) (by rfl) (by exact hr.mono (by decide)) (by rfl) (by exact F.g "_law_take") kb__law_take_0 (by exact tk_cx) (ak_cons (ia_cons (ie_v 0) (ia_cons ie_int ia_nil)) ik_nil)) (ia_cons (ie_fnF (by exact ok__law_take F hcf) (by rfl) (by exact hr.mono (by decide)) (by rfl) (by exact F.g "_law_take") kb__law_take_0 (by exact tk_cx) (ak_cons (ia_cons (ie_v 0) (ia_cons ie_int ia_nil)) ik_nil)) ia_nil)))) (ie_fnF (by exact ok__law_take F hcf) (by rfl) (by exact hr.mono (by decide)) (by rfl) (by exact F.g "_law_take") kb__law_take_0 (by exact tk_cx) (ak_cons (ia_cons (ie_v 0) (ia_cons ie_int ia_nil)) ik_nil))))
  (is_cons (is_st 4 nd__law_rates (ie_idxB (by rfl) (by exact hu1 hr) (ie_lst (ia_cons ie_int (ia_cons (ie_op (oi_pow) ie_int ie_int) (ia_cons (ie_op (oi_add (by rfl)) ie_int (ie_fnF (by exact ok__law_take F hcf) (by rfl) (by exact hr.mono (by decide)) (by rfl) (by exact F.g "_law_take") kb__law_take_0 (by exact tk_cx) (ak_cons (ia_cons (ie_v 0) (ia_cons ie_int ia_nil)) ik_nil))) ia_nil)))) (ie_fnF (by exact ok__law_take F hcf) (by rfl) (by exact hr.mono (by decide)) (by rfl) (by exact F.g "_law_take") kb__law_take_0 (by exact tk_cx) (ak_cons (ia_cons (ie_v 0) (ia_cons ie_int ia_nil)) ik_nil))))
  (is_one (is_putT (by exact hu1 hr) (ie_tup (ia_cons (ie_v 4) (ia_cons (ie_idxB (by rfl) (by exact hu1 hr) (ie_lst (ia_cons ie_int (ia_cons (ie_op (oi_pow) ie_int ie_int) (ia_cons ie_int (ia_cons (ie_op (oi_add (by rfl)) ie_int (ie_fnF (by exact ok__law_take F hcf) (by rfl) (by exact hr.mono (by decide)) (by rfl) (by exact F.g "_law_take") kb__law_take_0 (by exact tk_cx) (ak_cons (ia_cons (ie_v 0) (ia_cons ie_int ia_nil)) ik_nil))) ia_nil))))) (ie_fnF (by exact ok__law_take F hcf) (by rfl) (by exact hr.mono (by decide)) (by rfl) (by exact F.g "_law_take") kb__law_take_0 (by exact tk_cx) (ak_cons (ia_cons (ie_v 0) (ia_cons ie_int ia_nil)) ik_nil))) ia_nil))) (ie_v 1) (ia_cons (ie_op (oi_add (by rfl)) ie_int (ie_fnF (by exact ok__law_take F hcf) (by rfl) (by exact hr.mono (by decide)) (by rfl) (by exact F.g "_law_take") kb__law_take_0 (by exact tk_cx) (ak_cons (ia_cons (ie_v 0) (ia_cons ie_int ia_nil)) ik_nil))) (ia_cons (ie_v 3) ia_nil)))))))
  (is_one (is_ret (ie_bt (by exact call_tuple_of) bo_tuple (by rfl) (by exact F.f "tuple") (by decide +kernel) (ia_cons (ie_lc (own := [("_law_key", 5)]) (by rfl) nd__law_rates (ii_any (by rfl) (ie_sorted (by rfl) (by rfl) (by rfl) (by exact F.f "sorted") (by decide +kernel) (ia_cons (ie_v 1) ia_nil))) (blk_by (by kernel_rfl)) (fun _ _ _ _ _ => (ig_n 5 nd__law_rates)) (fun _ _ _ _ _ => its_nil) (fun _ _ _ _ _ => (ie_op (oi_add (by rfl)) (ie_v 5) (ie_idxB (by rfl) (by exact hu1 hr) (ie_v 1) (ie_v 5))))) ia_nil))))))
theorem kb__law_rates_0 (fd : FuncData) (FD : FunD T.K d__law_rates.name d__law_rates.qual d__law_rates.params d__law_rates.body d__law_rates.scope (d__law_rates.dvs T.K) [] (He.fAd T.K d__law_rates.at_) fd) : KBD T fd ["_law_box_here"] 1 [] [(0, 0)] [] :=
  kbd_n FD fun kV doc pm an cdv ct us ws h1 h2 => match us, ws, h1, h2 with | [_], [], _, _ => rfl
theorem nd__law_row : (["_law_box_here", "_law_kind", "_law_bill", "_law_sharers", "_law_when", "_law_slip"] : List Str).Nodup := by decide +kernel
theorem sc__law_row : FnScope ["_law_box_here", "_law_kind", "_law_bill", "_law_sharers", "_law_when", "_law_slip"] ["_law_box_here"] d__law_row.scope := ⟨rfl, rfl, rfl, nd__law_row, rfl, by decide +kernel, by decide +kernel⟩
theorem ok__law_row (F : Fx T mg lw) (hcf : T.cf = cf) : OkF T P w mg base 3 d__law_row ["_law_box_here"] m__law_row := by
  obtain ⟨fd, FD⟩ := F.defs 4 d__law_row rfl
  refine OkF.mk' (N := ["_law_box_here", "_law_kind", "_law_bill", "_law_sharers", "_law_when", "_law_slip"]) FD sc__law_row fun cdv A outer s H E hr => ?_
  show ISs T E _ (defBody (top 29)) b__law_row
  exact (is_cons (is_st 1 nd__law_row (ie_idxB (by rfl) (by exact hu1 hr) (ie_lst (ia_cons ie_str (ia_cons ie_str (ia_cons ie_str (ia_cons ie_str (ia_cons ie_str ia_nil)))))) (ie_fnF (by exact ok__law_take F hcf) (by rfl) (by exact hr.mono (by decide)) (by rfl) (by exact F.g "_law_take") kb__law_take_0 (by exact tk_cx) (ak_cons (ia_cons (ie_v 0) (ia_cons ie_int ia_nil)) ik_nil))))
  (is_cons (is_st 2 nd__law_row (ie_idxB (by rfl) (by exact hu1 hr) (ie_lst (ia_cons ie_int (ia_cons (ie_op (oi_pow) ie_int ie_int) (ia_cons (ie_op (oi_add (by rfl)) ie_int (ie_fnF (by exact ok__law_take F hcf) (by rfl) (by exact hr.mono (by decide)) (by rfl) (by exact F.g "_law_take") kb__law_take_0 (by exact tk_cx) (ak_cons (ia_cons (ie_v 0) (ia_cons ie_int ia_nil)) ik_nil))) (ia_cons (ie_op (oi_add (by rfl)) ie_int (ie_fnF (by exact ok__law_take F hcf) (by rfl) (by exact hr.mono (by decide)) (by rfl) (by exact F.g "_law_take") kb__law_take_0 (by exact tk_cx) (ak_cons (ia_cons (ie_v 0) (ia_cons (ie_op (oi_pow) ie_int ie_int) ia_nil)) ik_nil))) ia_nil))))) (ie_fnF (by exact ok__law_take F hcf) (by rfl) (by exact hr.mono (by decide)) (by rfl) (by exact F.g "_law_take") kb__law_take_0 (by exact tk_cx) (ak_cons (ia_cons (ie_v 0) (ia_cons ie_int ia_nil)) ik_nil))))
  (is_cons (by first | exact (is_par2 4 5 nd__law_row (ia_cons (ie_idxB (by rfl) (by exact hu1 hr) (ie_lst (ia_cons ie_int (ia_cons ie_int (ia_cons (ie_fnF (by exact ok__law_take F hcf) (by rfl) (by exact hr.mono (by decide)) (by rfl) (by exact F.g "_law_take") kb__law_take_0 (by exact tk_cx) (ak_cons (ia_cons (ie_v 0) (ia_cons ie_int ia_nil)) ik_nil)) (ia_cons (ie_fnF (by exact ok__law_take F hcf) (by rfl) (by exact hr.mono (by decide)) (by rfl) (by exact F.g "_law_take") kb__law_take_0 (by exact tk_cx) (ak_cons (ia_cons (ie_v 0) (ia_cons ie_int ia_nil)) ik_nil)) ia_nil))))) (ie_fnF (by exact ok__law_take F hcf) (by rfl) (by exact hr.mono (by decide)) (by rfl) (by exact F.g "_law_take") kb__law_take_0 (by exact tk_cx) (ak_cons (ia_cons (ie_v 0) (ia_cons ie_int ia_nil)) ik_nil))) (ia_cons (ie_cmp (oi_gt) (ie_fnF (by exact ok__law_take F hcf) (by rfl) (by exact hr.mono (by decide)) (by rfl) (by exact F.g "_law_take") kb__law_take_0 (by exact tk_cx) (ak_cons (ia_cons (ie_v 0) (ia_cons ie_int ia_nil)) ik_nil)) ie_int (by rfl)) ia_nil))) | exact (is_par2u (is_unp (vs := allN 6) (ie_tup (ia_cons (ie_idxB (by rfl) (by exact hu1 hr) (ie_lst (ia_cons ie_int (ia_cons ie_int (ia_cons (ie_fnF (by exact ok__law_take F hcf) (by rfl) (by exact hr.mono (by decide)) (by rfl) (by exact F.g "_law_take") kb__law_take_0 (by exact tk_cx) (ak_cons (ia_cons (ie_v 0) (ia_cons ie_int ia_nil)) ik_nil)) (ia_cons (ie_fnF (by exact ok__law_take F hcf) (by rfl) (by exact hr.mono (by decide)) (by rfl) (by exact F.g "_law_take") kb__law_take_0 (by exact tk_cx) (ak_cons (ia_cons (ie_v 0) (ia_cons ie_int ia_nil)) ik_nil)) ia_nil))))) (ie_fnF (by exact ok__law_take F hcf) (by rfl) (by exact hr.mono (by decide)) (by rfl) (by exact F.g "_law_take") kb__law_take_0 (by exact tk_cx) (ak_cons (ia_cons (ie_v 0) (ia_cons ie_int ia_nil)) ik_nil))) (ia_cons (ie_cmp (oi_gt) (ie_fnF (by exact ok__law_take F hcf) (by rfl) (by exact hr.mono (by decide)) (by rfl) (by exact F.g "_law_take") kb__law_take_0 (by exact tk_cx) (ak_cons (ia_cons (ie_v 0) (ia_cons ie_int ia_nil)) ik_nil)) ie_int (by rfl)) ia_nil))) (ig_tup (by rfl) (igs_cons (ig_n 4 nd__law_row) (igs_cons (ig_n 5 nd__law_row) igs_nil)) (len_cons (len_cons len_nil))))))
  (is_cons (is_st 3 nd__law_row (ie_idxB (by rfl) (by exact hu1 hr) (ie_lst (ia_cons ie_int (ia_cons ie_int (ia_cons ie_int (ia_cons (ie_op (oi_add (by rfl)) ie_int (ie_fnF (by exact ok__law_take F hcf) (by rfl) (by exact hr.mono (by decide)) (by rfl) (by exact F.g "_law_take") kb__law_take_0 (by exact tk_cx) (ak_cons (ia_cons (ie_v 0) (ia_cons ie_int ia_nil)) ik_nil))) ia_nil))))) (ie_fnF (by exact ok__law_take F hcf) (by rfl) (by exact hr.mono (by decide)) (by rfl) (by exact F.g "_law_take") kb__law_take_0 (by exact tk_cx) (ak_cons (ia_cons (ie_v 0) (ia_cons ie_int ia_nil)) ik_nil))))
  (is_one (is_ret (ie_tup (ia_cons (ie_v 1) (ia_cons (ie_v 2) (ia_cons (ie_v 4) (ia_cons (ie_v 5) (ia_cons (ie_v 3) (ia_cons (ie_idxB (by rfl) (by exact hu1 hr) (ie_lst (ia_cons ie_int (ia_cons (ie_fnF (by exact ok__law_take F hcf) (by rfl) (by exact hr.mono (by decide)) (by rfl) (by exact F.g "_law_take") kb__law_take_0 (by exact tk_cx) (ak_cons (ia_cons (ie_v 0) (ia_cons ie_int ia_nil)) ik_nil)) ia_nil))) (ie_fnF (by exact ok__law_take F hcf) (by rfl) (by exact hr.mono (by decide)) (by rfl) (by exact F.g "_law_take") kb__law_take_0 (by exact tk_cx) (ak_cons (ia_cons (ie_v 0) (ia_cons ie_int ia_nil)) ik_nil))) ia_nil)))))))))))))
theorem kb__law_row_0 (fd : FuncData) (FD : FunD T.K d__law_row.name d__law_row.qual d__law_row.params d__law_row.body d__law_row.scope (d__law_row.dvs T.K) [] (He.fAd T.K d__law_row.at_) fd) : KBD T fd ["_law_box_here"] 1 [] [(0, 0)] [] :=
  kbd_n FD fun kV doc pm an cdv ct us ws h1 h2 => match us, ws, h1, h2 with | [_], [], _, _ => rfl
theorem nd__law_rate : (["_law_rates_here", "_law_coin", "_law_when", "_law_found", "_law_other", "_law_since", "_law_top", "_law_bottom"] : List Str).Nodup := by decide +kernel
theorem sc__law_rate : FnScope ["_law_rates_here", "_law_coin", "_law_when", "_law_found", "_law_other", "_law_since", "_law_top", "_law_bottom"] ["_law_rates_here", "_law_coin", "_law_when"] d__law_rate.scope := ⟨rfl, rfl, rfl, nd__law_rate, rfl, by decide +kernel, by decide +kernel⟩
theorem ok__law_rate (F : Fx T mg lw) (hcf : T.cf = cf) : OkF T P w mg base 1 d__law_rate ["_law_rates_here", "_law_coin", "_law_when"] m__law_rate := by
  obtain ⟨fd, FD⟩ := F.defs 5 d__law_rate rfl
  refine OkF.mk' (N := ["_law_rates_here", "_law_coin", "_law_when", "_law_found", "_law_other", "_law_since", "_law_top", "_law_bottom"]) FD sc__law_rate fun cdv A outer s H E hr => ?_
  show ISs T E _ (defBody (top 32)) b__law_rate
  exact (is_cons (is_if (ib_cmp (oi_eqP (by rfl) (by exact hr.rm.units)) (ie_v 1) ie_int (by rfl)) (is_one (is_ret (ie_tup (ia_cons ie_int (ia_cons ie_int ia_nil))))) is_nil)
  (is_cons (is_st 3 nd__law_rate ie_non)
  (is_cons (is_for (vs := allN 8) (by exact passes_of rfl) (by rfl) (ii_any (by rfl) (ie_v 0)) (ig_tup (by rfl) (igs_cons (ig_n 4 nd__law_rate) (igs_cons (ig_n 5 nd__law_rate) (igs_cons (ig_n 6 nd__law_rate) (igs_cons (ig_n 7 nd__law_rate) igs_nil)))) (len_cons (len_cons (len_cons (len_cons len_nil))))) (is_one (is_if (iw_pt (iw_and (ib_cmp (oi_eqP (by rfl) (by exact hr.rm.units)) (ie_v 4) (ie_v 1) (by rfl)) (iw_and1 (ib_cmp (oi_le) (ie_v 5) (ie_v 2) (by rfl))))) (is_one (is_st 3 nd__law_rate (ie_tup (ia_cons (ie_v 6) (ia_cons (ie_v 7) ia_nil))))) is_nil)))
  (is_one (is_ret (ie_v 3))))))
theorem kb__law_rate_0 (fd : FuncData) (FD : FunD T.K d__law_rate.name d__law_rate.qual d__law_rate.params d__law_rate.body d__law_rate.scope (d__law_rate.dvs T.K) [] (He.fAd T.K d__law_rate.at_) fd) : KBD T fd ["_law_rates_here", "_law_coin", "_law_when"] 3 [] [(0, 0), (0, 1), (0, 2)] [] :=
  kbd_n FD fun kV doc pm an cdv ct us ws h1 h2 => match us, ws, h1, h2 with | [_, _, _], [], _, _ => rfl
theorem nd_is_kind : (["thing"] : List Str).Nodup := by decide +kernel
theorem sc_is_kind : FnScope ["thing"] ["thing"] d_is_kind.scope := ⟨rfl, rfl, rfl, nd_is_kind, rfl, by decide +kernel, by decide +kernel⟩
theorem ok_is_kind (F : Fx T mg lw) (hcf : T.cf = cf) : OkF T P w mg base 1 d_is_kind ["thing"] m_is_kind := by
  obtain ⟨fd, FD⟩ := F.defs 6 d_is_kind rfl
  refine OkF.mk' (N := ["thing"]) FD sc_is_kind fun cdv A outer s H E hr => ?_
  show ISs T E _ (defBody (top 13)) b_is_kind
  exact (is_one (is_ret (ie_and (ie_isi (tys := tysL) (Tt := .b "str") (by rfl) (by rfl) (by exact F.f "isinstance") (ie_v 0) (isTy_b (by rfl) (by exact F.f "str") (by decide +kernel)) (by exact F.is' tysL) (by exact F.ki tysL (.b "str"))) (ie_one (ie_cmp (oi_in (by rfl) (by exact hr.rm.units)) (ie_v 0) (ie_gtup (l := [.str "bed", .str "fee", .str "meal", .str "ride", .str "sundry"]) (by rfl) (by exact F.g "KINDS") (by exact F.tp 0) rfl) (by rfl))))))
theorem kb_is_kind_0 (fd : FuncData) (FD : FunD T.K d_is_kind.name d_is_kind.qual d_is_kind.params d_is_kind.body d_is_kind.scope (d_is_kind.dvs T.K) [] (He.fAd T.K d_is_kind.at_) fd) : KBD T fd ["thing"] 1 [] [(0, 0)] [] :=
  kbd_n FD fun kV doc pm an cdv ct us ws h1 h2 => match us, ws, h1, h2 with | [_], [], _, _ => rfl
theorem nd_is_whole : (["thing", "low", "high"] : List Str).Nodup := by decide +kernel
theorem sc_is_whole : FnScope ["thing", "low", "high"] ["thing", "low", "high"] d_is_whole.scope := ⟨rfl, rfl, rfl, nd_is_whole, rfl, by decide +kernel, by decide +kernel⟩
theorem ok_is_whole (F : Fx T mg lw) (hcf : T.cf = cf) : OkF T P w mg base 1 d_is_whole ["thing", "low", "high"] m_is_whole := by
  obtain ⟨fd, FD⟩ := F.defs 7 d_is_whole rfl
  refine OkF.mk' (N := ["thing", "low", "high"]) FD sc_is_whole fun cdv A outer s H E hr => ?_
  show ISs T E _ (defBody (top 12)) b_is_whole
  exact (is_one (is_ret (ie_and (ie_isi (tys := tysL) (Tt := .b "int") (by rfl) (by rfl) (by exact F.f "isinstance") (ie_v 0) (isTy_b (by rfl) (by exact F.f "int") (by decide +kernel)) (by exact F.is' tysL) (by exact F.ki tysL (.b "int"))) (ie_and (ie_not (ie_isi (tys := tysL) (Tt := .b "bool") (by rfl) (by rfl) (by exact F.f "isinstance") (ie_v 0) (isTy_b (by rfl) (by exact F.f "bool") (by decide +kernel)) (by exact F.is' tysL) (by exact F.ki tysL (.b "bool")))) (ie_one (ie_chain (oi_le) (oi_le) (ie_v 1) (ie_v 0) (ie_v 2)))))))
theorem kb_is_whole_0 (fd : FuncData) (FD : FunD T.K d_is_whole.name d_is_whole.qual d_is_whole.params d_is_whole.body d_is_whole.scope (d_is_whole.dvs T.K) [] (He.fAd T.K d_is_whole.at_) fd) : KBD T fd ["thing", "low", "high"] 3 [] [(0, 0), (0, 1), (0, 2)] [] :=
  kbd_n FD fun kV doc pm an cdv ct us ws h1 h2 => match us, ws, h1, h2 with | [_, _, _], [], _, _ => rfl
theorem nd_Spending_init : (["self", "kind", "amount", "day", "paper", "heads", "money"] : List Str).Nodup := by decide +kernel
theorem sc_Spending_init : FnScope ["self", "kind", "amount", "day", "paper", "heads", "money"] ["self", "kind", "amount", "day", "paper", "heads", "money"] d_Spending_init.scope := ⟨rfl, rfl, rfl, nd_Spending_init, rfl, by decide +kernel, by decide +kernel⟩
theorem ok_Spending_init (F : Fx T mg lw) (hcf : T.cf = cf) : OkF T P w mg base 2 d_Spending_init ["self", "kind", "amount", "day", "paper", "heads", "money"] m_Spending_init := by
  obtain ⟨fd, FD⟩ := F.defs 8 d_Spending_init rfl
  refine OkF.mk' (N := ["self", "kind", "amount", "day", "paper", "heads", "money"]) FD sc_Spending_init fun cdv A outer s H E hr => ?_
  show ISs T E _ (defBody (meth 15 0)) b_Spending_init
  exact (is_cons (is_if (ib_not (ib_val (ie_fnF (by exact ok_is_kind F hcf) (by rfl) (by exact hr.mono (by decide)) (by rfl) (by exact F.g "is_kind") kb_is_kind_0 (by exact tk_cx) (ak_cons (ia_cons (ie_v 1) ia_nil) ik_nil)))) (is_one is_bad) is_nil)
  (is_cons (is_if (ib_not (ib_val (ie_fnF (by exact ok_is_whole F hcf) (by rfl) (by exact hr.mono (by decide)) (by rfl) (by exact F.g "is_whole") kb_is_whole_0 (by exact tk_cx) (ak_cons (ia_cons (ie_v 2) (ia_cons ie_int (ia_cons (ie_gint (by rfl) (by exact F.i "MOST_AMOUNT" 1000000)) ia_nil))) ik_nil)))) (is_one is_bad) is_nil)
  (is_cons (is_if (ib_not (ib_val (ie_fnF (by exact ok_is_whole F hcf) (by rfl) (by exact hr.mono (by decide)) (by rfl) (by exact F.g "is_whole") kb_is_whole_0 (by exact tk_cx) (ak_cons (ia_cons (ie_v 3) (ia_cons ie_int (ia_cons (ie_gint (by rfl) (by exact F.i "LAST_DAY" 59)) ia_nil))) ik_nil)))) (is_one is_bad) is_nil)
  (is_cons (is_if (ib_not (ib_val (ie_isi (tys := tysL) (Tt := .b "bool") (by rfl) (by rfl) (by exact F.f "isinstance") (ie_v 4) (isTy_b (by rfl) (by exact F.f "bool") (by decide +kernel)) (by exact F.is' tysL) (by exact F.ki tysL (.b "bool"))))) (is_one is_bad) is_nil)
  (is_cons (is_if (ib_val (ie_fnF (by exact ok_is_whole F hcf) (by rfl) (by exact hr.mono (by decide)) (by rfl) (by exact F.g "is_whole") kb_is_whole_0 (by exact tk_cx) (ak_cons (ia_cons (ie_v 5) (ia_cons ie_int (ia_cons ie_int ia_nil))) ik_nil))) (is_one is_bad) is_nil)
  (is_cons (is_if (ib_not (ib_val (ie_fnF (by exact ok_is_whole F hcf) (by rfl) (by exact hr.mono (by decide)) (by rfl) (by exact F.g "is_whole") kb_is_whole_0 (by exact tk_cx) (ak_cons (ia_cons (ie_v 5) (ia_cons ie_int (ia_cons (ie_gint (by rfl) (by exact F.i "MOST_HEADS" 6)) ia_nil))) ik_nil)))) (is_one is_bad) is_nil)
  (is_cons (is_if (ib_not (ib_val (ie_fnF (by exact ok_is_whole F hcf) (by rfl) (by exact hr.mono (by decide)) (by rfl) (by exact F.g "is_whole") kb_is_whole_0 (by exact tk_cx) (ak_cons (ia_cons (ie_v 6) (ia_cons ie_int (ia_cons (ie_gint (by rfl) (by exact F.i "LAST_MONEY" 3)) ia_nil))) ik_nil)))) (is_one is_bad) is_nil)
  (is_cons (is_setattr (by rfl) (by exact F.at' ["Spending"] "kind") (ie_v 0) (ie_v 1))
  (is_cons (is_setattr (by rfl) (by exact F.at' ["Spending"] "amount") (ie_v 0) (ie_v 2))
  (is_cons (is_setattr (by rfl) (by exact F.at' ["Spending"] "day") (ie_v 0) (ie_v 3))
  (is_cons (is_setattr (by rfl) (by exact F.at' ["Spending"] "paper") (ie_v 0) (ie_v 4))
  (is_cons (is_setattr (by rfl) (by exact F.at' ["Spending"] "heads") (ie_v 0) (ie_v 5))
  (is_one (is_setattr (by rfl) (by exact F.at' ["Spending"] "money") (ie_v 0) (ie_v 6)))))))))))))))
theorem kb_Spending_init_0 (fd : FuncData) (FD : FunD T.K d_Spending_init.name d_Spending_init.qual d_Spending_init.params d_Spending_init.body d_Spending_init.scope (d_Spending_init.dvs T.K) [] (He.fAd T.K d_Spending_init.at_) fd) : KBD T fd ["self", "kind", "amount", "day", "paper", "heads", "money"] 3 ["day", "paper", "heads", "money"] [(0, 0), (0, 1), (0, 2), (2, 0), (2, 1), (2, 2), (2, 3)] [.int 0, .bl true, .int 1, .int 0] :=
  kbd_d (l := [.int 0, .bl true, .int 1, .int 0]) FD rfl (by decide) fun Ta kV doc pm an cdv ct us its ws h1 h2 h3 => match us, its, ws, h1, h2, h3 with | [_, _, _], [_, _, _, _], [_, _, _, _], _, _, _ => ⟨_, rfl, rfl⟩
theorem nd__law_spent : (["_law_row_here"] : List Str).Nodup := by decide +kernel
theorem sc__law_spent : FnScope ["_law_row_here"] ["_law_row_here"] d__law_spent.scope := ⟨rfl, rfl, rfl, nd__law_spent, rfl, by decide +kernel, by decide +kernel⟩
theorem ok__law_spent (F : Fx T mg lw) (hcf : T.cf = cf) : OkF T P w mg base 4 d__law_spent ["_law_row_here"] m__law_spent := by
  obtain ⟨fd, FD⟩ := F.defs 9 d__law_spent rfl
  refine OkF.mk' (N := ["_law_row_here"]) FD sc__law_spent fun cdv A outer s H E hr => ?_
  show ISs T E _ (defBody (top 30)) b__law_spent
  exact (is_one (is_ret (ie_frz (by exact hcf) (ie_newF (cn := "Spending") (by exact ok_Spending_init F hcf) (by exact F.mk' "Spending") (by rfl) (by exact hr.mono (by decide)) (by rfl) (by exact F.g "Spending") kb_Spending_init_0 (by exact tk_cx) (ak_cons (ia_cons (ie_idxB (by rfl) (by exact hu1 hr) (ie_v 0) ie_int) (ia_cons (ie_idxB (by rfl) (by exact hu1 hr) (ie_v 0) ie_int) ia_nil)) (ik_cons (ie_idxB (by rfl) (by exact hu1 hr) (ie_v 0) ie_int) (ik_cons (ie_idxB (by rfl) (by exact hu1 hr) (ie_v 0) ie_int) (ik_cons (ie_idxB (by rfl) (by exact hu1 hr) (ie_v 0) ie_int) (ik_cons (ie_idxB (by rfl) (by exact hu1 hr) (ie_v 0) ie_int) ik_nil))))) rfl))))
theorem kb__law_spent_0 (fd : FuncData) (FD : FunD T.K d__law_spent.name d__law_spent.qual d__law_spent.params d__law_spent.body d__law_spent.scope (d__law_spent.dvs T.K) [] (He.fAd T.K d__law_spent.at_) fd) : KBD T fd ["_law_row_here"] 1 [] [(0, 0)] [] :=
  kbd_n FD fun kV doc pm an cdv ct us ws h1 h2 => match us, ws, h1, h2 with | [_], [], _, _ => rfl
theorem nd_is_rate : (["thing"] : List Str).Nodup := by decide +kernel
theorem sc_is_rate : FnScope ["thing"] ["thing"] d_is_rate.scope := ⟨rfl, rfl, rfl, nd_is_rate, rfl, by decide +kernel, by decide +kernel⟩
theorem ok_is_rate (F : Fx T mg lw) (hcf : T.cf = cf) : OkF T P w mg base 2 d_is_rate ["thing"] m_is_rate := by
  obtain ⟨fd, FD⟩ := F.defs 10 d_is_rate rfl
  refine OkF.mk' (N := ["thing"]) FD sc_is_rate fun cdv A outer s H E hr => ?_
  show ISs T E _ (defBody (top 19)) b_is_rate
  exact (is_cons (is_if (iw_pt (iw_or (ib_not (ib_val (ie_isi (tys := tysL) (Tt := .b "tuple") (by rfl) (by rfl) (by exact F.f "isinstance") (ie_v 0) (isTy_b (by rfl) (by exact F.f "tuple") (by decide +kernel)) (by exact F.is' tysL) (by exact F.ki tysL (.b "tuple"))))) (iw_or1 (ib_cmp (oi_neP (by rfl) (by exact hr.rm.units)) (ie_b (by exact call_len) bo_lenA (by rfl) (by exact F.f "len") (by decide +kernel) (ia_cons (ie_v 0) ia_nil)) ie_int (by rfl))))) (is_one (is_ret ie_bl)) is_nil)
  (is_cons (is_if (iw_pt (iw_or (ib_not (ib_val (ie_fnF (by exact ok_is_whole F hcf) (by rfl) (by exact hr.mono (by decide)) (by rfl) (by exact F.g "is_whole") kb_is_whole_0 (by exact tk_cx) (ak_cons (ia_cons (ie_idxB (by rfl) (by exact hu1 hr) (ie_v 0) ie_int) (ia_cons ie_int (ia_cons (ie_gint (by rfl) (by exact F.i "LAST_MONEY" 3)) ia_nil))) ik_nil)))) (iw_or1 (ib_not (ib_val (ie_fnF (by exact ok_is_whole F hcf) (by rfl) (by exact hr.mono (by decide)) (by rfl) (by exact F.g "is_whole") kb_is_whole_0 (by exact tk_cx) (ak_cons (ia_cons (ie_idxB (by rfl) (by exact hu1 hr) (ie_v 0) ie_int) (ia_cons ie_int (ia_cons (ie_gint (by rfl) (by exact F.i "LAST_DAY" 59)) ia_nil))) ik_nil))))))) (is_one (is_ret ie_bl)) is_nil)
  (is_one (is_ret (ie_and (ie_fnF (by exact ok_is_whole F hcf) (by rfl) (by exact hr.mono (by decide)) (by rfl) (by exact F.g "is_whole") kb_is_whole_0 (by exact tk_cx) (ak_cons (ia_cons (ie_idxB (by rfl) (by exact hu1 hr) (ie_v 0) ie_int) (ia_cons ie_int (ia_cons (ie_gint (by rfl) (by exact F.i "MOST_PART" 1000000)) ia_nil))) ik_nil)) (ie_one (ie_fnF (by exact ok_is_whole F hcf) (by rfl) (by exact hr.mono (by decide)) (by rfl) (by exact F.g "is_whole") kb_is_whole_0 (by exact tk_cx) (ak_cons (ia_cons (ie_idxB (by rfl) (by exact hu1 hr) (ie_v 0) ie_int) (ia_cons ie_int (ia_cons (ie_gint (by rfl) (by exact F.i "MOST_PART" 1000000)) ia_nil))) ik_nil))))))))
theorem kb_is_rate_0 (fd : FuncData) (FD : FunD T.K d_is_rate.name d_is_rate.qual d_is_rate.params d_is_rate.body d_is_rate.scope (d_is_rate.dvs T.K) [] (He.fAd T.K d_is_rate.at_) fd) : KBD T fd ["thing"] 1 [] [(0, 0)] [] :=
  kbd_n FD fun kV doc pm an cdv ct us ws h1 h2 => match us, ws, h1, h2 with | [_], [], _, _ => rfl
theorem nd_need_rates : (["rates", "one", "other"] : List Str).Nodup := by decide +kernel
theorem sc_need_rates : FnScope ["rates", "one", "other"] ["rates"] d_need_rates.scope := ⟨rfl, rfl, rfl, nd_need_rates, rfl, by decide +kernel, by decide +kernel⟩
theorem ok_need_rates (F : Fx T mg lw) (hcf : T.cf = cf) : OkF T P w mg base 3 d_need_rates ["rates"] m_need_rates := by
  obtain ⟨fd, FD⟩ := F.defs 11 d_need_rates rfl
  refine OkF.mk' (N := ["rates", "one", "other"]) FD sc_need_rates fun cdv A outer s H E hr => ?_
  show ISs T E _ (defBody (top 20)) b_need_rates
  exact (is_cons (is_if (iw_pt (iw_or (ib_not (ib_val (ie_isi (tys := tysL) (Tt := .b "tuple") (by rfl) (by rfl) (by exact F.f "isinstance") (ie_v 0) (isTy_b (by rfl) (by exact F.f "tuple") (by decide +kernel)) (by exact F.is' tysL) (by exact F.ki tysL (.b "tuple"))))) (iw_or (ib_cmp (oi_gt) (ie_b (by exact call_len) bo_lenA (by rfl) (by exact F.f "len") (by decide +kernel) (ia_cons (ie_v 0) ia_nil)) (ie_gint (by rfl) (by exact F.i "MOST_RATES" 12)) (by rfl)) (iw_or1 (ib_not (ib_val (ie_b (by exact cr_all rfl) bo_all (by rfl) (by exact F.f "all") (by decide +kernel) (ia_cons (ie_lc (own := [("one", 1)]) (by rfl) nd_need_rates (ii_any (by rfl) (ie_v 0)) (blk_by (by kernel_rfl)) (fun _ _ _ _ _ => (ig_n 1 nd_need_rates)) (fun _ _ _ _ _ => its_nil) (fun _ _ _ _ _ => (ie_fnF (by exact ok_is_rate F hcf) (by rfl) (by exact hr.mono (by decide)) (by rfl) (by exact F.g "is_rate") kb_is_rate_0 (by exact tk_no) (ak_cons (ia_cons (ie_v 1) ia_nil) ik_nil)))) ia_nil)))))))) (is_one is_bad) is_nil)
  (is_one (is_if (ib_not (ib_val (ie_b (by exact cr_all rfl) bo_all (by rfl) (by exact F.f "all") (by decide +kernel) (ia_cons (ie_lc (own := [("one", 1), ("other", 2)]) (by rfl) nd_need_rates (ii_zip (by rfl) (by rfl) (by exact F.f "zip") (ia_cons (ie_cut (by rfl) (ie_v 0) io_none (io_some (ie_neg ie_int))) (ia_cons (ie_cut (by rfl) (ie_v 0) (io_some ie_int) io_none) ia_nil))) (blk_by (by kernel_rfl)) (fun _ _ _ _ _ => (ig_tup (by rfl) (igs_cons (ig_n 1 nd_need_rates) (igs_cons (ig_n 2 nd_need_rates) igs_nil)) (len_cons (len_cons len_nil)))) (fun _ _ _ _ _ => its_nil) (fun _ _ _ _ _ => (ie_cmp (oi_ltA (by rfl) (by exact hr.rm.units0)) (ie_cut (by rfl) (ie_v 1) io_none (io_some ie_int)) (ie_cut (by rfl) (ie_v 2) io_none (io_some ie_int)) (by rfl)))) ia_nil)))) (is_one is_bad) is_nil)))
theorem kb_need_rates_0 (fd : FuncData) (FD : FunD T.K d_need_rates.name d_need_rates.qual d_need_rates.params d_need_rates.body d_need_rates.scope (d_need_rates.dvs T.K) [] (He.fAd T.K d_need_rates.at_) fd) : KBD T fd ["rates"] 1 [] [(0, 0)] [] :=
  kbd_n FD fun kV doc pm an cdv ct us ws h1 h2 => match us, ws, h1, h2 with | [_], [], _, _ => rfl
theorem nd_rate_by : (["rates", "money", "day", "some", "one"] : List Str).Nodup := by decide +kernel
theorem sc_rate_by : FnScope ["rates", "money", "day", "some", "one"] ["rates", "money", "day"] d_rate_by.scope := ⟨rfl, rfl, rfl, nd_rate_by, rfl, by decide +kernel, by decide +kernel⟩
theorem ok_rate_by (F : Fx T mg lw) (hcf : T.cf = cf) : OkF T P w mg base 1 d_rate_by ["rates", "money", "day"] m_rate_by := by
  obtain ⟨fd, FD⟩ := F.defs 12 d_rate_by rfl
  refine OkF.mk' (N := ["rates", "money", "day", "some", "one"]) FD sc_rate_by fun cdv A outer s H E hr => ?_
  show ISs T E _ (defBody (top 21)) b_rate_by
  exact (is_cons (is_if (ib_cmp (oi_eqP (by rfl) (by exact hr.rm.units)) (ie_v 1) ie_int (by rfl)) (is_one (is_ret (ie_tup (ia_cons ie_int (ia_cons ie_int ia_nil))))) is_nil)
  (is_cons (by first | exact (is_setLc (own := [("one", 4)]) (by rfl) nd_rate_by (by rfl) (by rfl) (by rfl) (ii_any (by rfl) (ie_v 0)) (blk_by (by kernel_rfl)) (fun _ _ _ _ _ => (ig_n 4 nd_rate_by)) (fun _ _ _ _ _ => (its_one (iw_pt (iw_and (ib_cmp (oi_eqP (by rfl) (by exact hr.rm.units)) (ie_idxB (by rfl) (by exact hu1 hr) (ie_v 4) ie_int) (ie_v 1) (by rfl)) (iw_and1 (ib_cmp (oi_le) (ie_idxB (by rfl) (by exact hu1 hr) (ie_v 4) ie_int) (ie_v 2) (by rfl))))))) (fun _ _ _ _ _ => (ie_v 4))) | exact (is_st 3 nd_rate_by (ie_lc (own := [("one", 4)]) (by rfl) nd_rate_by (ii_any (by rfl) (ie_v 0)) (blk_by (by kernel_rfl)) (fun _ _ _ _ _ => (ig_n 4 nd_rate_by)) (fun _ _ _ _ _ => (its_one (iw_pt (iw_and (ib_cmp (oi_eqP (by rfl) (by exact hr.rm.units)) (ie_idxB (by rfl) (by exact hu1 hr) (ie_v 4) ie_int) (ie_v 1) (by rfl)) (iw_and1 (ib_cmp (oi_le) (ie_idxB (by rfl) (by exact hu1 hr) (ie_v 4) ie_int) (ie_v 2) (by rfl))))))) (fun _ _ _ _ _ => (ie_v 4)))))
  (is_cons (is_if (ib_cmp (oi_eqP (by rfl) (by exact hr.rm.units)) (ie_v 3) (ie_lst ia_nil) (by rfl)) (is_one is_bad) is_nil)
  (is_one (is_ret (ie_cut (by rfl) (ie_idxB (by rfl) (by exact hu1 hr) (ie_v 3) (ie_neg ie_int)) (io_some ie_int) io_none))))))
theorem kb_rate_by_0 (fd : FuncData) (FD : FunD T.K d_rate_by.name d_rate_by.qual d_rate_by.params d_rate_by.body d_rate_by.scope (d_rate_by.dvs T.K) [] (He.fAd T.K d_rate_by.at_) fd) : KBD T fd ["rates", "money", "day"] 3 [] [(0, 0), (0, 1), (0, 2)] [] :=
  kbd_n FD fun kV doc pm an cdv ct us ws h1 h2 => match us, ws, h1, h2 with | [_, _, _], [], _, _ => rfl
theorem nd_share_by : (["spending", "rates", "below", "top", "bottom"] : List Str).Nodup := by decide +kernel
theorem sc_share_by : FnScope ["spending", "rates", "below", "top", "bottom"] ["spending", "rates"] d_share_by.scope := ⟨rfl, rfl, rfl, nd_share_by, rfl, by decide +kernel, by decide +kernel⟩
theorem ok_share_by (F : Fx T mg lw) (hcf : T.cf = cf) : OkF T P w mg base 2 d_share_by ["spending", "rates"] m_share_by := by
  obtain ⟨fd, FD⟩ := F.defs 13 d_share_by rfl
  refine OkF.mk' (N := ["spending", "rates", "below", "top", "bottom"]) FD sc_share_by fun cdv A outer s H E hr => ?_
  show ISs T E _ (defBody (top 23)) b_share_by
  exact (is_cons (is_unp (vs := allN 5) (ie_fnF (by exact ok_rate_by F hcf) (by rfl) (by exact hr.mono (by decide)) (by rfl) (by exact F.g "rate_by") kb_rate_by_0 (by exact tk_cx) (ak_cons (ia_cons (ie_v 1) (ia_cons (ie_attr (by exact hcf) (by rfl) (by exact F.at' ["Spending"] "money") (ie_v 0)) (ia_cons (ie_attr (by exact hcf) (by rfl) (by exact F.at' ["Spending"] "day") (ie_v 0)) ia_nil))) ik_nil)) (ig_tup (by rfl) (igs_cons (ig_n 3 nd_share_by) (igs_cons (ig_n 4 nd_share_by) igs_nil)) (len_cons (len_cons len_nil))))
  (is_cons (is_st 2 nd_share_by (ie_op (oi_mul) (ie_v 4) (ie_attr (by exact hcf) (by rfl) (by exact F.at' ["Spending"] "heads") (ie_v 0))))
  (is_one (is_ret (ie_op (oi_fdiv) (ie_op (oi_add (by rfl)) (ie_op (oi_mul) (ie_op (oi_mul) ie_int (ie_attr (by exact hcf) (by rfl) (by exact F.at' ["Spending"] "amount") (ie_v 0))) (ie_v 3)) (ie_v 2)) (ie_op (oi_mul) ie_int (ie_v 2)))))))
theorem kb_share_by_0 (fd : FuncData) (FD : FunD T.K d_share_by.name d_share_by.qual d_share_by.params d_share_by.body d_share_by.scope (d_share_by.dvs T.K) [] (He.fAd T.K d_share_by.at_) fd) : KBD T fd ["spending", "rates"] 2 [] [(0, 0), (0, 1)] [] :=
  kbd_n FD fun kV doc pm an cdv ct us ws h1 h2 => match us, ws, h1, h2 with | [_, _], [], _, _ => rfl
theorem nd_share_of : (["spending", "rates", "some"] : List Str).Nodup := by decide +kernel
theorem sc_share_of : FnScope ["spending", "rates", "some"] ["spending", "rates"] d_share_of.scope := ⟨rfl, rfl, rfl, nd_share_of, rfl, by decide +kernel, by decide +kernel⟩
theorem ok_share_of (F : Fx T mg lw) (hcf : T.cf = cf) : OkF T P w mg base 4 d_share_of ["spending", "rates"] m_share_of := by
  obtain ⟨fd, FD⟩ := F.defs 14 d_share_of rfl
  refine OkF.mk' (N := ["spending", "rates", "some"]) FD sc_share_of fun cdv A outer s H E hr => ?_
  show ISs T E _ (defBody (top 24)) b_share_of
  exact (is_cons (is_st 2 nd_share_of (ie_if (ib_cmp (oi_is) (ie_v 1) ie_non (by rfl)) (ie_tup ia_nil) (ie_v 1)))
  (is_cons (is_expr (ie_fnF (by exact ok_need_rates F hcf) (by rfl) (by exact hr.mono (by decide)) (by rfl) (by exact F.g "need_rates") kb_need_rates_0 (by exact tk_cx) (ak_cons (ia_cons (ie_v 2) ia_nil) ik_nil)))
  (is_one (is_ret (ie_fnF (by exact ok_share_by F hcf) (by rfl) (by exact hr.mono (by decide)) (by rfl) (by exact F.g "share_by") kb_share_by_0 (by exact tk_cx) (ak_cons (ia_cons (ie_v 0) (ia_cons (ie_v 2) ia_nil)) ik_nil))))))
theorem kb_share_of_0 (fd : FuncData) (FD : FunD T.K d_share_of.name d_share_of.qual d_share_of.params d_share_of.body d_share_of.scope (d_share_of.dvs T.K) [] (He.fAd T.K d_share_of.at_) fd) : KBD T fd ["spending", "rates"] 2 [] [(0, 0), (0, 1)] [.non] :=
  kbd_d (l := [.non]) FD rfl (by decide) fun Ta kV doc pm an cdv ct us its ws h1 h2 h3 => match us, its, ws, h1, h2, h3 with | [_, _], [_], [], _, _, _ => ⟨_, rfl, rfl⟩
theorem nd_rate_on : (["rates", "money", "day"] : List Str).Nodup := by decide +kernel
theorem sc_rate_on : FnScope ["rates", "money", "day"] ["rates", "money", "day"] d_rate_on.scope := ⟨rfl, rfl, rfl, nd_rate_on, rfl, by decide +kernel, by decide +kernel⟩
theorem ok_rate_on (F : Fx T mg lw) (hcf : T.cf = cf) : OkF T P w mg base 4 d_rate_on ["rates", "money", "day"] m_rate_on := by
  obtain ⟨fd, FD⟩ := F.defs 15 d_rate_on rfl
  refine OkF.mk' (N := ["rates", "money", "day"]) FD sc_rate_on fun cdv A outer s H E hr => ?_
  show ISs T E _ (defBody (top 22)) b_rate_on
  exact (is_cons (is_expr (ie_fnF (by exact ok_need_rates F hcf) (by rfl) (by exact hr.mono (by decide)) (by rfl) (by exact F.g "need_rates") kb_need_rates_0 (by exact tk_cx) (ak_cons (ia_cons (ie_v 0) ia_nil) ik_nil)))
  (is_one (is_ret (ie_fnF (by exact ok_rate_by F hcf) (by rfl) (by exact hr.mono (by decide)) (by rfl) (by exact F.g "rate_by") kb_rate_by_0 (by exact tk_cx) (ak_cons (ia_cons (ie_v 0) (ia_cons (ie_v 1) (ia_cons (ie_v 2) ia_nil))) ik_nil)))))
theorem kb_rate_on_0 (fd : FuncData) (FD : FunD T.K d_rate_on.name d_rate_on.qual d_rate_on.params d_rate_on.body d_rate_on.scope (d_rate_on.dvs T.K) [] (He.fAd T.K d_rate_on.at_) fd) : KBD T fd ["rates", "money", "day"] 3 [] [(0, 0), (0, 1), (0, 2)] [] :=
  kbd_n FD fun kV doc pm an cdv ct us ws h1 h2 => match us, ws, h1, h2 with | [_, _, _], [], _, _ => rfl
theorem nd_Spending_all_parts : (["self"] : List Str).Nodup := by decide +kernel
theorem sc_Spending_all_parts : FnScope ["self"] ["self"] d_Spending_all_parts.scope := ⟨rfl, rfl, rfl, nd_Spending_all_parts, rfl, by decide +kernel, by decide +kernel⟩
theorem ok_Spending_all_parts (F : Fx T mg lw) (hcf : T.cf = cf) : OkF T P w mg base 1 d_Spending_all_parts ["self"] m_Spending_all_parts := by
  obtain ⟨fd, FD⟩ := F.defs 16 d_Spending_all_parts rfl
  refine OkF.mk' (N := ["self"]) FD sc_Spending_all_parts fun cdv A outer s H E hr => ?_
  show ISs T E _ (defBody (meth 15 1)) b_Spending_all_parts
  exact (is_one (is_ret (ie_tup (ia_cons (ie_attr (by exact hcf) (by rfl) (by exact F.at' ["Spending"] "kind") (ie_v 0)) (ia_cons (ie_attr (by exact hcf) (by rfl) (by exact F.at' ["Spending"] "amount") (ie_v 0)) (ia_cons (ie_attr (by exact hcf) (by rfl) (by exact F.at' ["Spending"] "day") (ie_v 0)) (ia_cons (ie_attr (by exact hcf) (by rfl) (by exact F.at' ["Spending"] "paper") (ie_v 0)) (ia_cons (ie_attr (by exact hcf) (by rfl) (by exact F.at' ["Spending"] "heads") (ie_v 0)) (ia_cons (ie_attr (by exact hcf) (by rfl) (by exact F.at' ["Spending"] "money") (ie_v 0)) ia_nil)))))))))
theorem kb_Spending_all_parts_0 (fd : FuncData) (FD : FunD T.K d_Spending_all_parts.name d_Spending_all_parts.qual d_Spending_all_parts.params d_Spending_all_parts.body d_Spending_all_parts.scope (d_Spending_all_parts.dvs T.K) [] (He.fAd T.K d_Spending_all_parts.at_) fd) : KBD T fd ["self"] 1 [] [(0, 0)] [] :=
  kbd_n FD fun kV doc pm an cdv ct us ws h1 h2 => match us, ws, h1, h2 with | [_], [], _, _ => rfl
theorem nd_Spending_but : (["self", "kind", "amount", "day", "paper", "heads", "money", "given", "some", "one", "own"] : List Str).Nodup := by decide +kernel
theorem sc_Spending_but : FnScope ["self", "kind", "amount", "day", "paper", "heads", "money", "given", "some", "one", "own"] ["self", "kind", "amount", "day", "paper", "heads", "money"] d_Spending_but.scope := ⟨rfl, rfl, rfl, nd_Spending_but, rfl, by decide +kernel, by decide +kernel⟩
theorem ok_Spending_but (F : Fx T mg lw) (hcf : T.cf = cf) : OkF T P w mg base 4 d_Spending_but ["self", "kind", "amount", "day", "paper", "heads", "money"] m_Spending_but := by
  obtain ⟨fd, FD⟩ := F.defs 17 d_Spending_but rfl
  refine OkF.mk' (N := ["self", "kind", "amount", "day", "paper", "heads", "money", "given", "some", "one", "own"]) FD sc_Spending_but fun cdv A outer s H E hr => ?_
  show ISs T E _ (defBody (meth 15 4)) b_Spending_but
  exact (is_cons (is_st 7 nd_Spending_but (ie_tup (ia_cons (ie_v 1) (ia_cons (ie_v 2) (ia_cons (ie_v 3) (ia_cons (ie_v 4) (ia_cons (ie_v 5) (ia_cons (ie_v 6) ia_nil))))))))
  (is_cons (by first | exact (is_setLc (own := [("one", 9), ("own", 10)]) (by rfl) nd_Spending_but (by rfl) (by rfl) (by rfl) (ii_zip (by rfl) (by rfl) (by exact F.f "zip") (ia_cons (ie_v 7) (ia_cons (ie_methF (cn := "Spending") (mn := "all_parts") (n := 0) (by exact hcf) (by exact ok_Spending_all_parts F hcf) (by rfl) (by exact hr.mono (by decide)) (by exact F.c "Spending") (by exact F.m "Spending" "all_parts") kb_Spending_all_parts_0 (by exact tk_cx) (ie_v 0) (ak_nil ik_nil) rfl) ia_nil))) (blk_by (by kernel_rfl)) (fun _ _ _ _ _ => (ig_tup (by rfl) (igs_cons (ig_n 9 nd_Spending_but) (igs_cons (ig_n 10 nd_Spending_but) igs_nil)) (len_cons (len_cons len_nil)))) (fun _ _ _ _ _ => its_nil) (fun _ _ _ _ _ => (ie_if (ib_cmp (oi_is) (ie_v 9) ie_non (by rfl)) (ie_v 10) (ie_v 9)))) | exact (is_st 8 nd_Spending_but (ie_lc (own := [("one", 9), ("own", 10)]) (by rfl) nd_Spending_but (ii_zip (by rfl) (by rfl) (by exact F.f "zip") (ia_cons (ie_v 7) (ia_cons (ie_methF (cn := "Spending") (mn := "all_parts") (n := 0) (by exact hcf) (by exact ok_Spending_all_parts F hcf) (by rfl) (by exact hr.mono (by decide)) (by exact F.c "Spending") (by exact F.m "Spending" "all_parts") kb_Spending_all_parts_0 (by exact tk_cx) (ie_v 0) (ak_nil ik_nil) rfl) ia_nil))) (blk_by (by kernel_rfl)) (fun _ _ _ _ _ => (ig_tup (by rfl) (igs_cons (ig_n 9 nd_Spending_but) (igs_cons (ig_n 10 nd_Spending_but) igs_nil)) (len_cons (len_cons len_nil)))) (fun _ _ _ _ _ => its_nil) (fun _ _ _ _ _ => (ie_if (ib_cmp (oi_is) (ie_v 9) ie_non (by rfl)) (ie_v 10) (ie_v 9))))))
  (is_one (is_ret (ie_frz (by exact hcf) (ie_newF (cn := "Spending") (by exact ok_Spending_init F hcf) (by exact F.mk' "Spending") (by rfl) (by exact hr.mono (by decide)) (by rfl) (by exact F.g "Spending") kb_Spending_init_0 (by exact tk_cx) (ak_cons (ia_cons (ie_idxB (by rfl) (by exact hu1 hr) (ie_v 8) ie_int) (ia_cons (ie_idxB (by rfl) (by exact hu1 hr) (ie_v 8) ie_int) ia_nil)) (ik_cons (ie_idxB (by rfl) (by exact hu1 hr) (ie_v 8) ie_int) (ik_cons (ie_idxB (by rfl) (by exact hu1 hr) (ie_v 8) ie_int) (ik_cons (ie_idxB (by rfl) (by exact hu1 hr) (ie_v 8) ie_int) (ik_cons (ie_idxB (by rfl) (by exact hu1 hr) (ie_v 8) ie_int) ik_nil))))) rfl))))))
theorem kb_Spending_but_0 (fd : FuncData) (FD : FunD T.K d_Spending_but.name d_Spending_but.qual d_Spending_but.params d_Spending_but.body d_Spending_but.scope (d_Spending_but.dvs T.K) [] (He.fAd T.K d_Spending_but.at_) fd) : KBD T fd ["self", "kind", "amount", "day", "paper", "heads", "money"] 1 ["amount"] [(0, 0), (1, 0), (2, 0), (1, 2), (1, 3), (1, 4), (1, 5)] [.non, .non, .non, .non, .non, .non] :=
  kbd_d (l := [.non, .non, .non, .non, .non, .non]) FD rfl (by decide) fun Ta kV doc pm an cdv ct us its ws h1 h2 h3 => match us, its, ws, h1, h2, h3 with | [_], [_, _, _, _, _, _], [_], _, _, _ => ⟨_, rfl, rfl⟩
theorem kb_Spending_but_1 (fd : FuncData) (FD : FunD T.K d_Spending_but.name d_Spending_but.qual d_Spending_but.params d_Spending_but.body d_Spending_but.scope (d_Spending_but.dvs T.K) [] (He.fAd T.K d_Spending_but.at_) fd) : KBD T fd ["self", "kind", "amount", "day", "paper", "heads", "money"] 1 ["heads"] [(0, 0), (1, 0), (1, 1), (1, 2), (1, 3), (2, 0), (1, 5)] [.non, .non, .non, .non, .non, .non] :=
  kbd_d (l := [.non, .non, .non, .non, .non, .non]) FD rfl (by decide) fun Ta kV doc pm an cdv ct us its ws h1 h2 h3 => match us, its, ws, h1, h2, h3 with | [_], [_, _, _, _, _, _], [_], _, _, _ => ⟨_, rfl, rfl⟩
theorem kb_Spending_but_2 (fd : FuncData) (FD : FunD T.K d_Spending_but.name d_Spending_but.qual d_Spending_but.params d_Spending_but.body d_Spending_but.scope (d_Spending_but.dvs T.K) [] (He.fAd T.K d_Spending_but.at_) fd) : KBD T fd ["self", "kind", "amount", "day", "paper", "heads", "money"] 1 ["amount", "heads"] [(0, 0), (1, 0), (2, 0), (1, 2), (1, 3), (2, 1), (1, 5)] [.non, .non, .non, .non, .non, .non] :=
  kbd_d (l := [.non, .non, .non, .non, .non, .non]) FD rfl (by decide) fun Ta kV doc pm an cdv ct us its ws h1 h2 h3 => match us, its, ws, h1, h2, h3 with | [_], [_, _, _, _, _, _], [_, _], _, _, _ => ⟨_, rfl, rfl⟩
theorem kb_Spending_but_3 (fd : FuncData) (FD : FunD T.K d_Spending_but.name d_Spending_but.qual d_Spending_but.params d_Spending_but.body d_Spending_but.scope (d_Spending_but.dvs T.K) [] (He.fAd T.K d_Spending_but.at_) fd) : KBD T fd ["self", "kind", "amount", "day", "paper", "heads", "money"] 1 ["money", "heads"] [(0, 0), (1, 0), (1, 1), (1, 2), (1, 3), (2, 1), (2, 0)] [.non, .non, .non, .non, .non, .non] :=
  kbd_d (l := [.non, .non, .non, .non, .non, .non]) FD rfl (by decide) fun Ta kV doc pm an cdv ct us its ws h1 h2 h3 => match us, its, ws, h1, h2, h3 with | [_], [_, _, _, _, _, _], [_, _], _, _, _ => ⟨_, rfl, rfl⟩
theorem kb_Spending_but_4 (fd : FuncData) (FD : FunD T.K d_Spending_but.name d_Spending_but.qual d_Spending_but.params d_Spending_but.body d_Spending_but.scope (d_Spending_but.dvs T.K) [] (He.fAd T.K d_Spending_but.at_) fd) : KBD T fd ["self", "kind", "amount", "day", "paper", "heads", "money"] 1 ["paper"] [(0, 0), (1, 0), (1, 1), (1, 2), (2, 0), (1, 4), (1, 5)] [.non, .non, .non, .non, .non, .non] :=
  kbd_d (l := [.non, .non, .non, .non, .non, .non]) FD rfl (by decide) fun Ta kV doc pm an cdv ct us its ws h1 h2 h3 => match us, its, ws, h1, h2, h3 with | [_], [_, _, _, _, _, _], [_], _, _, _ => ⟨_, rfl, rfl⟩
theorem nd__law_shares_right : (["_law_box_here", "_law_row_here", "_law_table", "_law_one", "_law_share", "_law_below", "_law_top", "_law_bottom"] : List Str).Nodup := by decide +kernel
theorem sc__law_shares_right : FnScope ["_law_box_here", "_law_row_here", "_law_table", "_law_one", "_law_share", "_law_below", "_law_top", "_law_bottom"] ["_law_box_here", "_law_row_here", "_law_table"] d__law_shares_right.scope := ⟨rfl, rfl, rfl, nd__law_shares_right, rfl, by decide +kernel, by decide +kernel⟩
theorem ok__law_shares_right (F : Fx T mg lw) (hcf : T.cf = cf) : OkF T P w mg base 5 d__law_shares_right ["_law_box_here", "_law_row_here", "_law_table"] m__law_shares_right := by
  obtain ⟨fd, FD⟩ := F.defs 18 d__law_shares_right rfl
  refine OkF.mk' (N := ["_law_box_here", "_law_row_here", "_law_table", "_law_one", "_law_share", "_law_below", "_law_top", "_law_bottom"]) FD sc__law_shares_right fun cdv A outer s H E hr => ?_
  show ISs T E _ (defBody (top 33)) b__law_shares_right
  exact (is_cons (is_st 3 nd__law_shares_right (ie_fnF (by exact ok__law_spent F hcf) (by rfl) (by exact hr.mono (by decide)) (by rfl) (by exact F.g "_law_spent") kb__law_spent_0 (by exact tk_cx) (ak_cons (ia_cons (ie_v 1) ia_nil) ik_nil)))
  (is_cons (is_st 4 nd__law_shares_right (ie_fnF (by exact ok_share_of F hcf) (by rfl) (by exact hr.mono (by decide)) (by rfl) (by exact F.g "share_of") kb_share_of_0 (by exact tk_cx) (ak_cons (ia_cons (ie_v 3) (ia_cons (ie_v 2) ia_nil)) ik_nil)))
  (is_cons (is_unp (vs := allN 8) (ie_fnF (by exact ok_rate_on F hcf) (by rfl) (by exact hr.mono (by decide)) (by rfl) (by exact F.g "rate_on") kb_rate_on_0 (by exact tk_cx) (ak_cons (ia_cons (ie_v 2) (ia_cons (ie_idxB (by rfl) (by exact hu1 hr) (ie_v 1) ie_int) (ia_cons (ie_idxB (by rfl) (by exact hu1 hr) (ie_v 1) ie_int) ia_nil))) ik_nil)) (ig_tup (by rfl) (igs_cons (ig_n 6 nd__law_shares_right) (igs_cons (ig_n 7 nd__law_shares_right) igs_nil)) (len_cons (len_cons len_nil))))
  (is_cons (is_st 5 nd__law_shares_right (ie_op (oi_mul) (ie_v 7) (ie_idxB (by rfl) (by exact hu1 hr) (ie_v 1) ie_int)))
  (is_cons (is_if (ib_cmp (oi_gt) (ie_b (by exact call_abs) bo_abs (by rfl) (by exact F.f "abs") (by decide +kernel) (ia_cons (ie_op (oi_sub) (ie_op (oi_mul) (ie_op (oi_mul) ie_int (ie_v 4)) (ie_v 5)) (ie_op (oi_mul) (ie_op (oi_mul) ie_int (ie_idxB (by rfl) (by exact hu1 hr) (ie_v 1) ie_int)) (ie_v 6))) ia_nil)) (ie_v 5) (by rfl)) (is_one (is_ret ie_bl)) is_nil)
  (is_cons (is_if (iw_pt (iw_and (ib_cmp (oi_ltA (by rfl) (by exact hr.rm.units0)) (ie_idxB (by rfl) (by exact hu1 hr) (ie_v 1) ie_int) (ie_op (oi_pow) ie_int ie_int) (by rfl)) (iw_and1 (ib_cmp (oi_ltA (by rfl) (by exact hr.rm.units0)) (ie_fnF (by exact ok_share_of F hcf) (by rfl) (by exact hr.mono (by decide)) (by rfl) (by exact F.g "share_of") kb_share_of_0 (by exact tk_cx) (ak_cons (ia_cons (ie_methF (cn := "Spending") (mn := "but") (n := 0) (by exact hcf) (by exact ok_Spending_but F hcf) (by rfl) (by exact hr.mono (by decide)) (by exact F.c "Spending") (by exact F.m "Spending" "but") kb_Spending_but_0 (by exact tk_cx) (ie_v 3) (ak_nil (ik_cons (ie_op (oi_add (by rfl)) (ie_idxB (by rfl) (by exact hu1 hr) (ie_v 1) ie_int) ie_int) ik_nil)) rfl) (ia_cons (ie_v 2) ia_nil)) ik_nil)) (ie_v 4) (by rfl))))) (is_one (is_ret ie_bl)) is_nil)
  (is_cons (is_if (iw_pt (iw_and (ib_cmp (oi_ltA (by rfl) (by exact hr.rm.units0)) (ie_idxB (by rfl) (by exact hu1 hr) (ie_v 1) ie_int) ie_int (by rfl)) (iw_and1 (ib_cmp (oi_gt) (ie_fnF (by exact ok_share_of F hcf) (by rfl) (by exact hr.mono (by decide)) (by rfl) (by exact F.g "share_of") kb_share_of_0 (by exact tk_cx) (ak_cons (ia_cons (ie_methF (cn := "Spending") (mn := "but") (n := 0) (by exact hcf) (by exact ok_Spending_but F hcf) (by rfl) (by exact hr.mono (by decide)) (by exact F.c "Spending") (by exact F.m "Spending" "but") kb_Spending_but_1 (by exact tk_cx) (ie_v 3) (ak_nil (ik_cons (ie_op (oi_add (by rfl)) (ie_idxB (by rfl) (by exact hu1 hr) (ie_v 1) ie_int) ie_int) ik_nil)) rfl) (ia_cons (ie_v 2) ia_nil)) ik_nil)) (ie_v 4) (by rfl))))) (is_one (is_ret ie_bl)) is_nil)
  (is_cons (is_if (iw_pt (iw_and (ib_cmp (oi_ltA (by rfl) (by exact hr.rm.units0)) (ie_idxB (by rfl) (by exact hu1 hr) (ie_v 1) ie_int) ie_int (by rfl)) (iw_and1 (ib_cmp (oi_le) (ie_idxB (by rfl) (by exact hu1 hr) (ie_v 1) ie_int) (ie_op (oi_mul) ie_int (ie_op (oi_pow) ie_int ie_int)) (by rfl))))) (is_one (is_if (ib_cmp (oi_neP (by rfl) (by exact hr.rm.units)) (ie_fnF (by exact ok_share_of F hcf) (by rfl) (by exact hr.mono (by decide)) (by rfl) (by exact F.g "share_of") kb_share_of_0 (by exact tk_cx) (ak_cons (ia_cons (ie_methF (cn := "Spending") (mn := "but") (n := 0) (by exact hcf) (by exact ok_Spending_but F hcf) (by rfl) (by exact hr.mono (by decide)) (by exact F.c "Spending") (by exact F.m "Spending" "but") kb_Spending_but_2 (by exact tk_cx) (ie_v 3) (ak_nil (ik_cons (ie_op (oi_mul) ie_int (ie_idxB (by rfl) (by exact hu1 hr) (ie_v 1) ie_int)) (ik_cons (ie_op (oi_mul) ie_int (ie_idxB (by rfl) (by exact hu1 hr) (ie_v 1) ie_int)) ik_nil))) rfl) (ia_cons (ie_v 2) ia_nil)) ik_nil)) (ie_v 4) (by rfl)) (is_one (is_ret ie_bl)) is_nil)) is_nil)
  (is_cons (is_if (ib_cmp (oi_neP (by rfl) (by exact hr.rm.units)) (ie_fnF (by exact ok_share_of F hcf) (by rfl) (by exact hr.mono (by decide)) (by rfl) (by exact F.g "share_of") kb_share_of_0 (by exact tk_cx) (ak_cons (ia_cons (ie_methF (cn := "Spending") (mn := "but") (n := 0) (by exact hcf) (by exact ok_Spending_but F hcf) (by rfl) (by exact hr.mono (by decide)) (by exact F.c "Spending") (by exact F.m "Spending" "but") kb_Spending_but_3 (by exact tk_cx) (ie_v 3) (ak_nil (ik_cons ie_int (ik_cons ie_int ik_nil))) rfl) (ia_cons (ie_v 2) ia_nil)) ik_nil)) (ie_idxB (by rfl) (by exact hu1 hr) (ie_v 1) ie_int) (by rfl)) (is_one (is_ret ie_bl)) is_nil)
  (is_one (is_ret (ie_cmp (oi_eqP (by rfl) (by exact hr.rm.units)) (ie_fnF (by exact ok_share_of F hcf) (by rfl) (by exact hr.mono (by decide)) (by rfl) (by exact F.g "share_of") kb_share_of_0 (by exact tk_cx) (ak_cons (ia_cons (ie_methF (cn := "Spending") (mn := "but") (n := 0) (by exact hcf) (by exact ok_Spending_but F hcf) (by rfl) (by exact hr.mono (by decide)) (by exact F.c "Spending") (by exact F.m "Spending" "but") kb_Spending_but_4 (by exact tk_cx) (ie_v 3) (ak_nil (ik_cons (ie_not (ie_idxB (by rfl) (by exact hu1 hr) (ie_v 1) ie_int)) ik_nil)) rfl) (ia_cons (ie_v 2) ia_nil)) ik_nil)) (ie_v 4) (by rfl)))))))))))))
theorem kb__law_shares_right_0 (fd : FuncData) (FD : FunD T.K d__law_shares_right.name d__law_shares_right.qual d__law_shares_right.params d__law_shares_right.body d__law_shares_right.scope (d__law_shares_right.dvs T.K) [] (He.fAd T.K d__law_shares_right.at_) fd) : KBD T fd ["_law_box_here", "_law_row_here", "_law_table"] 3 [] [(0, 0), (0, 1), (0, 2)] [] :=
  kbd_n FD fun kV doc pm an cdv ct us ws h1 h2 => match us, ws, h1, h2 with | [_, _, _], [], _, _ => rfl
theorem nd__law_later_right : (["_law_box_here", "_law_row_here", "_law_table", "_law_since", "_law_turned_table", "_law_ends", "_law_until", "_law_when", "_law_fresh", "_law_known", "_law_one"] : List Str).Nodup := by decide +kernel
theorem sc__law_later_right : FnScope ["_law_box_here", "_law_row_here", "_law_table", "_law_since", "_law_turned_table", "_law_ends", "_law_until", "_law_when", "_law_fresh", "_law_known", "_law_one"] ["_law_box_here", "_law_row_here", "_law_table"] d__law_later_right.scope := ⟨rfl, rfl, rfl, nd__law_later_right, rfl, by decide +kernel, by decide +kernel⟩
theorem ok__law_later_right (F : Fx T mg lw) (hcf : T.cf = cf) : OkF T P w mg base 5 d__law_later_right ["_law_box_here", "_law_row_here", "_law_table"] m__law_later_right := by
  obtain ⟨fd, FD⟩ := F.defs 19 d__law_later_right rfl
  refine OkF.mk' (N := ["_law_box_here", "_law_row_here", "_law_table", "_law_since", "_law_turned_table", "_law_ends", "_law_until", "_law_when", "_law_fresh", "_law_known", "_law_one"]) FD sc__law_later_right fun cdv A outer s H E hr => ?_
  show ISs T E _ (defBody (top 34)) b__law_later_right
  exact (is_cons (is_if (iw_pt (iw_or (ib_cmp (oi_eqP (by rfl) (by exact hr.rm.units)) (ie_idxB (by rfl) (by exact hu1 hr) (ie_v 1) ie_int) ie_int (by rfl)) (iw_or1 (ib_cmp (oi_eqP (by rfl) (by exact hr.rm.units)) (ie_b (by exact call_len) bo_lenA (by rfl) (by exact F.f "len") (by decide +kernel) (ia_cons (ie_v 2) ia_nil)) ie_int (by rfl))))) (is_one (is_ret ie_bl)) is_nil)
  (is_cons (is_st 3 nd__law_later_right (ie_fnF (by exact ok__law_take F hcf) (by rfl) (by exact hr.mono (by decide)) (by rfl) (by exact F.g "_law_take") kb__law_take_0 (by exact tk_cx) (ak_cons (ia_cons (ie_v 0) (ia_cons ie_int ia_nil)) ik_nil)))
  (is_cons (is_if (ib_cmp (oi_neP (by rfl) (by exact hr.rm.units)) (ie_lc (own := [("_law_one", 10)]) (by rfl) nd__law_later_right (ii_any (by rfl) (ie_v 2)) (blk_by (by kernel_rfl)) (fun _ _ _ _ _ => (ig_n 10 nd__law_later_right)) (fun _ _ _ _ _ => (its_one (ib_cmp (oi_eqP (by rfl) (by exact hr.rm.units)) (ie_cut (by rfl) (ie_v 10) io_none (io_some ie_int)) (ie_tup (ia_cons (ie_idxB (by rfl) (by exact hu1 hr) (ie_v 1) ie_int) (ia_cons (ie_v 3) ia_nil))) (by rfl)))) (fun _ _ _ _ _ => (ie_v 10))) (ie_lst ia_nil) (by rfl)) (is_one (is_ret ie_bl)) is_nil)
  (is_cons (is_st 4 nd__law_later_right (ie_bt (by exact call_tuple_of) bo_tuple (by rfl) (by exact F.f "tuple") (by decide +kernel) (ia_cons (ie_sorted (by rfl) (by rfl) (by rfl) (by exact F.f "sorted") (by decide +kernel) (ia_cons (ie_op (oi_add (by rfl)) (ie_v 2) (ie_tup (ia_cons (ie_tup (ia_cons (ie_idxB (by rfl) (by exact hu1 hr) (ie_v 1) ie_int) (ia_cons (ie_v 3) (ia_cons ie_int (ia_cons ie_int ia_nil))))) ia_nil))) ia_nil)) ia_nil)))
  (is_cons (by first | exact (is_setLc (own := [("_law_one", 10)]) (by rfl) nd__law_later_right (by rfl) (by rfl) (by rfl) (ii_any (by rfl) (ie_v 2)) (blk_by (by kernel_rfl)) (fun _ _ _ _ _ => (ig_n 10 nd__law_later_right)) (fun _ _ _ _ _ => (its_one (iw_pt (iw_and (ib_cmp (oi_eqP (by rfl) (by exact hr.rm.units)) (ie_idxB (by rfl) (by exact hu1 hr) (ie_v 10) ie_int) (ie_idxB (by rfl) (by exact hu1 hr) (ie_v 1) ie_int) (by rfl)) (iw_and1 (ib_cmp (oi_gt) (ie_idxB (by rfl) (by exact hu1 hr) (ie_v 10) ie_int) (ie_v 3) (by rfl))))))) (fun _ _ _ _ _ => (ie_idxB (by rfl) (by exact hu1 hr) (ie_v 10) ie_int))) | exact (is_st 5 nd__law_later_right (ie_lc (own := [("_law_one", 10)]) (by rfl) nd__law_later_right (ii_any (by rfl) (ie_v 2)) (blk_by (by kernel_rfl)) (fun _ _ _ _ _ => (ig_n 10 nd__law_later_right)) (fun _ _ _ _ _ => (its_one (iw_pt (iw_and (ib_cmp (oi_eqP (by rfl) (by exact hr.rm.units)) (ie_idxB (by rfl) (by exact hu1 hr) (ie_v 10) ie_int) (ie_idxB (by rfl) (by exact hu1 hr) (ie_v 1) ie_int) (by rfl)) (iw_and1 (ib_cmp (oi_gt) (ie_idxB (by rfl) (by exact hu1 hr) (ie_v 10) ie_int) (ie_v 3) (by rfl))))))) (fun _ _ _ _ _ => (ie_idxB (by rfl) (by exact hu1 hr) (ie_v 10) ie_int)))))
  (is_cons (is_st 6 nd__law_later_right (ie_b (by exact cr_min rfl) bo_minL (by rfl) (by exact F.f "min") (by decide +kernel) (ia_cons (ie_op (oi_add (by rfl)) (ie_v 5) (ie_lst (ia_cons ie_int ia_nil))) ia_nil)))
  (is_cons (is_for (vs := allN 11) (by exact passes_of rfl) (by rfl) (ii_r3 (by rfl) (by exact F.f "range") (ia_cons ie_int (ia_cons ie_int (ia_cons (ie_op (oi_add (by rfl)) ie_int (ie_fnF (by exact ok__law_take F hcf) (by rfl) (by exact hr.mono (by decide)) (by rfl) (by exact F.g "_law_take") kb__law_take_0 (by exact tk_cx) (ak_cons (ia_cons (ie_v 0) (ia_cons ie_int ia_nil)) ik_nil))) ia_nil)))) (ig_n 7 nd__law_later_right) (is_cons (is_st 8 nd__law_later_right (ie_if (ib_cmp (oi_ge) (ie_v 7) (ie_v 3) (by rfl)) (ie_fnF (by exact ok_rate_on F hcf) (by rfl) (by exact hr.mono (by decide)) (by rfl) (by exact F.g "rate_on") kb_rate_on_0 (by exact tk_cx) (ak_cons (ia_cons (ie_v 4) (ia_cons (ie_idxB (by rfl) (by exact hu1 hr) (ie_v 1) ie_int) (ia_cons (ie_v 7) ia_nil))) ik_nil)) (ie_tup (ia_cons ie_int (ia_cons ie_int ia_nil)))))
  (is_cons (is_if (iw_pt (iw_and (ib_chain (oi_le) (oi_ltA (by rfl) (by exact hr.rm.units0)) (ie_v 3) (ie_v 7) (ie_v 6)) (iw_and1 (ib_cmp (oi_neP (by rfl) (by exact hr.rm.units)) (ie_v 8) (ie_tup (ia_cons ie_int (ia_cons ie_int ia_nil))) (by rfl))))) (is_one (is_ret ie_bl)) is_nil)
  (is_cons (by first | exact (is_setLc (own := [("_law_one", 10)]) (by rfl) nd__law_later_right (by rfl) (by rfl) (by rfl) (ii_any (by rfl) (ie_v 2)) (blk_by (by kernel_rfl)) (fun _ _ _ _ _ => (ig_n 10 nd__law_later_right)) (fun _ _ _ _ _ => (its_one (iw_pt (iw_and (ib_cmp (oi_eqP (by rfl) (by exact hr.rm.units)) (ie_idxB (by rfl) (by exact hu1 hr) (ie_v 10) ie_int) (ie_idxB (by rfl) (by exact hu1 hr) (ie_v 1) ie_int) (by rfl)) (iw_and1 (ib_cmp (oi_le) (ie_idxB (by rfl) (by exact hu1 hr) (ie_v 10) ie_int) (ie_v 7) (by rfl))))))) (fun _ _ _ _ _ => (ie_v 10))) | exact (is_st 9 nd__law_later_right (ie_lc (own := [("_law_one", 10)]) (by rfl) nd__law_later_right (ii_any (by rfl) (ie_v 2)) (blk_by (by kernel_rfl)) (fun _ _ _ _ _ => (ig_n 10 nd__law_later_right)) (fun _ _ _ _ _ => (its_one (iw_pt (iw_and (ib_cmp (oi_eqP (by rfl) (by exact hr.rm.units)) (ie_idxB (by rfl) (by exact hu1 hr) (ie_v 10) ie_int) (ie_idxB (by rfl) (by exact hu1 hr) (ie_v 1) ie_int) (by rfl)) (iw_and1 (ib_cmp (oi_le) (ie_idxB (by rfl) (by exact hu1 hr) (ie_v 10) ie_int) (ie_v 7) (by rfl))))))) (fun _ _ _ _ _ => (ie_v 10)))))
  (is_one (is_if (iw_pt (iw_and (ib_not (ib_chain (oi_le) (oi_ltA (by rfl) (by exact hr.rm.units0)) (ie_v 3) (ie_v 7) (ie_v 6))) (iw_and1 (ib_cmp (oi_neP (by rfl) (by exact hr.rm.units)) (ie_v 9) (ie_lst ia_nil) (by rfl))))) (is_one (is_if (ib_cmp (oi_neP (by rfl) (by exact hr.rm.units)) (ie_fnF (by exact ok_rate_on F hcf) (by rfl) (by exact hr.mono (by decide)) (by rfl) (by exact F.g "rate_on") kb_rate_on_0 (by exact tk_cx) (ak_cons (ia_cons (ie_v 4) (ia_cons (ie_idxB (by rfl) (by exact hu1 hr) (ie_v 1) ie_int) (ia_cons (ie_v 7) ia_nil))) ik_nil)) (ie_fnF (by exact ok_rate_on F hcf) (by rfl) (by exact hr.mono (by decide)) (by rfl) (by exact F.g "rate_on") kb_rate_on_0 (by exact tk_cx) (ak_cons (ia_cons (ie_v 2) (ia_cons (ie_idxB (by rfl) (by exact hu1 hr) (ie_v 1) ie_int) (ia_cons (ie_v 7) ia_nil))) ik_nil)) (by rfl)) (is_one (is_ret ie_bl)) is_nil)) is_nil))))))
  (is_one (is_ret ie_bl)))))))))
theorem kb__law_later_right_0 (fd : FuncData) (FD : FunD T.K d__law_later_right.name d__law_later_right.qual d__law_later_right.params d__law_later_right.body d__law_later_right.scope (d__law_later_right.dvs T.K) [] (He.fAd T.K d__law_later_right.at_) fd) : KBD T fd ["_law_box_here", "_law_row_here", "_law_table"] 3 [] [(0, 0), (0, 1), (0, 2)] [] :=
  kbd_n FD fun kV doc pm an cdv ct us ws h1 h2 => match us, ws, h1, h2 with | [_, _, _], [], _, _ => rfl
theorem nd_law : (["_law_script", "_law_k", "_law_box_here", "_law_table", "_law_turn", "_law_row_here"] : List Str).Nodup := by decide +kernel
theorem sc_law : FnScope ["_law_script", "_law_k", "_law_box_here", "_law_table", "_law_turn", "_law_row_here"] ["_law_script"] d_law.scope := ⟨rfl, rfl, rfl, nd_law, rfl, by decide +kernel, by decide +kernel⟩
theorem ok_law (F : Fx T mg lw) (hcf : T.cf = cf) : OkF T P w mg base 6 d_law ["_law_script"] m_law := by
  obtain ⟨fd, FD⟩ := F.defs 20 d_law rfl
  refine OkF.mk' (N := ["_law_script", "_law_k", "_law_box_here", "_law_table", "_law_turn", "_law_row_here"]) FD sc_law fun cdv A outer s H E hr => ?_
  show ISs T E _ (defBody (top 35)) b_law
  exact (is_cons (is_for (vs := allN 6) (by exact passes_of rfl) (by rfl) (ii_r1 (by rfl) (by exact F.f "range") (ia_cons (ie_b (by exact call_max2 rfl) bo_max2 (by rfl) (by exact F.f "max") (by decide +kernel) (ia_cons ie_int (ia_cons (ie_b (by exact call_min2 rfl) bo_min2 (by rfl) (by exact F.f "min") (by decide +kernel) (ia_cons (ie_b (by exact call_len) bo_lenA (by rfl) (by exact F.f "len") (by decide +kernel) (ia_cons (ie_v 0) ia_nil)) (ia_cons ie_int ia_nil))) ia_nil))) ia_nil)) (ig_n 1 nd_law) (is_cons (is_st 2 nd_law (ie_fnF (by exact ok__law_box F hcf) (by rfl) (by exact hr.mono (by decide)) (by rfl) (by exact F.g "_law_box") kb__law_box_0 (by exact tk_cx) (ak_cons (ia_cons (ie_v 0) (ia_cons (ie_v 1) ia_nil)) ik_nil)))
  (is_cons (is_st 3 nd_law (ie_fnF (by exact ok__law_rates F hcf) (by rfl) (by exact hr.mono (by decide)) (by rfl) (by exact F.g "_law_rates") kb__law_rates_0 (by exact tk_cx) (ak_cons (ia_cons (ie_v 2) ia_nil) ik_nil)))
  (is_one (is_for (vs := allN 6) (by exact passes_of rfl) (by rfl) (ii_r1 (by rfl) (by exact F.f "range") (ia_cons ie_int ia_nil)) (ig_n 4 nd_law) (is_cons (is_st 5 nd_law (ie_fnF (by exact ok__law_row F hcf) (by rfl) (by exact hr.mono (by decide)) (by rfl) (by exact F.g "_law_row") kb__law_row_0 (by exact tk_cx) (ak_cons (ia_cons (ie_v 2) ia_nil) ik_nil)))
  (is_cons (is_if (iw_pt (iw_and (ib_cmp (oi_isnot) (ie_fnF (by exact ok__law_rate F hcf) (by rfl) (by exact hr.mono (by decide)) (by rfl) (by exact F.g "_law_rate") kb__law_rate_0 (by exact tk_cx) (ak_cons (ia_cons (ie_v 3) (ia_cons (ie_idxB (by rfl) (by exact hu1 hr) (ie_v 5) ie_int) (ia_cons (ie_idxB (by rfl) (by exact hu1 hr) (ie_v 5) ie_int) ia_nil))) ik_nil)) ie_non (by rfl)) (iw_and1 (ib_not (ib_val (ie_fnF (by exact ok__law_shares_right F hcf) (by rfl) (by exact hr.mono (by decide)) (by rfl) (by exact F.g "_law_shares_right") kb__law_shares_right_0 (by exact tk_cx) (ak_cons (ia_cons (ie_v 2) (ia_cons (ie_v 5) (ia_cons (ie_v 3) ia_nil))) ik_nil))))))) (is_one (is_ret ie_bl)) is_nil)
  (is_one (is_if (ib_not (ib_val (ie_fnF (by exact ok__law_later_right F hcf) (by rfl) (by exact hr.mono (by decide)) (by rfl) (by exact F.g "_law_later_right") kb__law_later_right_0 (by exact tk_cx) (ak_cons (ia_cons (ie_v 2) (ia_cons (ie_v 5) (ia_cons (ie_v 3) ia_nil))) ik_nil)))) (is_one (is_ret ie_bl)) is_nil)))))))))
  (is_one (is_ret ie_bl)))
end
end Ro
end

section
set_option Elab.async false
set_option linter.all false
set_option maxRecDepth 100000
set_option maxHeartbeats 0
namespace Ro
open PySem PySem.Spec PyProof.Rows L2
/-! ### the head, the end -/
abbrev RW : PySem.W.OpenRow := PySem.W.OpenLaw.row PySem.Challenge.rw_roadpence_k15_whole_shares
abbrev qv : Program := PySem.W.view RW.prog [35]
def nms0 : List PySem.Str := ["PenceError", "NoRates", "NoSpending", "NoRate", "NoHeads", "KINDS", "MOST_AMOUNT", "LAST_DAY", "LAST_MONEY", "MOST_HEADS", "is_whole", "is_kind", "option", "Spending", "MOST_RATES", "MOST_PART", "is_rate", "need_rates", "rate_by", "rate_on", "share_by", "share_of", "_law_box", "_law_more", "_law_take", "_law_row", "_law_spent", "_law_rates", "_law_rate", "_law_shares_right"]
def nms1 : List PySem.Str := ["_law_later_right"]
def nms : List PySem.Str := nms0 ++ nms1
abbrev hk : PySem.W.Hook := hookL 5 lw
def ob (s : PySem.W.SharedT) : He.AlD := obLG 5 lw (HandSHeadRun.getT s)
theorem ob_eq (s : PySem.W.SharedT) : ob s = hk.obs s.abs := obLG_eq (HandSHeadRun.getT_eq s)
theorem run (w : World) : HandSHeadRun.RunEq RW qv hk ob 30000 nms w := by
  intro os
  kernel_rfl
theorem law_binds (T : Tb) (fd : FuncData) (FD : FunD T.K d_law.name d_law.qual d_law.params d_law.body d_law.scope (d_law.dvs T.K) [] (He.fAd T.K d_law.at_) fd) (s : Shared) (u : Value) : BindsTo s fd ⟨[u], []⟩ [("_law_script", u)] :=
  (FunD.bindsA (ps := ["_law_script"]) FD fun _ _ _ _ _ _ us hl => match us, hl with | [_], _ => rfl) s [u] rfl
theorem law_from (hm : ∀ ns : List Int, ns.length ≤ 63 → (∀ z ∈ ns, bits20 z) → ∃ S, m_law [.scr ns] [] = .ok (.bl true) S) : PySem.Challenge.rw_roadpence_k15_whole_shares.Holds := by
  w_on; o_law
  refine HandSHeadRun.head_any (r := PySem.W.OpenLaw.row PySem.Challenge.rw_roadpence_k15_whole_shares) (q := PySem.W.view (PySem.W.OpenLaw.row PySem.Challenge.rw_roadpence_k15_whole_shares).prog [35]) (H := hk) (ob := ob) (M := 30000) (loose := nms) (d := HandSHeadRun.topDef (PySem.W.OpenLaw.row PySem.Challenge.rw_roadpence_k15_whole_shares).prog 35) (kwd := []) ob_eq
    (by kernel_rfl) (fun s => by kernel_rfl) run (by kernel_rfl) (by kernel_rfl) (by kernel_rfl) (by rfl) (by first | assumption | decide +kernel) (by decide +kernel) ⟨rfl, rfl, rfl, rfl, rfl, by decide +kernel⟩ ?hw ?hc
  case hw => w_witness2
  case hc =>
    refine walkG (l := PySem.Challenge.rw_roadpence_k15_whole_shares) (n := 63) (k := 6) (x := "_law_script") (m := m_law) rfl (by decide) (by kernel_rfl) (by decide) ?F hm
    intro w mg fa h Y G hmg0
    obtain ⟨K, KX, c⟩ := Y
    have hmg : mg ("law" : PySem.Str) = some (.ref fa) := by
      have e : (HandSHeadRun.topDef (PySem.W.OpenLaw.row PySem.Challenge.rw_roadpence_k15_whole_shares).prog 35).name = ("law" : PySem.Str) := by kernel_rfl
      rw [← e]
      exact hmg0
    have F : Fx ⟨K, cf, []⟩ mg lw := fx_of (T := ⟨K, cf, []⟩) KX G c
    obtain ⟨fd, hb, hF⟩ := lawF (T := ⟨K, cf, []⟩) (P := (PySem.Challenge.rw_roadpence_k15_whole_shares).prog) (w := w) (h := h) (k := 6) (i := 20) (d := d_law) (m := m_law) (x := "_law_script") F rfl hmg rfl (by decide +kernel) rfl (law_binds _) (fun base => ok_law F rfl)
    exact ⟨⟨K, cf, []⟩, fd, rfl, KX, hb, hF⟩
end Ro
end

section
set_option Elab.async false
set_option linter.all false
set_option maxRecDepth 100000
set_option maxHeartbeats 4000000
namespace Ro
open PySem
variable {S : Store}
@[simp] theorem ty_int (i : Int) : tyD (.int i) S = some (.b "int") := rfl
@[simp] theorem ty_bl (i : Bool) : tyD (.bl i) S = some (.b "bool") := rfl
@[simp] theorem ty_str (i : Str) : tyD (.str i) S = some (.b "str") := rfl
@[simp] theorem ty_tup (i : List D) : tyD (.tup i) S = some (.b "tuple") := rfl
@[simp] theorem ty_lst (i : List D) : tyD (.lst i) S = some (.b "list") := rfl
theorem whole_ok (i lo hi : Int) : m_is_whole [.int i, .int lo, .int hi] S = .ok (.bl (decide (lo ≤ i) && decide (i ≤ hi))) S := by
  unfold m_is_whole b_is_whole
  have h1 : subTy (.b "int") (.b "int") = true := by decide
  have h2 : subTy (.b "int") (.b "bool") = false := by decide
  have h3 : Ty.b "int" ∈ tysL := by decide
  by_cases c : lo ≤ i <;> simp [h1, h2, h3, c]
def kinds : List Str := ["bed", "fee", "meal", "ride", "sundry"]
theorem kind_ok {z : Str} (h : z ∈ kinds) : m_is_kind [.str z] S = .ok (.bl true) S := by
  unfold m_is_kind b_is_kind
  have h1 : subTy (.b "str") (.b "str") = true := by decide
  have h3 : Ty.b "str" ∈ tysL := by decide
  unfold kinds at h
  simp at h
  rcases h with rfl | rfl | rfl | rfl | rfl <;> simp [h1, h3, inD]
/-! ### a spending -/
structure Sp where
  kind : Str
  amount : Int
  day : Int
  paper : Bool
  heads : Int
  money : Int
def Sp.ok (p : Sp) : Prop := p.kind ∈ kinds ∧ (1 ≤ p.amount ∧ p.amount ≤ 1000000) ∧ (0 ≤ p.day ∧ p.day ≤ 59) ∧ (1 ≤ p.heads ∧ p.heads ≤ 6) ∧ 0 ≤ p.money ∧ p.money ≤ 3
def Sp.ds (p : Sp) : List D := [.str p.kind, .int p.amount, .int p.day, .bl p.paper, .int p.heads, .int p.money]
def Sp.obj (p : Sp) : D := .obj "Spending" p.ds
theorem init_ok {n : Nat} {p : Sp} (h : p.ok) (hS : S[n]? = some (.ins "Spending" [])) : m_Spending_init (.ref n :: p.ds) S = .ok .non (S.set n (.ins "Spending" [("kind", .str p.kind), ("amount", .int p.amount), ("day", .int p.day), ("paper", .bl p.paper), ("heads", .int p.heads), ("money", .int p.money)])) := by
  obtain ⟨k, ⟨a1, a2⟩, ⟨d1, d2⟩, ⟨e1, e2⟩, m1, m2⟩ := h
  have hn : n < S.length := (List.getElem?_eq_some_iff.mp hS).1
  have hg : S[n] = .ins "Spending" [] := by
    obtain ⟨_, e⟩ := List.getElem?_eq_some_iff.mp hS
    exact e
  have h1 : subTy (.b "bool") (.b "bool") = true := by decide
  have h3 : Ty.b "bool" ∈ tysL := by decide
  have hz : ¬ p.heads ≤ 0 := by omega
  unfold m_Spending_init b_Spending_init Sp.ds
  simp [kind_ok k, whole_ok, a1, a2, d1, d2, e1, e2, m1, m2, h1, h3, hz, hg, hn, setF]
theorem new_ok {xs zs : List D} {pk : List (Nat × Nat)} {n kn : Nat} {dfs : List D} {p : Sp} (h : p.ok) (hp : pick pk (.ref S.length :: xs) dfs zs = .ref S.length :: p.ds) (h1 : xs.length + 1 = n) (h2 : zs.length = kn) :
    frzM cf (newM "Spending" (callM m_Spending_init n kn 7 pk dfs) xs zs S) = .ok p.obj (S ++ [.dead]) := by
  have hS : (S ++ [Cell.ins "Spending" []])[S.length]? = some (.ins "Spending" []) := by simp
  have := init_ok (S := S ++ [.ins "Spending" []]) h hS
  unfold newM
  rw [u_callM, if_pos ⟨by simp [← h1], h2, by rw [hp]; simp [Sp.ds]⟩, hp, this]
  simp [frzM, cf, Sp.obj, Sp.ds]
/-! ### rows of rates -/
structure Rw where
  mon : Int
  day : Int
  top : Int
  bot : Int
def Rw.ok (r : Rw) : Prop := (1 ≤ r.mon ∧ r.mon ≤ 3) ∧ (0 ≤ r.day ∧ r.day ≤ 59) ∧ (1 ≤ r.top ∧ r.top ≤ 1000000) ∧ 1 ≤ r.bot ∧ r.bot ≤ 1000000
def Rw.d (r : Rw) : D := .tup [.int r.mon, .int r.day, .int r.top, .int r.bot]
@[simp] theorem at_2 (d e c : D) (l : List D) : atP (d :: e :: c :: l) 2 = some c := by
  have : pyIx (d :: e :: c :: l).length 2 = some 2 := ix_nn _ 2 (by simp)
  unfold atP
  rw [this]
  rfl
@[simp] theorem at_3 (d e c b : D) (l : List D) : atP (d :: e :: c :: b :: l) 3 = some b := by
  have : pyIx (d :: e :: c :: b :: l).length 3 = some 3 := ix_nn _ 3 (by simp)
  unfold atP
  rw [this]
  rfl
theorem rate_ok {r : Rw} (h : r.ok) : m_is_rate [r.d] S = .ok (.bl true) S := by
  obtain ⟨⟨a1, a2⟩, ⟨b1, b2⟩, ⟨c1, c2⟩, e1, e2⟩ := h
  have h1 : subTy (.b "tuple") (.b "tuple") = true := by decide
  have h3 : Ty.b "tuple" ∈ tysL := by decide
  unfold m_is_rate b_is_rate Rw.d
  simp [whole_ok, a1, a2, b1, b2, c1, c2, e1, e2, h1, h3, bLenA, bLen, lenD]
/-- a comprehension whose parts only tell -/
theorem lc_pure {tg : Pat} {c : BX} {el : EX} {env0 : Env} {p : D → Bool} {g : D → D} : ∀ {xs acc : List D}, acc.length + xs.length ≤ LINE → (∀ x ∈ xs, ∃ e, tg x env0 = some e ∧ c e S = .ok (p x) S ∧ (p x = true → el e S = .ok (g x) S)) →
    lcLoop tg c el env0 xs acc S = .ok (acc ++ (xs.filter p).map g) S
  | [], acc, _, _ => by simp [lcLoop]
  | x :: xs, acc, hl, h => by
    obtain ⟨e, h1, h2, h3⟩ := h x (by simp)
    unfold lcLoop
    rw [h1]
    dsimp only
    rw [h2, nox_ok, bnd_ok]
    cases z : p x with
    | true =>
      rw [if_pos rfl, h3 z, nox_ok, bnd_ok, if_pos (by simp at hl ⊢; omega), lc_pure (acc := acc ++ [g x]) (by simp at hl ⊢; omega) (fun y hy => h y (by simp [hy]))]
      simp [List.filter_cons, z]
    | false =>
      rw [if_neg Bool.false_ne_true, lc_pure (by simp at hl ⊢; omega) (fun y hy => h y (by simp [hy]))]
      simp [List.filter_cons, z]
def lexR (a b : Rw) : Bool := HT.lexLt [a.mon, a.day] [b.mon, b.day]
structure TbOk (rs : List Rw) : Prop where
  len : rs.length ≤ 12
  ok : ∀ r ∈ rs, r.ok
  asc : rs.Pairwise fun a b => lexR a b = true
def tabD (rs : List Rw) : D := .tup (rs.map Rw.d)
theorem dBls_rep (n : Nat) (l : List D) : dBls (l.map fun _ => .bl true) = some (l.map fun _ => true) := by
  induction l with
  | nil => rfl
  | cons x l ih => rw [List.map_cons, dBls, ih]; rfl
theorem cut_row (r : Rw) : cutD r.d none (some 2) = some (.tup [.int r.mon, .int r.day]) := rfl
theorem cut_row2 (r : Rw) : cutD r.d (some 2) none = some (.tup [.int r.top, .int r.bot]) := rfl
theorem cut_m1 (l : List D) : cutL l none (some (-1)) = l.dropLast := by
  unfold cutL cutI
  simp
  rw [List.dropLast_eq_take]
  congr 1
  omega
theorem cut_1 (l : List D) : cutL l (some 1) none = l.tail := by
  unfold cutL cutI
  simp
  by_cases h : l.length = 0
  · simp [List.length_eq_zero_iff.mp h]
  · have e : min 1 l.length = 1 := by omega
    rw [e, List.take_of_length_le (by simp)]
    simp
theorem zip_asc : ∀ {rs : List Rw}, rs.Pairwise (fun a b => lexR a b = true) → ∀ x ∈ zipL ((rs.map Rw.d).dropLast) ((rs.map Rw.d).tail), ∃ a b : Rw, x = .tup [a.d, b.d] ∧ lexR a b = true
  | [], _, x, hx => by simp [zipL] at hx
  | [a], _, x, hx => by simp [zipL] at hx
  | a :: b :: rs, h, x, hx => by
    have e1 : ((a :: b :: rs).map Rw.d).dropLast = a.d :: ((b :: rs).map Rw.d).dropLast := by simp
    have e2 : ((a :: b :: rs).map Rw.d).tail = b.d :: ((b :: rs).map Rw.d).tail := by simp
    rw [e1, e2] at hx
    rw [List.pairwise_cons] at h
    rcases List.mem_cons.mp (show x ∈ D.tup [a.d, b.d] :: zipL (((b :: rs).map Rw.d).dropLast) (((b :: rs).map Rw.d).tail) from hx) with e | hx
    · exact ⟨a, b, e, h.1 b (by simp)⟩
    · exact zip_asc h.2 x hx
theorem need_ok {rs : List Rw} (h : TbOk rs) : m_need_rates [tabD rs] S = .ok .non S := by
  have h1 : subTy (.b "tuple") (.b "tuple") = true := by decide
  have h3 : Ty.b "tuple" ∈ tysL := by decide
  have hl := h.len
  unfold m_need_rates b_need_rates tabD
  have l1 : lcLoop (pName 1) bYes (eFn (callM m_is_rate 1 0 1 [(0, 0)] []) (aCons (eVar 1) aNil) aNil) (wipeE [some (.tup (rs.map Rw.d)), none, none] [1]) (rs.map Rw.d) [] S = .ok (((rs.map Rw.d).filter fun _ => true).map fun _ => .bl true) S := by
    refine lc_pure (by simp; omega) fun x hx => ?_
    obtain ⟨r, hr, rfl⟩ := List.mem_map.mp hx
    refine ⟨_, rfl, rfl, fun _ => ?_⟩
    simp [wipeE, rate_ok (h.ok r hr)]
  have l2 : lcLoop (pTup (pCons (pName 1) (pCons (pName 2) pNil))) bYes (eOp ltA (eCut (eVar 1) oNone (oSome (eC (.int 2)))) (eCut (eVar 2) oNone (oSome (eC (.int 2))))) (wipeE [some (.tup (rs.map Rw.d)), none, none] [1, 2]) (zipL ((rs.map Rw.d).dropLast) ((rs.map Rw.d).tail)) [] S = .ok (((zipL ((rs.map Rw.d).dropLast) ((rs.map Rw.d).tail)).filter fun _ => true).map fun _ => .bl true) S := by
    refine lc_pure (by rw [zipL_len]; simp; omega) fun x hx => ?_
    obtain ⟨a, b, rfl, hab⟩ := zip_asc h.asc x hx
    refine ⟨_, rfl, rfl, fun _ => ?_⟩
    simp [wipeE, cut_row, ltA, dInts]
    exact hab
  have ft : ∀ l : List D, l.filter (fun _ => true) = l := fun l => by simp
  rw [ft] at l1 l2
  have ba : ∀ l : List D, bAll [.lst (l.map fun _ => .bl true)] = some (.bl true) := fun l => by
    show Option.map (fun bs => D.bl (bs.all id)) (dBls (l.map fun _ => D.bl true)) = _
    rw [dBls_rep l.length]
    simp
  have b1 := ba (rs.map Rw.d)
  have b2 := ba (zipL ((rs.map Rw.d).dropLast) ((rs.map Rw.d).tail))
  generalize ((rs.map Rw.d).map fun _ => D.bl true) = B1 at l1 b1
  generalize ((zipL ((rs.map Rw.d).dropLast) ((rs.map Rw.d).tail)).map fun _ => D.bl true) = B2 at l2 b2
  have hlt : ¬ (12 : Int) < rs.length := by omega
  generalize hz : zipL ((rs.map Rw.d).dropLast) ((rs.map Rw.d).tail) = Z at l2
  simp [h1, h3, bLenA, bLen, lenD, l1, b1, cutD, cut_m1, cut_1, hlt, hz, l2, b2]
/-! ### the rate of a day -/
def hit (rs : List Rw) (m t : Int) : List Rw := rs.filter fun r => decide (r.mon = m) && decide (r.day ≤ t)
def rateOf (rs : List Rw) (m t : Int) : Option (Int × Int) := if m = 0 then some (1, 1) else (hit rs m t).getLast?.map fun r => (r.top, r.bot)
theorem rw_inj : ∀ (l : List D), l.all (plN 7) = true → eqD (.lst l) (.lst []) = some (.bl l.isEmpty) := fun l h => by
  unfold eqD
  have e1 : plD (.lst l) = true := h
  have e2 : plD (.lst []) = true := rfl
  rw [if_pos (by rw [e1, e2]; rfl), pyEq_lst]
  cases l with
  | nil => rw [pyEqs_nil]; rfl
  | cons x l => rw [pyEqs_cn]; rfl
def hitB (m t : Int) : D → Bool
  | .tup [.int a, .int b, _, _] => decide (a = m) && decide (b ≤ t)
  | _ => false
theorem hit_d (rs : List Rw) (m t : Int) : (rs.map Rw.d).filter (hitB m t) = (hit rs m t).map Rw.d := by
  unfold hit
  rw [List.filter_map]
  rfl
theorem last_at (l : List D) : atP l (-1) = l.getLast? := by
  unfold atP pyIx
  rw [if_neg (by decide)]
  by_cases h : l.length = 0
  · simp [List.length_eq_zero_iff.mp h]
  · rw [if_pos (by omega), List.getLast?_eq_getElem?]
    have e : (-1 + (l.length : Int)).toNat = l.length - 1 := by omega
    rw [e]
    rfl
theorem rateby_ok {rs : List Rw} {m t a b : Int} (hl : rs.length ≤ 16) (h : rateOf rs m t = some (a, b)) : m_rate_by [tabD rs, .int m, .int t] S = .ok (.tup [.int a, .int b]) S := by
  unfold m_rate_by b_rate_by tabD
  unfold rateOf at h
  by_cases c : m = 0
  · rw [if_pos c] at h
    cases h
    simp [c]
  · rw [if_neg c] at h
    have l1 : lcLoop (pName 4) (bAnd (bVal (eOp eqD (eIdxB (eVar 4) (eC (.int 0))) (eVar 1))) (bVal (eOp leD (eIdxB (eVar 4) (eC (.int 1))) (eVar 2)))) (eVar 4) (wipeE [some (.tup (rs.map Rw.d)), some (.int m), some (.int t), none, none] [4]) (rs.map Rw.d) [] S = .ok (((rs.map Rw.d).filter (hitB m t)).map id) S := by
      refine lc_pure (by simp; omega) fun x hx => ?_
      obtain ⟨r, hr, rfl⟩ := List.mem_map.mp hx
      refine ⟨_, rfl, ?_, fun _ => ?_⟩
      · by_cases c1 : r.mon = m <;> simp [wipeE, Rw.d, hitB, c1]
      · simp [wipeE]
    rw [List.map_id, hit_d] at l1
    cases z : (hit rs m t).getLast? with
    | none => rw [z] at h; cases h
    | some r =>
      rw [z] at h
      cases h
      have hp : ((hit rs m t).map Rw.d).all (plN 7) = true := by
        rw [List.all_eq_true]
        intro x hx
        obtain ⟨r, _, rfl⟩ := List.mem_map.mp hx
        simp [Rw.d]
      have he := rw_inj _ hp
      have hne : ((hit rs m t).map Rw.d).isEmpty = false := by
        cases y : hit rs m t with
        | nil => rw [y] at z; cases z
        | cons _ _ => rfl
      rw [hne] at he
      have hlast : ((hit rs m t).map Rw.d).getLast? = some r.d := by rw [List.getLast?_map, z]; rfl
      generalize (hit rs m t).map Rw.d = L at l1 he hlast
      simp [c, l1, he, idxB, idxD, last_at, hlast, cut_row2]
theorem rateon_ok {rs : List Rw} {m t a b : Int} (hT : TbOk rs) (h : rateOf rs m t = some (a, b)) : m_rate_on [tabD rs, .int m, .int t] S = .ok (.tup [.int a, .int b]) S := by
  have hl := hT.len
  unfold m_rate_on b_rate_on
  simp [need_ok hT, rateby_ok (by omega) h]
/-! ### shares -/
def share (amount heads a b : Int) : Int := (2 * amount * a + b * heads) / (2 * (b * heads))
theorem rate_bd {rs : List Rw} {m t a b : Int} (hT : TbOk rs) (h : rateOf rs m t = some (a, b)) : 1 ≤ a ∧ a ≤ 1000000 ∧ 1 ≤ b ∧ b ≤ 1000000 := by
  unfold rateOf at h
  split at h
  · cases h; decide
  · cases z : (hit rs m t).getLast? with
    | none => rw [z] at h; cases h
    | some r =>
      rw [z] at h
      cases h
      have hm : r ∈ hit rs m t := List.mem_of_getLast? z
      have hr := hT.ok r (List.mem_filter.mp hm).1
      exact ⟨hr.2.2.1.1, hr.2.2.1.2, hr.2.2.2.1, hr.2.2.2.2⟩
theorem mulBd {x y A B : Int} (h1 : 0 ≤ x) (h2 : x ≤ A) (h3 : 0 ≤ y) (h4 : y ≤ B) : 0 ≤ x * y ∧ x * y ≤ A * B := ⟨Int.mul_nonneg h1 h3, Int.mul_le_mul h2 h4 h3 (by omega)⟩
@[simp] theorem f_kind (p : Sp) : attrD cf ["Spending"] "kind" p.obj S = some (.str p.kind) := rfl
@[simp] theorem f_amount (p : Sp) : attrD cf ["Spending"] "amount" p.obj S = some (.int p.amount) := rfl
@[simp] theorem f_day (p : Sp) : attrD cf ["Spending"] "day" p.obj S = some (.int p.day) := rfl
@[simp] theorem f_paper (p : Sp) : attrD cf ["Spending"] "paper" p.obj S = some (.bl p.paper) := rfl
@[simp] theorem f_heads (p : Sp) : attrD cf ["Spending"] "heads" p.obj S = some (.int p.heads) := rfl
@[simp] theorem f_money (p : Sp) : attrD cf ["Spending"] "money" p.obj S = some (.int p.money) := rfl
theorem shareby_ok {rs : List Rw} {p : Sp} {a b : Int} (hT : TbOk rs) (hp : p.ok) (h : rateOf rs p.money p.day = some (a, b)) : m_share_by [p.obj, tabD rs] S = .ok (.int (share p.amount p.heads a b)) S := by
  obtain ⟨k, ⟨a1, a2⟩, ⟨d1, d2⟩, ⟨e1, e2⟩, m1, m2⟩ := hp
  obtain ⟨r1, r2, r3, r4⟩ := rate_bd hT h
  have hl := hT.len
  have q := rateby_ok (S := S) (rs := rs) (by omega) h
  unfold m_share_by b_share_by
  obtain ⟨x1, x2⟩ := mulBd (x := b) (y := p.heads) (A := 1000000) (B := 6) (by omega) r4 (by omega) e2
  have hpos : 0 < b * p.heads := Int.mul_pos (by omega) (by omega)
  have e1' : mulOk b p.heads = true := mulOk_lt (n := 21) (m := 4) (by omega) (by omega) (by decide)
  have e2' : mulOk 2 p.amount = true := mulOk_lt (n := 2) (m := 21) (by decide) (by omega) (by decide)
  have e3' : mulOk (2 * p.amount) a = true := mulOk_lt (n := 22) (m := 21) (by omega) (by omega) (by decide)
  have e4' : mulOk 2 (b * p.heads) = true := mulOk_lt (n := 2) (m := 24) (by decide) (by omega) (by decide)
  have e5' : (2 * (b * p.heads)).natAbs.log2 < 9000 := by
    have : (2 * (b * p.heads)).natAbs < 2 ^ 30 := by omega
    have := (Nat.log2_lt (n := (2 * (b * p.heads)).natAbs) (k := 30) (by omega)).mpr this
    omega
  have e6' : 0 < 2 * (b * p.heads) := by omega
  simp [q, e1', e2', e3', e4', e5', e6', hpos, share]
theorem shareof_ok {rs : List Rw} {p : Sp} {a b : Int} (hT : TbOk rs) (hp : p.ok) (h : rateOf rs p.money p.day = some (a, b)) : m_share_of [p.obj, tabD rs] S = .ok (.int (share p.amount p.heads a b)) S := by
  have e : isND (tabD rs) .non = some (.bl false) := rfl
  unfold m_share_of b_share_of
  simp [e, need_ok hT, shareby_ok hT hp h]
def pickD (x y : D) : D := if isNonD x then y else x
theorem parts_ok (p : Sp) : m_Spending_all_parts [p.obj] S = .ok (.tup p.ds) S := by
  unfold m_Spending_all_parts b_Spending_all_parts
  simp [Sp.ds]
theorem but_ok {p p' : Sp} {x1 x2 x3 x4 x5 x6 : D} (hp : p'.ok) (h : [pickD x1 (.str p.kind), pickD x2 (.int p.amount), pickD x3 (.int p.day), pickD x4 (.bl p.paper), pickD x5 (.int p.heads), pickD x6 (.int p.money)] = p'.ds) :
    m_Spending_but [p.obj, x1, x2, x3, x4, x5, x6] S = .ok p'.obj (S ++ [.dead]) := by
  have hi : isInst cf "Spending" "all_parts" p.obj S = true := rfl
  have nd : ∀ x y : D, ∀ S : Store, (if isNonD x = true then (R.ok y S) else R.ok x S) = R.ok (pickD x y) S := fun x y S => by unfold pickD; split <;> rfl
  have isn : ∀ x : D, isND x .non = some (.bl (isNonD x)) := fun _ => rfl
  unfold m_Spending_but b_Spending_but
  have l1 : lcLoop (pTup (pCons (pName 9) (pCons (pName 10) pNil))) bYes (eIf (bVal (eOp isND (eVar 9) (eC .non))) (eVar 10) (eVar 9)) (wipeE [some p.obj, some x1, some x2, some x3, some x4, some x5, some x6, some (.tup [x1, x2, x3, x4, x5, x6]), none, none, none] [9, 10]) (zipL [x1, x2, x3, x4, x5, x6] p.ds) [] S = .ok p'.ds S := by
    rw [← h]
    refine (lc_pure (p := fun _ => true) (g := fun d => match d with | .tup [x, y] => pickD x y | _ => .non) (by simp [zipL, Sp.ds]) fun x hx => ?_).trans (by simp [zipL, Sp.ds])
    simp [zipL, Sp.ds] at hx
    rcases hx with rfl | rfl | rfl | rfl | rfl | rfl <;> exact ⟨_, rfl, rfl, fun _ => by simp [wipeE, isn, nd]⟩
  have hn := new_ok (S := S) (p := p') (n := 3) (kn := 4) (xs := [.str p'.kind, .int p'.amount]) (zs := [.int p'.day, .bl p'.paper, .int p'.heads, .int p'.money]) (pk := [(0, 0), (0, 1), (0, 2), (2, 0), (2, 1), (2, 2), (2, 3)]) (dfs := [.int 0, .bl true, .int 1, .int 0]) hp rfl rfl rfl
  have d0 : ∀ S : Store, idxB (.lst p'.ds) (.int 0) S = some (.str p'.kind) := fun _ => rfl
  have d1 : ∀ S : Store, idxB (.lst p'.ds) (.int 1) S = some (.int p'.amount) := fun _ => rfl
  have d2 : ∀ S : Store, idxB (.lst p'.ds) (.int 2) S = some (.int p'.day) := fun _ => rfl
  have d3 : ∀ S : Store, idxB (.lst p'.ds) (.int 3) S = some (.bl p'.paper) := fun _ => rfl
  have d4 : ∀ S : Store, idxB (.lst p'.ds) (.int 4) S = some (.int p'.heads) := fun _ => rfl
  have d5 : ∀ S : Store, idxB (.lst p'.ds) (.int 5) S = some (.int p'.money) := fun _ => rfl
  simp [-idx_lst, hi, parts_ok, l1, d0, d1, d2, d3, d4, d5, hn]
theorem pick_ok {l : List D} {i : Int} {P : D → Prop} (h0 : 0 ≤ i) (h1 : i < l.length) (h : ∀ d ∈ l, P d) : ∃ d, atP l i = some d ∧ P d := by
  have hl : i.toNat < l.length := by omega
  have e : (i.toNat : Int) = i := Int.toNat_of_nonneg h0
  refine ⟨l[i.toNat], ?_, h _ (List.getElem_mem hl)⟩
  have e2 : pyIx l.length i = some i.toNat := by
    have := ix_nn _ _ hl
    rw [e] at this
    exact this
  unfold atP
  rw [e2]
  simp [hl]
theorem row_ok {b : Nat} (hB : Bx S b) : W (m__law_row [.ref b] S) fun d S' => ∃ p : Sp, p.ok ∧ d = .tup p.ds ∧ Bs S b S' := by
  unfold m__law_row b__law_row
  simp
  refine (take_ok hB (by decide)).mono ?_
  rintro _ S1 ⟨⟨i1, rfl, a1, b1⟩, s1⟩
  have B1 := s1.bx hB.lt
  obtain ⟨kd, ek, kk⟩ := pick_ok (l := [.str "bed", .str "fee", .str "meal", .str "ride", .str "sundry"]) (P := fun d => ∃ z ∈ kinds, d = .str z) a1 (by simpa using b1) (by simp [kinds])
  obtain ⟨z, hz, rfl⟩ := kk
  simp [ek]
  refine (take_ok B1 (by decide)).mono ?_
  rintro _ S2 ⟨⟨i2, rfl, a2, b2⟩, s2⟩
  have B2 := s2.bx B1.lt
  simp
  refine (take_ok B2 (by decide)).mono ?_
  rintro _ S3 ⟨⟨i3, rfl, a3, b3⟩, s3⟩
  have B3 := s3.bx B2.lt
  simp
  refine (take_ok B3 (by decide)).mono ?_
  rintro _ S4 ⟨⟨i4, rfl, a4, b4⟩, s4⟩
  have B4 := s4.bx B3.lt
  simp
  obtain ⟨_, eam, am, rfl, am1, am2⟩ := pick_ok (l := [.int 1, .int 1000000, .int (1 + i2), .int (1 + i3)]) (P := fun d => ∃ z : Int, d = .int z ∧ 1 ≤ z ∧ z ≤ 1000000) a4 (by simpa using b4) (by simp; omega)
  refine ⟨_, eam, ?_⟩
  refine (take_ok B4 (by decide)).mono ?_
  rintro _ S5 ⟨⟨i5, rfl, a5, b5⟩, s5⟩
  have B5 := s5.bx B4.lt
  refine (take_ok B5 (by decide)).mono ?_
  rintro _ S6 ⟨⟨i6, rfl, a6, b6⟩, s6⟩
  have B6 := s6.bx B5.lt
  refine (take_ok B6 (by decide)).mono ?_
  rintro _ S7 ⟨⟨i7, rfl, a7, b7⟩, s7⟩
  have B7 := s7.bx B6.lt
  obtain ⟨_, edy, dy, rfl, dy1, dy2⟩ := pick_ok (l := [.int 0, .int 59, .int i5, .int i6]) (P := fun d => ∃ z : Int, d = .int z ∧ 0 ≤ z ∧ z ≤ 59) a7 (by simpa using b7) (by simp; omega)
  refine ⟨_, edy, ?_⟩
  refine (take_ok B7 (by decide)).mono ?_
  rintro _ S8 ⟨⟨i8, rfl, a8, b8⟩, s8⟩
  have B8 := s8.bx B7.lt
  refine ⟨_, rfl, ?_⟩
  refine (take_ok B8 (by decide)).mono ?_
  rintro _ S9 ⟨⟨i9, rfl, a9, b9⟩, s9⟩
  have B9 := s9.bx B8.lt
  refine ⟨_, rfl, ?_⟩
  refine (take_ok B9 (by decide)).mono ?_
  rintro _ S10 ⟨⟨i10, rfl, a10, b10⟩, s10⟩
  have B10 := s10.bx B9.lt
  obtain ⟨_, ehd, hd, rfl, hd1, hd2⟩ := pick_ok (l := [.int 1, .int 1, .int 6, .int (1 + i9)]) (P := fun d => ∃ z : Int, d = .int z ∧ 1 ≤ z ∧ z ≤ 6) a10 (by simpa using b10) (by simp; omega)
  refine ⟨_, ehd, ?_⟩
  refine (take_ok B10 (by decide)).mono ?_
  rintro _ S11 ⟨⟨i11, rfl, a11, b11⟩, s11⟩
  have B11 := s11.bx B10.lt
  refine (take_ok B11 (by decide)).mono ?_
  rintro _ S12 ⟨⟨i12, rfl, a12, b12⟩, s12⟩
  have B12 := s12.bx B11.lt
  obtain ⟨_, emo, mo, rfl, mo1, mo2⟩ := pick_ok (l := [.int 0, .int i11]) (P := fun d => ∃ z : Int, d = .int z ∧ 0 ≤ z ∧ z ≤ 3) a12 (by simpa using b12) (by simp; omega)
  refine ⟨_, emo, ⟨z, am, dy, decide (0 < i8), hd, mo⟩, ⟨hz, ⟨am1, am2⟩, ⟨dy1, dy2⟩, ⟨hd1, hd2⟩, mo1, mo2⟩, rfl, ?_⟩
  exact ((((((((((s1.trans s2).trans s3).trans s4).trans s5).trans s6).trans s7).trans s8).trans s9).trans s10).trans s11).trans s12
/-! ### the table that is drawn -/
def KvOk (p : List Int × D) : Prop := ∃ r : Rw, r.ok ∧ p.1 = [r.mon, r.day] ∧ p.2 = .tup [.int r.top, .int r.bot]
structure DcOk (l : List (List Int × D)) : Prop where
  ok : ∀ p ∈ l, KvOk p
  nd : (l.map (·.1)).Nodup
theorem put_ok {l : List (List Int × D)} {r : Rw} (h : DcOk l) (hr : r.ok) : DcOk (putL l [r.mon, r.day] (.tup [.int r.top, .int r.bot])) ∧ (putL l [r.mon, r.day] (.tup [.int r.top, .int r.bot])).length ≤ l.length + 1 := by
  unfold putL
  split
  · refine ⟨⟨fun p hp => ?_, ?_⟩, by simp⟩
    · obtain ⟨q, hq, rfl⟩ := List.mem_map.mp hp
      by_cases c : q.1 = [r.mon, r.day]
      · rw [if_pos c]
        exact ⟨r, hr, c, rfl⟩
      · rw [if_neg c]
        exact h.ok q hq
    · have e : (l.map fun p => if p.1 = [r.mon, r.day] then (p.1, D.tup [.int r.top, .int r.bot]) else p).map (·.1) = l.map (·.1) := by
        rw [List.map_map]
        refine List.map_congr_left fun p _ => ?_
        show (if p.1 = [r.mon, r.day] then (p.1, D.tup [.int r.top, .int r.bot]) else p).1 = p.1
        split <;> rfl
      rw [e]
      exact h.nd
  · rename_i c
    refine ⟨⟨fun p hp => ?_, ?_⟩, by simp⟩
    · rcases List.mem_append.mp hp with hp | hp
      · exact h.ok p hp
      · simp at hp
        subst hp
        exact ⟨r, hr, rfl, rfl⟩
    · rw [List.map_append, List.nodup_append]
      refine ⟨h.nd, by simp, fun a ha b hb => ?_⟩
      simp at hb
      subst hb
      intro z
      subst z
      obtain ⟨q, hq, e⟩ := List.mem_map.mp ha
      exact c (List.any_eq_true.mpr ⟨q, hq, by simpa using e⟩)
theorem get_ok {l : List (List Int × D)} (h : DcOk l) {k : List Int} (hk : k ∈ l.map (·.1)) : ∃ r : Rw, r.ok ∧ k = [r.mon, r.day] ∧ getL l k = some (.tup [.int r.top, .int r.bot]) := by
  unfold getL
  cases z : l.find? (fun p => decide (p.1 = k)) with
  | none =>
    obtain ⟨q, hq, e⟩ := List.mem_map.mp hk
    have := List.find?_eq_none.mp z q hq
    exact absurd e (by simpa using this)
  | some q =>
    have hm := List.mem_of_find?_eq_some z
    have he := List.find?_some z
    obtain ⟨r, hr, e1, e2⟩ := h.ok q hm
    have he : q.1 = k := by simpa using he
    exact ⟨r, hr, by rw [← he, e1], by rw [← e2]; rfl⟩
def rowOf (l : List (List Int × D)) (k : List Int) : Rw := match k, getL l k with
  | [m, d], some (.tup [.int t, .int b]) => ⟨m, d, t, b⟩
  | _, _ => ⟨0, 0, 0, 0⟩
theorem rowOf_ok {l : List (List Int × D)} (h : DcOk l) {k : List Int} (hk : k ∈ l.map (·.1)) : (rowOf l k).ok ∧ k = [(rowOf l k).mon, (rowOf l k).day] ∧ getL l k = some (.tup [.int (rowOf l k).top, .int (rowOf l k).bot]) := by
  obtain ⟨r, hr, rfl, e⟩ := get_ok h hk
  have e2 : rowOf l [r.mon, r.day] = r := by
    unfold rowOf
    rw [e]
  rw [e2]
  exact ⟨hr, rfl, e⟩
end Ro
end

section
set_option Elab.async false
set_option linter.all false
set_option maxRecDepth 100000
set_option maxHeartbeats 4000000
namespace Ro
open PySem
variable {S : Store}
/-! ### what stays -/
structure Fr (b : Nat) (S S' : Store) : Prop where
  bx : Bx S' b
  le : S.length ≤ S'.length
  keep : ∀ n, n < S.length → n ≠ b → S'[n]? = S[n]?
theorem Fr.refl {b : Nat} (h : Bx S b) : Fr b S S := ⟨h, Nat.le_refl _, fun _ _ _ => rfl⟩
theorem Fr.trans {b : Nat} {S1 S2 : Store} (h : Fr b S S1) (k : Fr b S1 S2) : Fr b S S2 := ⟨k.bx, Nat.le_trans h.le k.le, fun n h1 h2 => (k.keep n (Nat.lt_of_lt_of_le h1 h.le) h2).trans (h.keep n h1 h2)⟩
theorem Bs.fr {b : Nat} {S1 : Store} (h : Bs S b S1) (hb : Bx S b) : Fr b S S1 := ⟨h.bx hb.lt, by rw [h.len]; exact Nat.le_refl _, fun n _ h2 => h.other h2⟩
theorem Bx.app {b : Nat} (h : Bx S b) (l : Store) : Bx (S ++ l) b := by
  obtain ⟨x, y, e, h1, h2⟩ := h
  exact ⟨x, y, by rw [List.getElem?_append_left (List.getElem?_eq_some_iff.mp e).1]; exact e, h1, h2⟩
theorem Fr.app {b : Nat} (h : Bx S b) (l : Store) : Fr b S (S ++ l) := ⟨h.app l, by simp, fun n h1 _ => List.getElem?_append_left h1⟩
theorem Fr.put {b m : Nat} {S1 : Store} (h : Fr b S S1) (hm : S.length ≤ m) (hb : b < S.length) (c : Cell) : Fr b S (S1.set m c) := by
  obtain ⟨⟨x, y, e, h1, h2⟩, h3, h4⟩ := h
  exact ⟨⟨x, y, by rw [List.getElem?_set_ne (by omega)]; exact e, h1, h2⟩, by simpa using h3, fun n k1 k2 => by rw [List.getElem?_set_ne (by omega)]; exact h4 n k1 k2⟩
theorem take_fr {b : Nat} {n : Int} (hB : Bx S b) (hn : 0 < n ∧ n < 1073741824) : W (m__law_take [.ref b, .int n] S) fun d S' => (∃ i : Int, d = .int i ∧ 0 ≤ i ∧ i < n) ∧ Fr b S S' := (take_ok hB hn).mono fun d S' h => ⟨h.1, h.2.fr hB⟩
/-! ### the table that is drawn -/
theorem code2 (a b : Int) : TS.code codB [a, b] = a * codB + b := by
  have e : codB ^ 1 = codB := by decide +kernel
  simp [TS.code, e]
theorem srt_asc {ks : List (List Int)} (hnd : ks.Nodup) (hb : ∀ k ∈ ks, TS.Bd codB k) {n : Nat} (hl : ∀ k ∈ ks, k.length = n) : (srtT ks).Pairwise fun a b => TS.code codB a < TS.code codB b := by
  have hs := srtT_sorted ks
  have hn : (srtT ks).Nodup := (srtT_perm ks).nodup_iff.mpr hnd
  have hm : ∀ k, k ∈ srtT ks → k ∈ ks := fun k hk => (srtT_perm ks).mem_iff.mp hk
  have z := hs.and hn
  refine List.Pairwise.imp_of_mem (fun {a b} ha hb' h => ?_) z
  obtain ⟨h1, h2⟩ := h
  by_cases e : TS.code codB a = TS.code codB b
  · exact absurd (code_eq ((hl _ (hm _ ha)).trans (hl _ (hm _ hb')).symm) (hb _ (hm _ ha)) (hb _ (hm _ hb')) e) h2
  · omega
theorem lex_of_code {a b c d : Int} (h : TS.code codB [a, b] < TS.code codB [c, d]) (h1 : 0 ≤ b ∧ b < codB) (h2 : 0 ≤ d ∧ d < codB) : HT.lexLt [a, b] [c, d] = true := by
  rw [code2, code2] at h
  unfold codB at h h1 h2
  simp [HT.lexLt]
  by_cases e : a = c
  · subst e
    rw [if_pos rfl]
    omega
  · rw [if_neg e]
    omega
theorem idx_dT {n : Nat} {l : List (List Int × D)} {k : List Int} {v : D} (h : S[n]? = some (.dcT l)) (e : getL l k = some v) : idxB (.ref n) (tupD k) S = some v := by
  show idxT (.ref n) (.tup (k.map D.int)) S = some v
  unfold idxT
  simp only [h, dInts_map]
  exact e
theorem rates_ok {b : Nat} (hB : Bx S b) : W (m__law_rates [.ref b] S) fun d S' => ∃ rs, TbOk rs ∧ d = tabD rs ∧ Fr b S S' := by
  have hb := hB.lt
  unfold m__law_rates b__law_rates
  simp
  refine (take_fr (hB.app [.dcT []]) (by decide)).mono ?_
  rintro _ S1 ⟨⟨n, rfl, n1, n2⟩, f1⟩
  have hc : (S ++ [Cell.dcT []])[S.length]? = some (.dcT []) := by simp
  have F1 : Fr b S S1 := (Fr.app hB _).trans f1
  have hc1 : S1[S.length]? = some (.dcT []) := (f1.keep S.length (by simp) (by omega)).trans hc
  have hs : -4611686018427387904 ≤ n ∧ n < 4611686018427387904 := by omega
  simp [hs]
  refine W.loop (I := fun i env S' => ∃ (l : List (List Int × D)) (z w v : Option D), env = [some (.ref b), some (.ref S.length), z, w, v, none] ∧ Fr b S S' ∧ S.length < S'.length ∧ S'[S.length]? = some (.dcT l) ∧ DcOk l ∧ l.length ≤ i) (k := 0)
    ⟨[], none, none, none, rfl, F1, by have := f1.le; simp at this; omega, hc1, ⟨by simp, by simp⟩, by simp⟩ (fun i d env S' hi hd hI => ?_) (fun env S' hI => ?_)
  · obtain ⟨l, z, w, v, rfl, F, hl, hd', hk, hle⟩ := hI
    refine ⟨_, rfl, ?_⟩
    try simp
    refine (take_fr F.bx (by decide)).mono ?_
    rintro _ S2 ⟨⟨i1, rfl, a1, b1⟩, g1⟩
    try simp
    refine (take_fr g1.bx (by decide)).mono ?_
    rintro _ S3 ⟨⟨i2, rfl, a2, b2⟩, g2⟩
    try simp
    refine (take_fr g2.bx (by decide)).mono ?_
    rintro _ S4 ⟨⟨i3, rfl, a3, b3⟩, g3⟩
    try simp
    obtain ⟨_, edy, dy, rfl, dy1, dy2⟩ := pick_ok (l := [.int 0, .int i1, .int i2]) (P := fun d => ∃ z : Int, d = .int z ∧ 0 ≤ z ∧ z ≤ 59) a3 (by simpa using b3) (by simp; omega)
    refine ⟨_, edy, ?_⟩
    refine (take_fr g3.bx (by decide)).mono ?_
    rintro _ S5 ⟨⟨i4, rfl, a4, b4⟩, g4⟩
    try simp
    refine (take_fr g4.bx (by decide)).mono ?_
    rintro _ S6 ⟨⟨i5, rfl, a5, b5⟩, g5⟩
    try simp
    obtain ⟨_, etp, tp, rfl, tp1, tp2⟩ := pick_ok (l := [.int 1, .int 1000000, .int (1 + i4)]) (P := fun d => ∃ z : Int, d = .int z ∧ 1 ≤ z ∧ z ≤ 1000000) a5 (by simpa using b5) (by simp; omega)
    refine ⟨_, etp, ?_⟩
    refine (take_fr g5.bx (by decide)).mono ?_
    rintro _ S7 ⟨⟨i6, rfl, a6, b6⟩, g6⟩
    try simp
    refine (take_fr g6.bx (by decide)).mono ?_
    rintro _ S8 ⟨⟨i7, rfl, a7, b7⟩, g7⟩
    try simp
    obtain ⟨_, ebt, bt, rfl, bt1, bt2⟩ := pick_ok (l := [.int 1, .int 1000000, .int 100, .int (1 + i6)]) (P := fun d => ∃ z : Int, d = .int z ∧ 1 ≤ z ∧ z ≤ 1000000) a7 (by simpa using b7) (by simp; omega)
    refine ⟨_, ebt, ?_⟩
    refine (take_fr g7.bx (by decide)).mono ?_
    rintro _ S9 ⟨⟨i8, rfl, a8, b8⟩, g8⟩
    have G : Fr b S' S9 := ((((((g1.trans g2).trans g3).trans g4).trans g5).trans g6).trans g7).trans g8
    have hc9 : S9[S.length]? = some (.dcT l) := (G.keep S.length hl (by omega)).trans hd'
    have hl9 : S.length < S9.length := Nat.lt_of_lt_of_le hl G.le
    have ha9 : S9[S.length] = .dcT l := by
      obtain ⟨_, e⟩ := List.getElem?_eq_some_iff.mp hc9
      exact e
    have hln : l.length < 16777216 := by have := rng_get hd; omega
    obtain ⟨p1, p2⟩ := put_ok (r := ⟨1 + i8, dy, tp, bt⟩) hk ⟨⟨by simp; omega, by simp; omega⟩, ⟨dy1, dy2⟩, ⟨tp1, tp2⟩, bt1, bt2⟩
    simp [dInts, hl9, ha9, hln]
    simp at p2
    exact ⟨(F.trans G).put (Nat.le_refl _) hb _, p1, by omega⟩
  · obtain ⟨l, z, w, v, rfl, F, hl, hd', hk, hle⟩ := hI
    have ha : S'[S.length] = .dcT l := by
      obtain ⟨_, e⟩ := List.getElem?_eq_some_iff.mp hd'
      exact e
    simp at hle
    have hl12 : l.length ≤ 12 := by omega
    have hkey : ∀ k ∈ l.map (·.1), k.length = 2 ∧ TS.Bd codB k := fun k hk' => by
      obtain ⟨h1, h2, _⟩ := rowOf_ok hk hk'
      rw [h2]
      obtain ⟨⟨x1, x2⟩, ⟨x3, x4⟩, _⟩ := h1
      refine ⟨rfl, fun m hm => ?_⟩
      unfold codB
      simp at hm
      rcases hm with rfl | rfl <;> omega
    have hso : sortOk (l.map (·.1)) = true := by
      unfold sortOk
      have e1 : decide ((l.map (·.1)).length < 64) = true := by simp; omega
      rw [e1, Bool.true_and]
      split
      · rfl
      · rename_i n r e
        have hn2 : n.length = 2 := (hkey n (by rw [e]; simp)).1
        rw [hn2, ← e]
        simp only [Bool.and_eq_true, decide_eq_true_eq, List.all_eq_true]
        refine ⟨by omega, fun k hk' => ?_⟩
        obtain ⟨k1, k2⟩ := hkey k hk'
        unfold tupOk
        simp only [Bool.and_eq_true, decide_eq_true_eq, List.all_eq_true]
        exact ⟨k1, fun z hz => k2 z hz⟩
    have hmem : ∀ k, k ∈ srtT (l.map (·.1)) → k ∈ l.map (·.1) := fun k hk' => (srtT_perm _).mem_iff.mp hk'
    have hlen : (srtT (l.map (·.1))).length ≤ 12 := by rw [(srtT_perm _).length_eq]; simpa using hl12
    have hasc := srt_asc hk.nd (fun k hk' => (hkey k hk').2) (fun k hk' => (hkey k hk').1)
    have hT : TbOk ((srtT (l.map (·.1))).map (rowOf l)) := by
      refine ⟨by simpa using hlen, fun r hr => ?_, ?_⟩
      · obtain ⟨k, hk', rfl⟩ := List.mem_map.mp hr
        exact (rowOf_ok hk (hmem k hk')).1
      · rw [List.pairwise_map]
        refine List.Pairwise.imp_of_mem (fun {a c} h1 h2 h => ?_) hasc
        obtain ⟨x1, x2, _⟩ := rowOf_ok hk (hmem a h1)
        obtain ⟨y1, y2, _⟩ := rowOf_ok hk (hmem c h2)
        rw [x2, y2] at h
        have u := x1.2.1
        have v := y1.2.1
        exact lex_of_code h (by unfold codB; omega) (by unfold codB; omega)
    have lc : lcLoop (pName 5) bYes (eOp addD (eVar 5) (eIdxB (eVar 1) (eVar 5))) (wipeE [some (.ref b), some (.ref S.length), z, w, v, none] [5]) ((srtT (l.map (·.1))).map tupD) [] S' = .ok (((srtT (l.map (·.1))).map (rowOf l)).map Rw.d) S' := by
      refine (lc_pure (p := fun _ => true) (g := fun d => match d with | .tup m => (rowOf l ((dInts m).getD [])).d | _ => .non) (by simp; omega) fun x hx => ?_).trans ?_
      · obtain ⟨k, hk', rfl⟩ := List.mem_map.mp hx
        obtain ⟨x1, x2, x3⟩ := rowOf_ok hk (hmem k hk')
        refine ⟨_, rfl, rfl, fun _ => ?_⟩
        have e1 : dInts (k.map D.int) = some k := dInts_map k
        have e2 := idx_dT hd' x3
        have e3 : addD (tupD k) (.tup [.int (rowOf l k).top, .int (rowOf l k).bot]) = some (rowOf l k).d := by
          generalize hr : rowOf l k = r at x2 ⊢
          rw [x2]
          rfl
        simp [wipeE, e2, e3]
        simp [tupD, e1]
      · rw [List.filter_eq_self.mpr (fun _ _ => rfl)]
        simp [Function.comp_def, tupD, dInts_map]
    generalize hL : ((srtT (l.map (·.1))).map (rowOf l)).map Rw.d = L at lc
    simp [hl, ha, bSortL, hso, lc, bTuple]
    exact ⟨_, hT, by rw [← hL]; rfl, F⟩
end Ro
end

section
set_option Elab.async false
set_option linter.all false
set_option maxRecDepth 100000
set_option maxHeartbeats 4000000
namespace Ro
open PySem
variable {S : Store}
/-! ### the law's own rate -/
def rateD : Option (Int × Int) → D
  | none => .non
  | some (a, b) => .tup [.int a, .int b]
theorem lawrate_ok {rs : List Rw} {m t : Int} : m__law_rate [tabD rs, .int m, .int t] S = .ok (rateD (rateOf rs m t)) S := by
  unfold m__law_rate b__law_rate tabD rateOf
  by_cases c : m = 0
  · simp [c, rateD]
  · have key : ∀ (rs : List Rw) (o : Option (Int × Int)) (x4 x5 x6 x7 T : Option D), ∃ env', loop (pTup (pCons (pName 4) (pCons (pName 5) (pCons (pName 6) (pCons (pName 7) pNil))))) (sIf (bAnd (bVal (eOp eqD (eVar 4) (eVar 1))) (bVal (eOp leD (eVar 5) (eVar 2)))) (sSet 3 (eTup (aCons (eVar 6) (aCons (eVar 7) aNil)))) sPass) (rs.map Rw.d) [T, some (.int m), some (.int t), some (rateD o), x4, x5, x6, x7] S
        = .ok (.nx env') S ∧ env'[3]? = some (some (rateD (((hit rs m t).getLast?.map fun r => (r.top, r.bot)).or o))) := by
      intro rs
      induction rs with
      | nil => intro o x4 x5 x6 x7 T; exact ⟨_, rfl, by simp [hit]⟩
      | cons r rs ih =>
        intro o x4 x5 x6 x7 T
        have hl : ∀ q : List Rw, (hit (r :: rs) m t) = (if (decide (r.mon = m) && decide (r.day ≤ t)) = true then r :: hit rs m t else hit rs m t) := fun _ => by unfold hit; rw [List.filter_cons]
        rw [List.map_cons, hl []]
        unfold Ro.loop
        by_cases h1 : r.mon = m
        · by_cases h2 : r.day ≤ t
          · obtain ⟨e, e1, e2⟩ := ih (some (r.top, r.bot)) (some (.int r.mon)) (some (.int r.day)) (some (.int r.top)) (some (.int r.bot)) T
            refine ⟨e, ?_, ?_⟩
            · rw [← e1]
              simp [Rw.d, h1, h2, rateD]
            · rw [e2, if_pos (by simp [h1, h2]), List.getLast?_cons]
              cases (hit rs m t).getLast? <;> simp
          · obtain ⟨e, e1, e2⟩ := ih o (some (.int r.mon)) (some (.int r.day)) (some (.int r.top)) (some (.int r.bot)) T
            refine ⟨e, ?_, ?_⟩
            · rw [← e1]
              simp [Rw.d, h1, h2, rateD]
            · rw [e2, if_neg (by simp [h1, h2])]
        · obtain ⟨e, e1, e2⟩ := ih o (some (.int r.mon)) (some (.int r.day)) (some (.int r.top)) (some (.int r.bot)) T
          refine ⟨e, ?_, ?_⟩
          · rw [← e1]
            simp [Rw.d, h1, rateD]
          · rw [e2, if_neg (by simp [h1])]
    obtain ⟨e, e1, e2⟩ := key rs none none none none none (some (.tup (rs.map Rw.d)))
    have e1 : loop (pTup (pCons (pName 4) (pCons (pName 5) (pCons (pName 6) (pCons (pName 7) pNil))))) (sIf (bAnd (bVal (eOp eqD (eVar 4) (eVar 1))) (bVal (eOp leD (eVar 5) (eVar 2)))) (sSet 3 (eTup (aCons (eVar 6) (aCons (eVar 7) aNil)))) sPass) (rs.map Rw.d) [some (.tup (rs.map Rw.d)), some (.int m), some (.int t), some .non, none, none, none, none] S = .ok (.nx e) S := e1
    rw [Option.or_none] at e2
    simp [c, e1, e2]
/-! ### arithmetic of shares -/
theorem sh_near {a h t b : Int} (hb : 0 < b * h) : (if 2 * share a h t b * (b * h) - 2 * a * t < 0 then -(2 * share a h t b * (b * h) - 2 * a * t) else 2 * share a h t b * (b * h) - 2 * a * t) ≤ b * h := by
  unfold share
  generalize hD : b * h = D at *
  generalize hN : 2 * a * t = N
  have h1 := Int.mul_ediv_add_emod (N + D) (2 * D)
  have h2 := Int.emod_nonneg (N + D) (b := 2 * D) (by omega)
  have h3 := Int.emod_lt_of_pos (N + D) (b := 2 * D) (by omega)
  generalize (N + D) / (2 * D) = q at *
  generalize (N + D) % (2 * D) = r at *
  have e : 2 * q * D = 2 * D * q := by rw [Int.mul_comm, Int.mul_comm 2 q, ← Int.mul_assoc, Int.mul_comm D q, Int.mul_comm (2 * D), Int.mul_comm 2 D, ← Int.mul_assoc]
  rw [e]
  split <;> omega
theorem sh_more {a h t b : Int} (hb : 0 < b * h) (ht : 0 ≤ t) : share a h t b ≤ share (a + 1) h t b := by
  unfold share
  refine Int.ediv_le_ediv (by omega) ?_
  have e : 2 * (a + 1) * t = 2 * a * t + 2 * t := by rw [Int.mul_add, Int.add_mul, Int.mul_one]
  omega
theorem sh_heads {a h t b : Int} (hb : 0 < b) (hh : 0 < h) (ht : 0 ≤ t) (ha : 0 ≤ a) : share a (h + 1) t b ≤ share a h t b := by
  unfold share
  have hD : 0 < b * h := Int.mul_pos hb hh
  have e : b * (h + 1) = b * h + b := by rw [Int.mul_add, Int.mul_one]
  rw [e]
  have hN : 0 ≤ 2 * a * t := Int.mul_nonneg (by omega) ht
  generalize b * h = D at *
  generalize 2 * a * t = N at *
  rw [Int.le_ediv_iff_mul_le (by omega)]
  have h1 := Int.ediv_mul_le (N + (D + b)) (b := 2 * (D + b)) (by omega)
  generalize (N + (D + b)) / (2 * (D + b)) = q at *
  have e1 : q * (2 * (D + b)) = (q * 2) * (D + b) := by rw [← Int.mul_assoc]
  have e2 : q * (2 * D) = (q * 2) * D := by rw [← Int.mul_assoc]
  have e3 : (q * 2) * (D + b) = (q * 2) * D + (q * 2) * b := Int.mul_add ..
  rw [e2]
  by_cases c : 1 ≤ q
  · have : b * 1 ≤ (q * 2) * b := by rw [Int.mul_comm]; exact Int.mul_le_mul_of_nonneg_right (by omega) (by omega)
    omega
  · have : (q * 2) * D ≤ 0 * D := Int.mul_le_mul_of_nonneg_right (by omega) (by omega)
    omega
theorem sh_twice {a h t b : Int} (hb : 0 < b * h) : share (2 * a) (2 * h) t b = share a h t b := by
  unfold share
  have e1 : 2 * (2 * a) * t + b * (2 * h) = 2 * (2 * a * t + b * h) := by
    have : b * (2 * h) = 2 * (b * h) := by rw [← Int.mul_assoc, Int.mul_comm b 2, Int.mul_assoc]
    rw [this, Int.mul_assoc 2 (2 * a) t, Int.mul_add]
  have e2 : 2 * (b * (2 * h)) = 2 * (2 * (b * h)) := by
    have : b * (2 * h) = 2 * (b * h) := by rw [← Int.mul_assoc, Int.mul_comm b 2, Int.mul_assoc]
    rw [this]
  rw [e1, e2, Int.mul_ediv_mul_of_pos _ _ (by decide)]
theorem sh_own {a : Int} : share a 1 1 1 = a := by
  unfold share
  omega
/-! ### shares right -/
theorem spent_ok {p : Sp} (hp : p.ok) : m__law_spent [.tup p.ds] S = .ok p.obj (S ++ [.dead]) := by
  unfold m__law_spent b__law_spent
  have hn := new_ok (S := S) (p := p) (n := 3) (kn := 4) (xs := [.str p.kind, .int p.amount]) (zs := [.int p.day, .bl p.paper, .int p.heads, .int p.money]) (pk := [(0, 0), (0, 1), (0, 2), (2, 0), (2, 1), (2, 2), (2, 3)]) (dfs := [.int 0, .bl true, .int 1, .int 0]) hp rfl rfl rfl
  have d0 : ∀ S : Store, idxB (.tup p.ds) (.int 0) S = some (.str p.kind) := fun _ => rfl
  have d1 : ∀ S : Store, idxB (.tup p.ds) (.int 1) S = some (.int p.amount) := fun _ => rfl
  have d2 : ∀ S : Store, idxB (.tup p.ds) (.int 2) S = some (.int p.day) := fun _ => rfl
  have d3 : ∀ S : Store, idxB (.tup p.ds) (.int 3) S = some (.bl p.paper) := fun _ => rfl
  have d4 : ∀ S : Store, idxB (.tup p.ds) (.int 4) S = some (.int p.heads) := fun _ => rfl
  have d5 : ∀ S : Store, idxB (.tup p.ds) (.int 5) S = some (.int p.money) := fun _ => rfl
  simp [-idx_tup, d0, d1, d2, d3, d4, d5, hn]
theorem butm_ok {p p' : Sp} {n kn : Nat} {pk : List (Nat × Nat)} {dfs xs zs : List D} {x1 x2 x3 x4 x5 x6 : D} (hp : p'.ok) (hk : pick pk xs dfs zs = [p.obj, x1, x2, x3, x4, x5, x6]) (h1 : xs.length = n) (h2 : zs.length = kn)
    (h : [pickD x1 (.str p.kind), pickD x2 (.int p.amount), pickD x3 (.int p.day), pickD x4 (.bl p.paper), pickD x5 (.int p.heads), pickD x6 (.int p.money)] = p'.ds) :
    callM m_Spending_but n kn 7 pk dfs xs zs S = .ok p'.obj (S ++ [.dead]) := by
  rw [u_callM, if_pos ⟨h1, h2, by rw [hk]; rfl⟩, hk]
  exact but_ok hp h
end Ro
end

section
set_option Elab.async false
set_option linter.all false
set_option maxRecDepth 100000
set_option maxHeartbeats 4000000
namespace Ro
open PySem
variable {S : Store}
theorem W.sq {s t : ES} {env e : Env} {q : Ctl → Store → Prop} (P : Store → Prop) (h : W (s env S) fun c S1 => c = .nx e ∧ P S1) (k : ∀ S1, P S1 → W (t e S1) q) : W (sSeq s t env S) q := by
  rw [u_sSeq, W_bnd]
  refine h.mono fun c S1 hc => ?_
  obtain ⟨rfl, h2⟩ := hc
  exact k S1 h2
theorem W.guard {s : ES} {c : BX} {env : Env} {q : Ctl → Store → Prop} (h : W (c env S) fun k S1 => k = false ∧ q (.nx env) S1) : W (sIf c s sPass env S) q := by
  rw [u_sIf, W_bnd]
  refine h.mono fun c S1 hc => ?_
  obtain ⟨rfl, h2⟩ := hc
  rw [if_neg Bool.false_ne_true, u_sPass, W_ok]
  exact h2
theorem W.gd {s t : ES} {c : BX} {env : Env} {q : Ctl → Store → Prop} (P : Store → Prop) (h : W (c env S) fun k S1 => k = false ∧ P S1) (k : ∀ S1, P S1 → W (t env S1) q) : W (sSeq (sIf c s sPass) t env S) q :=
  W.sq (e := env) P (W.guard (h.mono fun _ _ h => ⟨h.1, rfl, h.2⟩)) k
theorem W.sk {s t : ES} {env : Env} {q : Ctl → Store → Prop} (P : Store → Prop) (h : W (s env S) fun c S1 => c = .nx env ∧ P S1) (k : ∀ S1, P S1 → W (t env S1) q) : W (sSeq s t env S) q := W.sq P h k
/-- grown by what is not looked at -/
def Gr (S S' : Store) : Prop := ∃ l, S' = S ++ l
theorem Gr.refl : Gr S S := ⟨[], by simp⟩
theorem Gr.app {l : Store} : Gr S (S ++ l) := ⟨l, rfl⟩
theorem Gr.trans {S1 S2 : Store} (h : Gr S S1) (k : Gr S1 S2) : Gr S S2 := by
  obtain ⟨l, rfl⟩ := h
  obtain ⟨m, rfl⟩ := k
  exact ⟨l ++ m, by simp⟩
theorem Gr.fr {b : Nat} {S1 : Store} (h : Gr S S1) (hb : Bx S b) : Fr b S S1 := by
  obtain ⟨l, rfl⟩ := h
  exact Fr.app hb l
theorem sharesr_ok {b : Nat} {rs : List Rw} {p : Sp} {x y : Int} (hT : TbOk rs) (hp : p.ok) (h : rateOf rs p.money p.day = some (x, y)) : W (m__law_shares_right [.ref b, .tup p.ds, tabD rs] S) fun d S' => d = .bl true ∧ Gr S S' := by
  obtain ⟨r1, r2, r3, r4⟩ := rate_bd hT h
  have hp0 := hp
  obtain ⟨k, ⟨a1, a2⟩, ⟨d1, d2⟩, ⟨e1, e2⟩, m1, m2⟩ := hp
  have hD : 0 < y * p.heads := Int.mul_pos (by omega) (by omega)
  have hs : ∀ S, m_share_of [p.obj, tabD rs] S = .ok (.int (share p.amount p.heads x y)) S := fun S => shareof_ok hT hp0 h
  have hr : ∀ S, m_rate_on [tabD rs, .int p.money, .int p.day] S = .ok (.tup [.int x, .int y]) S := fun S => rateon_ok hT h
  obtain ⟨u1, u2⟩ := mulBd (x := y) (y := p.heads) (A := 1000000) (B := 6) (by omega) r4 (by omega) e2
  obtain ⟨v1, v2⟩ := mulBd (x := 2 * p.amount) (y := x) (A := 2000000) (B := 1000000) (by omega) (by omega) (by omega) r2
  have near := sh_near (a := p.amount) (h := p.heads) (t := x) (b := y) hD
  have q0 : 0 ≤ share p.amount p.heads x y := by
    unfold share
    exact Int.ediv_nonneg (by omega) (by omega)
  have q1 : share p.amount p.heads x y < 2 ^ 45 := by
    unfold share
    have := Int.ediv_le_self (2 * (y * p.heads)) (a := 2 * p.amount * x + y * p.heads) (by omega)
    omega
  have z0 : ∀ S : Store, idxB (.tup p.ds) (.int 0) S = some (.str p.kind) := fun _ => rfl
  have z1 : ∀ S : Store, idxB (.tup p.ds) (.int 1) S = some (.int p.amount) := fun _ => rfl
  have z2 : ∀ S : Store, idxB (.tup p.ds) (.int 2) S = some (.int p.day) := fun _ => rfl
  have z3 : ∀ S : Store, idxB (.tup p.ds) (.int 3) S = some (.bl p.paper) := fun _ => rfl
  have z4 : ∀ S : Store, idxB (.tup p.ds) (.int 4) S = some (.int p.heads) := fun _ => rfl
  have z5 : ∀ S : Store, idxB (.tup p.ds) (.int 5) S = some (.int p.money) := fun _ => rfl
  have hi : ∀ S, isInst cf "Spending" "but" p.obj S = true := fun _ => rfl
  have f1 : mulOk y p.heads = true := mulOk_lt (n := 21) (m := 4) (by omega) (by omega) (by decide)
  have f2 : mulOk 2 p.amount = true := mulOk_lt (n := 2) (m := 21) (by decide) (by omega) (by decide)
  have f3 : mulOk (2 * p.amount) x = true := mulOk_lt (n := 22) (m := 21) (by omega) (by omega) (by decide)
  have f4 : mulOk 2 (share p.amount p.heads x y) = true := mulOk_lt (n := 2) (m := 46) (by decide) (by omega) (by decide)
  have f5 : mulOk (2 * share p.amount p.heads x y) (y * p.heads) = true := mulOk_lt (n := 48) (m := 24) (by omega) (by omega) (by decide)
  have f6 : mulOk 2 p.heads = true := mulOk_lt (n := 2) (m := 21) (by decide) (by omega) (by decide)
  have but := @but_ok
  unfold m__law_shares_right b__law_shares_right
  rw [u_fnM, W_bnd]
  have nd : ∀ z : Int, mulOk 5 100000 = true := fun _ => mulOk_lt (n := 3) (m := 17) (by decide) (by decide) (by decide)
  refine W.sq (fun S1 => Gr S S1) (by simp [-idx_tup, spent_ok hp0]; exact ⟨rfl, Gr.app⟩) fun S1 g1 => ?_
  refine W.sq (fun S1 => Gr S S1) (by simp [-idx_tup, hs]; exact ⟨rfl, g1⟩) fun S1 g1 => ?_
  refine W.sq (fun S1 => Gr S S1) (by simp [-idx_tup, z5, z2, hr]; exact ⟨rfl, g1⟩) fun S1 g1 => ?_
  refine W.sq (fun S1 => Gr S S1) (by simp [-idx_tup, z4, f1]; exact ⟨rfl, g1⟩) fun S1 g1 => ?_
  refine W.gd (fun S1 => Gr S S1) (by simp [-idx_tup, z1, f1, f2, f3, f4, f5, bAbs]; exact ⟨near, g1⟩) fun S1 g1 => ?_
  refine W.gd (fun S1 => Gr S S1) ?_ fun S1 g1 => ?_
  · by_cases c : p.amount < 1000000
    · have p2 : ({ p with amount := p.amount + 1 } : Sp).ok := ⟨k, by simp; omega, ⟨d1, d2⟩, ⟨e1, e2⟩, m1, m2⟩
      have b1 : ∀ S, m_Spending_but [p.obj, .non, .int (p.amount + 1), .non, .non, .non, .non] S = .ok ({ p with amount := p.amount + 1 } : Sp).obj (S ++ [.dead]) := fun S => but_ok p2 rfl
      have b2 : ∀ S, m_share_of [({ p with amount := p.amount + 1 } : Sp).obj, tabD rs] S = .ok (.int (share (p.amount + 1) p.heads x y)) S := fun S => shareof_ok hT p2 h
      have q := sh_more (a := p.amount) (h := p.heads) (t := x) (b := y) hD (by omega)
      simp [-idx_tup, z1, c, hi, b1, b2]
      exact ⟨q, g1.trans Gr.app⟩
    · simp [-idx_tup, z1, c]
      exact g1
  refine W.gd (fun S1 => Gr S S1) ?_ fun S1 g1 => ?_
  · by_cases c : p.heads < 6
    · have p2 : ({ p with heads := p.heads + 1 } : Sp).ok := ⟨k, ⟨a1, a2⟩, ⟨d1, d2⟩, by simp; omega, m1, m2⟩
      have b1 : ∀ S, m_Spending_but [p.obj, .non, .non, .non, .non, .int (p.heads + 1), .non] S = .ok ({ p with heads := p.heads + 1 } : Sp).obj (S ++ [.dead]) := fun S => but_ok p2 rfl
      have b2 : ∀ S, m_share_of [({ p with heads := p.heads + 1 } : Sp).obj, tabD rs] S = .ok (.int (share p.amount (p.heads + 1) x y)) S := fun S => shareof_ok hT p2 h
      have q := sh_heads (a := p.amount) (h := p.heads) (t := x) (b := y) (by omega) (by omega) (by omega) (by omega)
      simp [-idx_tup, z4, c, hi, b1, b2]
      exact ⟨q, g1.trans Gr.app⟩
    · simp [-idx_tup, z4, c]
      exact g1
  refine W.sk (fun S1 => Gr S S1) ?_ fun S1 g1 => ?_
  · by_cases c : p.heads < 4
    · by_cases c2 : p.amount ≤ 500000
      · have p2 : ({ p with amount := 2 * p.amount, heads := 2 * p.heads } : Sp).ok := ⟨k, by simp; omega, ⟨d1, d2⟩, by simp; omega, m1, m2⟩
        have b1 : ∀ S, m_Spending_but [p.obj, .non, .int (2 * p.amount), .non, .non, .int (2 * p.heads), .non] S = .ok ({ p with amount := 2 * p.amount, heads := 2 * p.heads } : Sp).obj (S ++ [.dead]) := fun S => but_ok p2 rfl
        have b2 : ∀ S, m_share_of [({ p with amount := 2 * p.amount, heads := 2 * p.heads } : Sp).obj, tabD rs] S = .ok (.int (share (2 * p.amount) (2 * p.heads) x y)) S := fun S => shareof_ok hT p2 h
        have q := sh_twice (a := p.amount) (h := p.heads) (t := x) (b := y) hD
        simp [-idx_tup, z4, z1, c, c2, hi, b1, b2, q, f2, f6, nd 0]
        exact g1.trans Gr.app
      · simp [-idx_tup, z4, z1, c, c2, nd 0]
        exact g1
    · simp [-idx_tup, z4, c]
      exact g1
  refine W.gd (fun S1 => Gr S S1) ?_ fun S1 g1 => ?_
  · have p2 : ({ p with money := 0, heads := 1 } : Sp).ok := ⟨k, ⟨a1, a2⟩, ⟨d1, d2⟩, by simp, by simp, by simp⟩
    have b1 : ∀ S, m_Spending_but [p.obj, .non, .non, .non, .non, .int 1, .int 0] S = .ok ({ p with money := 0, heads := 1 } : Sp).obj (S ++ [.dead]) := fun S => but_ok p2 rfl
    have b2 : ∀ S, m_share_of [({ p with money := 0, heads := 1 } : Sp).obj, tabD rs] S = .ok (.int (share p.amount 1 1 1)) S := fun S => shareof_ok hT p2 rfl
    have q := sh_own (a := p.amount)
    simp [-idx_tup, z1, hi, b1, b2, q]
    exact g1.trans Gr.app
  have p2 : ({ p with paper := !p.paper } : Sp).ok := ⟨k, ⟨a1, a2⟩, ⟨d1, d2⟩, ⟨e1, e2⟩, m1, m2⟩
  have b1 : ∀ S, m_Spending_but [p.obj, .non, .non, .non, .bl (!p.paper), .non, .non] S = .ok ({ p with paper := !p.paper } : Sp).obj (S ++ [.dead]) := fun S => but_ok p2 rfl
  have b2 : ∀ S, m_share_of [({ p with paper := !p.paper } : Sp).obj, tabD rs] S = .ok (.int (share p.amount p.heads x y)) S := fun S => shareof_ok hT p2 h
  simp [-idx_tup, z3, hi, b1, b2]
  exact g1.trans Gr.app
end Ro
end

section
set_option Elab.async false
set_option linter.all false
set_option maxRecDepth 100000
set_option maxHeartbeats 4000000
namespace Ro
open PySem
variable {S : Store}
/-! ### a row more -/
theorem lexR_iff {a b : Rw} (ha : a.ok) (hb : b.ok) : lexR a b = true ↔ a.mon < b.mon ∨ (a.mon = b.mon ∧ a.day < b.day) := by
  unfold lexR
  rw [HT.lexLt_cons]
  by_cases e : a.mon = b.mon
  · rw [if_pos e, HT.lexLt_cons]
    by_cases e2 : a.day = b.day
    · rw [if_pos e2, HT.lexLt_nil_nil]
      simp
      omega
    · rw [if_neg e2]
      simp
      omega
  · rw [if_neg e]
    simp
    omega
theorem hit_asc {rs : List Rw} (hT : TbOk rs) (m t : Int) : (hit rs m t).Pairwise fun a b => a.day < b.day := by
  have h := hT.asc.filter (fun r => decide (r.mon = m) && decide (r.day ≤ t))
  refine List.Pairwise.imp_of_mem (fun {a b} ha hb h => ?_) h
  obtain ⟨a1, a2⟩ := List.mem_filter.mp ha
  obtain ⟨b1, b2⟩ := List.mem_filter.mp hb
  simp at a2 b2
  rcases (lexR_iff (hT.ok a a1) (hT.ok b b1)).mp h with z | z <;> omega
theorem last_max {rs : List Rw} (hT : TbOk rs) {m t : Int} {r : Rw} (h1 : r ∈ hit rs m t) (h2 : ∀ q ∈ hit rs m t, q.day ≤ r.day) : (hit rs m t).getLast? = some r := by
  have h := hit_asc hT m t
  generalize hit rs m t = L at *
  induction L with
  | nil => simp at h1
  | cons a L ih =>
    rw [List.pairwise_cons] at h
    cases L with
    | nil => simp at h1; simp [h1]
    | cons b L =>
      rw [List.getLast?_cons_cons]
      have hr : r ∈ b :: L := by
        rcases List.mem_cons.mp h1 with e | e
        · subst e
          have := h.1 b (by simp)
          have := h2 b (by simp)
          omega
        · exact e
      exact ih hr (fun q hq => h2 q (by simp [hq])) h.2
theorem last_is {rs : List Rw} (hT : TbOk rs) {m t : Int} {r : Rw} (h : (hit rs m t).getLast? = some r) : r ∈ hit rs m t ∧ ∀ q ∈ hit rs m t, q.day ≤ r.day := by
  refine ⟨List.mem_of_getLast? h, ?_⟩
  have h3 := hit_asc hT m t
  generalize hit rs m t = L at *
  induction L with
  | nil => simp at h
  | cons a L ih =>
    rw [List.pairwise_cons] at h3
    cases L with
    | nil =>
      simp at h
      subst h
      simp
    | cons b L =>
      rw [List.getLast?_cons_cons] at h
      have z := ih h h3.2
      intro q hq
      rcases List.mem_cons.mp hq with e | e
      · subst e
        have := h3.1 r (List.mem_of_getLast? h)
        omega
      · exact z q e
theorem mem_hit {rs : List Rw} {m t : Int} {r : Rw} : r ∈ hit rs m t ↔ r ∈ rs ∧ r.mon = m ∧ r.day ≤ t := by
  unfold hit
  simp
/-- rs2 is rs with the row r0 more -/
structure More (rs : List Rw) (r0 : Rw) (rs2 : List Rw) : Prop where
  ok : TbOk rs2
  mem : ∀ r, r ∈ rs2 ↔ r ∈ rs ∨ r = r0
theorem more_rate {rs rs2 : List Rw} {r0 : Rw} (hT : TbOk rs) (h : More rs r0 rs2) (hm : r0.mon ≠ 0) {t u : Int} (hu : ∀ r ∈ rs, r.mon = r0.mon → r0.day < r.day → u ≤ r.day) (h1 : r0.day ≤ t) (h2 : t < u) : rateOf rs2 r0.mon t = some (r0.top, r0.bot) := by
  have z : (hit rs2 r0.mon t).getLast? = some r0 := by
    refine last_max h.ok (mem_hit.mpr ⟨(h.mem _).mpr (.inr rfl), rfl, h1⟩) fun q hq => ?_
    obtain ⟨q1, q2, q3⟩ := mem_hit.mp hq
    rcases (h.mem q).mp q1 with e | e
    · by_cases c : q.day ≤ r0.day
      · exact c
      · have := hu q e q2 (by omega)
        omega
    · subst e; omega
  unfold rateOf
  rw [if_neg hm, z]
  rfl
theorem more_same {rs rs2 : List Rw} {r0 : Rw} (hT : TbOk rs) (h : More rs r0 rs2) (hm : r0.mon ≠ 0) {t : Int} {r : Rw} (hr : (hit rs r0.mon t).getLast? = some r) (hu : t < r0.day ∨ r0.day ≤ r.day) : rateOf rs2 r0.mon t = some (r.top, r.bot) ∧ rateOf rs r0.mon t = some (r.top, r.bot) := by
  obtain ⟨k1, k2⟩ := last_is hT hr
  obtain ⟨k3, k4, k5⟩ := mem_hit.mp k1
  have z : (hit rs2 r0.mon t).getLast? = some r := by
    refine last_max h.ok (mem_hit.mpr ⟨(h.mem _).mpr (.inl k3), k4, k5⟩) fun q hq => ?_
    obtain ⟨q1, q2, q3⟩ := mem_hit.mp hq
    rcases (h.mem q).mp q1 with e | e
    · exact k2 q (mem_hit.mpr ⟨e, q2, q3⟩)
    · subst e; omega
  unfold rateOf
  rw [if_neg hm, if_neg hm, z, hr]
  exact ⟨rfl, rfl⟩
theorem asc_inj {rs : List Rw} (hT : TbOk rs) {A B : Rw} (ha : A ∈ rs) (hb : B ∈ rs) (h1 : A.mon = B.mon) (h2 : A.day = B.day) : A = B := by
  obtain ⟨i, hi, rfl⟩ := List.mem_iff_getElem.mp ha
  obtain ⟨j, hj, rfl⟩ := List.mem_iff_getElem.mp hb
  have h := List.pairwise_iff_getElem.mp hT.asc
  rcases Nat.lt_trichotomy i j with z | z | z
  · rcases (lexR_iff (hT.ok _ ha) (hT.ok _ hb)).mp (h i j hi hj z) with q | q <;> omega
  · subst z; rfl
  · rcases (lexR_iff (hT.ok _ hb) (hT.ok _ ha)).mp (h j i hj hi z) with q | q <;> omega
def Rw.ks (r : Rw) : List Int := [r.mon, r.day, r.top, r.bot]
def ofKs : List Int → Rw
  | [a, b, c, d] => ⟨a, b, c, d⟩
  | _ => ⟨0, 0, 0, 0⟩
theorem ofKs_ks (r : Rw) : ofKs r.ks = r := rfl
theorem code4 (a b c d : Int) : TS.code codB [a, b, c, d] = a * codB ^ 3 + (b * codB ^ 2 + (c * codB + d)) := by
  have e : codB ^ 1 = codB := by decide +kernel
  simp [TS.code, e]
theorem srt_more {rs : List Rw} {r0 : Rw} (hT : TbOk rs) (hr : r0.ok) (hn : rs.length < 12) (hne : ∀ r ∈ rs, ¬ (r.mon = r0.mon ∧ r.day = r0.day)) : ∃ rs2, More rs r0 rs2 ∧ eSorted (aCons (eC (.tup (rs.map Rw.d ++ [r0.d]))) aNil) [] S = .ok (.lst (rs2.map Rw.d)) S := by
  have e1 : ∀ rs : List Rw, rs.map Rw.d = (rs.map Rw.ks).map tupD := fun rs => by
    rw [List.map_map]
    rfl
  have e2 : rs.map Rw.d ++ [r0.d] = ((rs ++ [r0]).map Rw.ks).map tupD := by
    rw [← e1, List.map_append]
    rfl
  have hok : ∀ r ∈ rs ++ [r0], r.ok := fun r h => by
    rcases List.mem_append.mp h with h | h
    · exact hT.ok r h
    · simp at h; subst h; exact hr
  have hbd : ∀ k ∈ (rs ++ [r0]).map Rw.ks, k.length = 4 ∧ TS.Bd codB k := fun k hk => by
    obtain ⟨r, h1, rfl⟩ := List.mem_map.mp hk
    obtain ⟨⟨x1, x2⟩, ⟨x3, x4⟩, ⟨x5, x6⟩, x7, x8⟩ := hok r h1
    refine ⟨rfl, fun m hm => ?_⟩
    unfold codB
    unfold Rw.ks at hm
    simp at hm
    rcases hm with rfl | rfl | rfl | rfl <;> omega
  generalize hK : (rs ++ [r0]).map Rw.ks = K at *
  have hKl : K.length ≤ 12 := by rw [← hK]; simp; omega
  have hso : sortOk K = true := by
    unfold sortOk
    have e1 : decide (K.length < 64) = true := by simp; omega
    rw [e1, Bool.true_and]
    split
    · rfl
    · rename_i n r
      have hn2 : n.length = 4 := (hbd n (by simp)).1
      rw [hn2]
      simp only [Bool.and_eq_true, decide_eq_true_eq, List.all_eq_true]
      refine ⟨by omega, fun k hk' => ?_⟩
      obtain ⟨k1, k2⟩ := hbd k hk'
      unfold tupOk
      simp only [Bool.and_eq_true, decide_eq_true_eq, List.all_eq_true]
      exact ⟨k1, fun z hz => k2 z hz⟩
  have hmem : ∀ k, k ∈ srtT K ↔ k ∈ K := fun k => (srtT_perm K).mem_iff
  have hKs : ∀ k ∈ K, (ofKs k).ks = k := fun k hk => by
    rw [← hK] at hk
    obtain ⟨r, _, rfl⟩ := List.mem_map.mp hk
    rfl
  have hKr : ∀ r, r ∈ rs ++ [r0] ↔ r.ks ∈ K := fun r => by
    rw [← hK]
    constructor
    · exact fun h => List.mem_map.mpr ⟨r, h, rfl⟩
    · intro h
      obtain ⟨q, h1, h2⟩ := List.mem_map.mp h
      have : q = r := by rw [← ofKs_ks q, h2, ofKs_ks]
      rw [← this]
      exact h1
  have hback : ((srtT K).map ofKs).map Rw.d = (srtT K).map tupD := by
    rw [List.map_map]
    refine List.map_congr_left fun k hk => ?_
    show tupD (ofKs k).ks = tupD k
    rw [hKs k ((hmem k).mp hk)]
  have hmem2 : ∀ r, r ∈ (srtT K).map ofKs ↔ r ∈ rs ∨ r = r0 := fun r => by
    have : r ∈ rs ∨ r = r0 ↔ r ∈ rs ++ [r0] := by simp
    rw [this, hKr]
    constructor
    · intro h
      obtain ⟨k, h1, rfl⟩ := List.mem_map.mp h
      rw [hKs k ((hmem k).mp h1)]
      exact (hmem k).mp h1
    · exact fun h => List.mem_map.mpr ⟨r.ks, (hmem _).mpr h, ofKs_ks r⟩
  have hasc := srt_asc (ks := K) (n := 4) (by
    rw [← hK]
    show (List.map Rw.ks (rs ++ [r0])).Pairwise (· ≠ ·)
    rw [List.pairwise_map]
    refine List.Pairwise.imp (R := (· ≠ ·)) (fun {a b} h (e : a.ks = b.ks) => h (by rw [← ofKs_ks a, e, ofKs_ks])) ?_
    show (rs ++ [r0]).Nodup
    · rw [List.nodup_append]
      refine ⟨?_, by simp, fun a ha b hb => ?_⟩
      · refine List.Pairwise.imp_of_mem (fun {a b} ha hb h => ?_) hT.asc
        intro e
        subst e
        rcases (lexR_iff (hT.ok a ha) (hT.ok a ha)).mp h with z | z <;> omega
      · simp at hb
        subst hb
        intro e
        subst e
        exact hne a ha ⟨rfl, rfl⟩) (fun k hk => (hbd k hk).2) (fun k hk => (hbd k hk).1)
  refine ⟨(srtT K).map ofKs, ⟨⟨?_, fun r h => ?_, ?_⟩, hmem2⟩, ?_⟩
  · rw [List.length_map, (srtT_perm K).length_eq]
    exact hKl
  · exact hok r (by have := (hmem2 r).mp h; simpa using this)
  · rw [List.pairwise_map]
    refine List.Pairwise.imp_of_mem (fun {a c} h1 h2 h => ?_) hasc
    have u1 := hKs a ((hmem a).mp h1)
    have u2 := hKs c ((hmem c).mp h2)
    have v1 := hok (ofKs a) (by rw [hKr, u1]; exact (hmem a).mp h1)
    have v2 := hok (ofKs c) (by rw [hKr, u2]; exact (hmem c).mp h2)
    rw [← u1, ← u2] at h
    have w1 : ofKs a ∈ rs ++ [r0] := by rw [hKr, u1]; exact (hmem a).mp h1
    have w2 : ofKs c ∈ rs ++ [r0] := by rw [hKr, u2]; exact (hmem c).mp h2
    generalize ofKs a = A at *
    generalize ofKs c = B at *
    rw [lexR_iff v1 v2]
    have h : TS.code codB [A.mon, A.day, A.top, A.bot] < TS.code codB [B.mon, B.day, B.top, B.bot] := h
    rw [code4, code4] at h
    obtain ⟨⟨x1, x2⟩, ⟨x3, x4⟩, ⟨x5, x6⟩, x7, x8⟩ := v1
    obtain ⟨⟨y1, y2⟩, ⟨y3, y4⟩, ⟨y5, y6⟩, y7, y8⟩ := v2
    have c3 : codB ^ 3 = 79228162514264337593543950336 := by decide +kernel
    have c2 : codB ^ 2 = 18446744073709551616 := by decide +kernel
    have c1 : codB = 4294967296 := rfl
    rw [c3, c2, c1] at h
    by_cases q : A.mon = B.mon ∧ A.day = B.day
    · exfalso
      have key : A = B := by
        have w1' : A ∈ rs ∨ A = r0 := by simpa using w1
        have w2' : B ∈ rs ∨ B = r0 := by simpa using w2
        rcases w1' with w1' | w1' <;> rcases w2' with w2' | w2'
        · exact asc_inj hT w1' w2' q.1 q.2
        · subst w2'
          exact absurd q (hne A w1')
        · subst w1'
          exact absurd ⟨q.1.symm, q.2.symm⟩ (hne B w2')
        · rw [w1', w2']
      subst key
      omega
    · omega
  · rw [hback, e2]
    simp only [u_eSorted, u_aCons, u_eC, u_aNil, bnd_ok]
    have : bSorted [.tup (K.map tupD)] = bSortL K := by
      show (dTups (K.map tupD)).bind bSortL = bSortL K
      have : dTups (K.map tupD) = some K := by
        clear hso hmem hKs hKr hback hmem2 hasc e2 hK hbd hKl
        induction K with
        | nil => rfl
        | cons k K ih =>
          show (dInts (k.map D.int)).bind (fun ns => (dTups (K.map tupD)).map (ns :: ·)) = _
          rw [dInts_map, ih]
          rfl
      rw [this]
      rfl
    show lift (bSorted [.tup (K.map tupD)]) S = _
    rw [this, bSortL, if_pos hso]
    rfl
end Ro
end

section
set_option Elab.async false
set_option linter.all false
set_option maxRecDepth 100000
set_option maxHeartbeats 4000000
namespace Ro
open PySem
variable {S : Store}
theorem step_get {lo c : Int} {n i : Nat} {d : D} (h : ((List.range n).map fun k : Nat => D.int (lo + (k : Int) * c))[i]? = some d) : i < n ∧ d = .int (lo + (i : Int) * c) := by
  rw [List.getElem?_map] at h
  cases z : (List.range n)[i]? with
  | none => rw [z] at h; cases h
  | some j =>
    rw [z] at h
    cases h
    obtain ⟨h1, h2⟩ := List.getElem?_eq_some_iff.mp z
    simp at h1 h2
    subst h2
    exact ⟨h1, rfl⟩
@[simp] theorem u_itR3 (fa : AX) (env : Env) : itR3 fa env S = (fa env S).bnd fun ds S1 => match ds with
  | [.int i, .int j, .int c] => if c ≠ 0 ∧ c.natAbs < 1073741824 ∧ Builtin.Range.small i j c = true ∧ 0 ≤ Builtin.Range.rangeSize i j c then .ok ((List.range (Builtin.Range.rangeSize i j c).toNat).map fun k : Nat => D.int (i + (k : Int) * c)) S1 else .bad
  | _ => .bad := rfl
theorem minL_is {l : List Int} {m : Int} (h : minL l = some m) : m ∈ l ∧ ∀ y ∈ l, m ≤ y := by
  cases l with
  | nil => cases h
  | cons x l =>
    have h : l.foldl min x = m := by simpa [minL] using h
    subst h
    clear h
    induction l generalizing x with
    | nil => simp
    | cons a l ih =>
      obtain ⟨i1, i2⟩ := ih (min x a)
      rw [List.foldl_cons]
      refine ⟨?_, fun y hy => ?_⟩
      · rcases List.mem_cons.mp i1 with e | e
        · rw [e]
          rcases Int.le_total x a with z | z
          · rw [Int.min_eq_left z]; simp
          · rw [Int.min_eq_right z]; simp
        · simp [e]
      · have h0 := i2 (min x a) (by simp)
        rcases List.mem_cons.mp hy with e | e
        · subst e; omega
        · rcases List.mem_cons.mp e with e | e
          · subst e; omega
          · exact i2 y (List.mem_cons_of_mem _ e)
def endsOf (rs : List Rw) (m t : Int) : List Int := (rs.filter fun r => decide (r.mon = m) && decide (t < r.day)).map (·.day)
def endB (m t : Int) : D → Bool
  | .tup [.int a, .int b, _, _] => decide (a = m) && decide (t < b)
  | _ => false
theorem dInts_app (ns : List Int) (z : Int) : dInts (ns.map D.int ++ [.int z]) = some (ns ++ [z]) := by
  have := dInts_map (ns ++ [z])
  rw [List.map_append] at this
  exact this
theorem eqD_emp {rs : List Rw} : eqD (.lst (rs.map Rw.d)) (.lst []) = some (.bl rs.isEmpty) := by
  have hp : (rs.map Rw.d).all (plN 7) = true := by
    rw [List.all_eq_true]
    intro x hx
    obtain ⟨r, _, rfl⟩ := List.mem_map.mp hx
    simp [Rw.d]
  rw [rw_inj _ hp]
  cases rs <;> rfl
theorem neD_emp {rs : List Rw} : neD (.lst (rs.map Rw.d)) (.lst []) = some (.bl (!rs.isEmpty)) := by
  have hp : (rs.map Rw.d).all (plN 7) = true := by
    rw [List.all_eq_true]
    intro x hx
    obtain ⟨r, _, rfl⟩ := List.mem_map.mp hx
    simp [Rw.d]
  have := rw_inj _ hp
  unfold eqD at this
  unfold neD
  split at this
  · rename_i h
    rw [if_pos h]
    have : pyEq (.lst (rs.map Rw.d)) (.lst []) = (rs.map Rw.d).isEmpty := by injection this with h; injection h
    rw [this]
    cases rs <;> rfl
  · cases this
theorem neD_tt (a b c d : Int) : neD (.tup [.int a, .int b]) (.tup [.int c, .int d]) = some (.bl (!(decide (a = c) && decide (b = d)))) := by
  simp [neD]
theorem eqD_tt (a b c d : Int) : eqD (.tup [.int a, .int b]) (.tup [.int c, .int d]) = some (.bl (decide (a = c) && decide (b = d))) := by
  simp [eqD]
theorem rx0 (r : Rw) : idxB r.d (.int 0) S = some (.int r.mon) := rfl
theorem rx1 (r : Rw) : idxB r.d (.int 1) S = some (.int r.day) := rfl
theorem later_ok {b : Nat} {rs : List Rw} {p : Sp} (hB : Bx S b) (hT : TbOk rs) (hp : p.ok) : W (m__law_later_right [.ref b, .tup p.ds, tabD rs] S) fun d S' => d = .bl true ∧ Fr b S S' := by
  obtain ⟨k, ⟨a1, a2⟩, ⟨d1, d2⟩, ⟨e1, e2⟩, m1, m2⟩ := hp
  have z5 : ∀ S : Store, idxB (.tup p.ds) (.int 5) S = some (.int p.money) := fun _ => rfl
  have hlen := hT.len
  unfold m__law_later_right
  rw [x__law_later_right]
  by_cases c1 : p.money = 0
  · simp [-idx_tup, z5, c1]
    exact Fr.refl hB
  by_cases c2 : (rs.length : Int) = 12
  · simp [-idx_tup, z5, c1, bLenA, bLen, lenD, tabD, c2]
    exact Fr.refl hB
  have c2' : rs.length < 12 := by omega
  simp [-idx_tup, z5, c1, bLenA, bLen, lenD, tabD, c2, t__law_later_right_3]
  refine (take_fr hB (by decide)).mono ?_
  rintro _ S1 ⟨⟨t, rfl, t1, t2⟩, f1⟩
  show W (t__law_later_right_4 _ _) _
  -- one that is there
  have l1 : ∀ (x4 x5 x6 x7 x8 x9 x10 : Option D), lcLoop (pName 10) (bVal (eOp eqD (eCut (eVar 10) oNone (oSome (eC (.int 2)))) (eTup (aCons (eIdxB (eVar 1) (eC (.int 5))) (aCons (eVar 3) aNil))))) (eVar 10) (wipeE [some (.ref b), some (.tup p.ds), some (tabD rs), some (.int t), x4, x5, x6, x7, x8, x9, x10] [10]) (rs.map Rw.d) [] S1
      = .ok ((rs.filter fun r => decide (r.mon = p.money) && decide (r.day = t)).map Rw.d) S1 := by
    intro x4 x5 x6 x7 x8 x9 x10
    refine (lc_pure (p := fun d => match d with | .tup [.int a, .int b, _, _] => decide (a = p.money) && decide (b = t) | _ => false) (g := id) (by simp; omega) fun x hx => ?_).trans ?_
    · obtain ⟨r, hr, rfl⟩ := List.mem_map.mp hx
      refine ⟨_, rfl, ?_, fun _ => ?_⟩
      · simp [-idx_tup, wipeE, cut_row, z5, eqD_tt]
        simp [Rw.d]
      · simp [wipeE]
    · rw [List.map_id, List.filter_map]
      rfl
  unfold t__law_later_right_4
  by_cases c3 : (rs.filter fun r => decide (r.mon = p.money) && decide (r.day = t)).isEmpty = false
  · have q := neD_emp (rs := rs.filter fun r => decide (r.mon = p.money) && decide (r.day = t))
    rw [c3] at q
    generalize (rs.filter fun r => decide (r.mon = p.money) && decide (r.day = t)).map Rw.d = L at q l1
    simp [tabD] at l1 ⊢
    simp [l1, q]
    exact f1
  have c3 : (rs.filter fun r => decide (r.mon = p.money) && decide (r.day = t)).isEmpty = true := by simpa using c3
  have q3 := neD_emp (rs := rs.filter fun r => decide (r.mon = p.money) && decide (r.day = t))
  rw [c3] at q3
  have hne : ∀ r ∈ rs, ¬ (r.mon = p.money ∧ r.day = t) := fun r hr h => by
    have : r ∈ rs.filter fun r => decide (r.mon = p.money) && decide (r.day = t) := List.mem_filter.mpr ⟨hr, by simp [h]⟩
    rw [List.isEmpty_iff.mp c3] at this
    cases this
  generalize (rs.filter fun r => decide (r.mon = p.money) && decide (r.day = t)).map Rw.d = L at q3 l1
  have l1' := l1 none none none none none none none
  simp [tabD] at l1'
  simp [tabD, l1', q3]
  -- the turned table
  obtain ⟨rs2, hM, hs⟩ := srt_more (S := S1) (r0 := ⟨p.money, t, 7, 3⟩) hT ⟨by simp; omega, by simp; omega, by simp, by simp⟩ c2' hne
  simp at hs
  have had : addD (.tup (rs.map Rw.d)) (.tup [.tup [.int p.money, .int t, .int 7, .int 3]]) = some (.tup (rs.map Rw.d ++ [Rw.d ⟨p.money, t, 7, 3⟩])) := by
    show (if (rs.map Rw.d).length + 1 ≤ LINE then _ else none) = _
    rw [if_pos (by simp; omega)]
    rfl
  unfold t__law_later_right_6
  simp [-idx_tup, z5, had, hs, bTuple]
  -- the days behind
  have l2 : ∀ (x4 x5 x6 x7 x8 x9 x10 : Option D), lcLoop (pName 10) (bAnd (bVal (eOp eqD (eIdxB (eVar 10) (eC (.int 0))) (eIdxB (eVar 1) (eC (.int 5))))) (bVal (eOp gtD (eIdxB (eVar 10) (eC (.int 1))) (eVar 3)))) (eIdxB (eVar 10) (eC (.int 1))) (wipeE [some (.ref b), some (.tup p.ds), some (tabD rs), some (.int t), x4, x5, x6, x7, x8, x9, x10] [10]) (rs.map Rw.d) [] S1
      = .ok ((endsOf rs p.money t).map D.int) S1 := by
    intro x4 x5 x6 x7 x8 x9 x10
    refine (lc_pure (p := endB p.money t) (g := fun d => match d with | .tup [_, b, _, _] => b | _ => .non) (by simp; omega) fun x hx => ?_).trans ?_
    · obtain ⟨r, hr, rfl⟩ := List.mem_map.mp hx
      refine ⟨_, rfl, ?_, fun _ => ?_⟩
      · by_cases c : r.mon = p.money <;> simp [-idx_tup, wipeE, z5, rx0, rx1, c] <;> simp [Rw.d, endB, c]
      · simp [-idx_tup, wipeE, rx1]
        simp [Rw.d]
    · rw [List.filter_map]
      unfold endsOf
      simp [Function.comp_def, Rw.d, endB]
  unfold t__law_later_right_7
  have l2' := l2 (some (.tup (rs2.map Rw.d))) none none none none none none
  simp [tabD] at l2'
  simp [l2']
  unfold t__law_later_right_8
  obtain ⟨u, hu⟩ : ∃ u, minL (endsOf rs p.money t ++ [60]) = some u := by
    cases z : endsOf rs p.money t ++ [60] with
    | nil => simp at z
    | cons x l => exact ⟨_, rfl⟩
  obtain ⟨hu1, hu2⟩ := minL_is hu
  have hend : (endsOf rs p.money t).length ≤ 12 := by
    unfold endsOf
    rw [List.length_map]
    exact Nat.le_trans (List.length_filter_le _ _) hlen
  have had2 : addD (.lst ((endsOf rs p.money t).map D.int)) (.lst [.int 60]) = some (.lst ((endsOf rs p.money t).map D.int ++ [.int 60])) := by
    show (if ((endsOf rs p.money t).map D.int).length + 1 ≤ LINE then _ else none) = _
    rw [if_pos (by simp; omega)]
  simp [had2, bMinL, dInts_app, hu]
  unfold t__law_later_right_9
  simp
  refine (take_fr f1.bx (by decide)).mono ?_
  rintro _ S2 ⟨⟨st, rfl, s1, s2⟩, f2⟩
  have hR : ¬(1 + st) = 0 ∧ (1 + st).natAbs < 1073741824 ∧ Builtin.Range.small 0 60 (1 + st) = true ∧ 0 ≤ Builtin.Range.rangeSize 0 60 (1 + st) := by
    have : st = 0 ∨ st = 1 ∨ st = 2 ∨ st = 3 := by omega
    rcases this with rfl | rfl | rfl | rfl <;> decide
  have hw60 : ∀ i : Nat, i < (Builtin.Range.rangeSize 0 60 (1 + st)).toNat → (i : Int) * (1 + st) < 60 := by
    have : st = 0 ∨ st = 1 ∨ st = 2 ∨ st = 3 := by omega
    have n0 : (Builtin.Range.rangeSize 0 60 (1 + 0)).toNat = 60 := by decide
    have n1 : (Builtin.Range.rangeSize 0 60 (1 + 1)).toNat = 30 := by decide
    have n2 : (Builtin.Range.rangeSize 0 60 (1 + 2)).toNat = 20 := by decide
    have n3 : (Builtin.Range.rangeSize 0 60 (1 + 3)).toNat = 15 := by decide
    rcases this with rfl | rfl | rfl | rfl <;> intro i hi
    · rw [n0] at hi; omega
    · rw [n1] at hi; omega
    · rw [n2] at hi; omega
    · rw [n3] at hi; omega
  refine ⟨_, rfl, ?_⟩
  show W (if ¬(1 + st) = 0 ∧ (1 + st).natAbs < 1073741824 ∧ Builtin.Range.small 0 60 (1 + st) = true ∧ 0 ≤ Builtin.Range.rangeSize 0 60 (1 + st) then _ else _) _
  rw [if_pos hR, W_ok]
  generalize hn : (Builtin.Range.rangeSize 0 60 (1 + st)).toNat = n at *
  generalize hL2 : endsOf rs p.money t = L2 at *
  have R1 : ∀ (S : Store) (w x y : Int), rateOf rs p.money w = some (x, y) → m_rate_on [.tup (rs.map Rw.d), .int p.money, .int w] S = .ok (.tup [.int x, .int y]) S := fun S w x y h => rateon_ok hT h
  have R2 : ∀ (S : Store) (w x y : Int), rateOf rs2 p.money w = some (x, y) → m_rate_on [.tup (rs2.map Rw.d), .int p.money, .int w] S = .ok (.tup [.int x, .int y]) S := fun S w x y h => rateon_ok hM.ok h
  refine W.loop (I := fun i env S' => ∃ (x7 x8 x9 : Option D), env = [some (.ref b), some (.tup p.ds), some (.tup (rs.map Rw.d)), some (.int t), some (.tup (rs2.map Rw.d)), some (.lst (L2.map D.int)), some (.int u), x7, x8, x9, none] ∧ S' = S2) (k := 0)
    ⟨none, none, none, rfl, rfl⟩ (fun i d env S' hi hd hI => ?_) (fun env S' hI => ?_)
  · obtain ⟨x7, x8, x9, rfl, rfl⟩ := hI
    obtain ⟨hi2, rfl⟩ := step_get hd
    have hw := hw60 i (by omega)
    rw [Nat.sub_zero] at *
    generalize hwe : (0 : Int) + (i : Int) * (1 + st) = w
    have hw : w < 60 := by omega
    refine ⟨_, rfl, ?_⟩
    -- the rows that are known
    have l3 : ∀ (y7 y8 y9 y10 : Option D), lcLoop (pName 10) (bAnd (bVal (eOp eqD (eIdxB (eVar 10) (eC (.int 0))) (eIdxB (eVar 1) (eC (.int 5))))) (bVal (eOp leD (eIdxB (eVar 10) (eC (.int 1))) (eVar 7)))) (eVar 10) (wipeE [some (.ref b), some (.tup p.ds), some (.tup (rs.map Rw.d)), some (.int t), some (.tup (rs2.map Rw.d)), some (.lst (L2.map D.int)), some (.int u), some (.int w), y8, y9, y10] [10]) (rs.map Rw.d) [] S'
        = .ok ((hit rs p.money w).map Rw.d) S' := by
      intro y7 y8 y9 y10
      refine (lc_pure (p := hitB p.money w) (g := id) (by simp; omega) fun x hx => ?_).trans ?_
      · obtain ⟨r, hr, rfl⟩ := List.mem_map.mp hx
        refine ⟨_, rfl, ?_, fun _ => ?_⟩
        · by_cases c : r.mon = p.money <;> simp [-idx_tup, wipeE, z5, rx0, rx1, c] <;> simp [Rw.d, hitB, c]
        · simp [wipeE]
      · rw [List.map_id, hit_d]
        rfl
    have hk := neD_emp (rs := hit rs p.money w)
    have h60 : ∀ r ∈ rs, r.mon = p.money → t < r.day → u ≤ r.day := fun r h1 h2 h3 => hu2 r.day (List.mem_append_left _ (by
      rw [← hL2]
      unfold endsOf
      exact List.mem_map.mpr ⟨r, List.mem_filter.mpr ⟨h1, by simp [h2, h3]⟩, rfl⟩))
    unfold t__law_later_right_10
    by_cases c4 : t ≤ w
    · by_cases c5 : w < u
      · have q := more_rate hT hM (by simpa using c1) h60 c4 c5
        simp [-idx_tup, z5, c4, c5, R2 _ _ _ _ q, t__law_later_right_11, neD_tt, t__law_later_right_13]
        generalize hh : (hit rs p.money w).map Rw.d = L3 at l3 hk
        have l3' := l3 none (some (.tup [.int 7, .int 3])) x9 none
        simp [-idx_tup, l3', t__law_later_right_14, c4, c5]
      · have hex : ∃ r ∈ hit rs p.money w, t < r.day := by
          rcases List.mem_append.mp hu1 with h | h
          · rw [← hL2] at h
            unfold endsOf at h
            obtain ⟨r, h1, h2⟩ := List.mem_map.mp h
            obtain ⟨h3, h4⟩ := List.mem_filter.mp h1
            simp at h4
            exact ⟨r, mem_hit.mpr ⟨h3, h4.1, by omega⟩, h4.2⟩
          · simp at h
            omega
        obtain ⟨r, hr1, hr2⟩ := hex
        cases z : (hit rs p.money w).getLast? with
        | none => rw [List.getLast?_eq_none_iff.mp z] at hr1; cases hr1
        | some r' =>
          have hm' := (last_is hT z).2 r hr1
          obtain ⟨q1, q2⟩ := more_same hT hM (by simpa using c1) z (.inr (by simp; omega))
          have hne' : (hit rs p.money w).isEmpty = false := by
            cases y : hit rs p.money w with
            | nil => rw [y] at z; cases z
            | cons _ _ => rfl
          rw [hne'] at hk
          simp [-idx_tup, z5, c4, c5, R2 _ _ _ _ q1, t__law_later_right_11, neD_tt, t__law_later_right_13]
          generalize hh : (hit rs p.money w).map Rw.d = L3 at l3 hk
          have l3' := l3 none (some (.tup [.int r'.top, .int r'.bot])) x9 none
          simp [-idx_tup, z5, l3', t__law_later_right_14, c4, c5, hk, R1 _ _ _ _ q2, R2 _ _ _ _ q1, neD_tt]
    · cases z : (hit rs p.money w).getLast? with
      | none =>
        have e := List.getLast?_eq_none_iff.mp z
        rw [e] at hk l3
        simp [-idx_tup, z5, c4, t__law_later_right_11, neD_tt, t__law_later_right_13]
        have l3' := l3 none (some (.tup [.int 7, .int 3])) x9 none
        simp at hk
        simp [-idx_tup, l3', t__law_later_right_14, c4, hk]
      | some r' =>
        obtain ⟨q1, q2⟩ := more_same hT hM (by simpa using c1) z (.inl (by simp; omega))
        have hne' : (hit rs p.money w).isEmpty = false := by
          cases y : hit rs p.money w with
          | nil => rw [y] at z; cases z
          | cons _ _ => rfl
        rw [hne'] at hk
        simp [-idx_tup, z5, c4, t__law_later_right_11, neD_tt, t__law_later_right_13]
        generalize hh : (hit rs p.money w).map Rw.d = L3 at l3 hk
        have l3' := l3 none (some (.tup [.int 7, .int 3])) x9 none
        simp [-idx_tup, z5, l3', t__law_later_right_14, c4, hk, R1 _ _ _ _ q2, R2 _ _ _ _ q1, neD_tt]
  · obtain ⟨x7, x8, x9, rfl, rfl⟩ := hI
    simp [t__law_later_right_17]
    exact f1.trans f2
end Ro
end

section
set_option Elab.async false
set_option linter.all false
set_option maxRecDepth 100000
set_option maxHeartbeats 4000000
namespace Ro
open PySem
variable {S : Store}
theorem isND_rate (o : Option (Int × Int)) : notND (rateD o) .non = some (.bl o.isSome) := by
  cases o with
  | none => rfl
  | some p => rfl
theorem law15_ok {ns : List Int} (hl : ns.length ≤ 63) : ∃ S, m_law [.scr ns] [] = .ok (.bl true) S := by
  refine W.ex ?_
  unfold m_law
  rw [x_law]
  simp [bLenA, bLen, lenD, bMin2, bMax2]
  generalize hN : (if (1 : Int) < (if (3 : Int) < (ns.length : Int) then (3 : Int) else (ns.length : Int)) then (if (3 : Int) < (ns.length : Int) then (3 : Int) else (ns.length : Int)) else (1 : Int)) = N
  have hN2 : N ≤ 3 ∧ -4611686018427387904 ≤ N ∧ N < 4611686018427387904 := by
    rw [← hN]
    split <;> split <;> omega
  simp [hN2.2]
  refine W.loop (I := fun i env S' => ∃ (x1 x2 x3 x4 x5 : Option D), env = [some (.scr ns), x1, x2, x3, x4, x5]) (k := 0)
    ⟨none, none, none, none, none, rfl⟩ (fun i d env S' hi hd hI => ?_) (fun env S' hI => ?_)
  · obtain ⟨x1, x2, x3, x4, x5, rfl⟩ := hI
    obtain ⟨hi2, rfl⟩ := rng_get hd
    refine ⟨_, rfl, ?_⟩
    simp [t_law_2]
    refine (box_ok (k := i) hl (by omega)).mono ?_
    rintro _ _ ⟨y1, y2, rfl, rfl, h1, h2⟩
    simp [t_law_3]
    have hB : Bx (S' ++ [.lst [.int y1, .int y2]]) S'.length := ⟨y1, y2, by simp, h1, h2⟩
    refine (rates_ok hB).mono ?_
    rintro _ S2 ⟨rs, hT, rfl, f2⟩
    simp [t_law_4]
    refine W.loop (I := fun i env S3 => ∃ (z x4 x5 : Option D), env = [some (.scr ns), z, some (.ref S'.length), some (tabD rs), x4, x5] ∧ Bx S3 S'.length) (k := 0)
      ⟨_, _, _, rfl, f2.bx⟩ (fun j d env S3 hj hd hI => ?_) (fun env S3 hI => ?_)
    · obtain ⟨z, x4, x5, rfl, B3⟩ := hI
      refine ⟨_, rfl, ?_⟩
      simp [t_law_5]
      refine (row_ok B3).mono ?_
      rintro _ S4 ⟨p, hp, rfl, s4⟩
      have B4 := s4.bx B3.lt
      have z5 : ∀ S : Store, idxB (.tup p.ds) (.int 5) S = some (.int p.money) := fun _ => rfl
      have z2 : ∀ S : Store, idxB (.tup p.ds) (.int 2) S = some (.int p.day) := fun _ => rfl
      have later : ∀ (x4 : Option D) (S5 : Store), Bx S5 S'.length → W (t_law_8 [some (.scr ns), z, some (.ref S'.length), some (tabD rs), x4, some (.tup p.ds)] S5) fun c S1 => match c with
          | .nx e => ∃ (z x4 x5 : Option D), e = [some (.scr ns), z, some (.ref S'.length), some (tabD rs), x4, x5] ∧ Bx S1 S'.length
          | _ => False := fun x4 S5 B5 => by
        simp [t_law_8]
        refine (later_ok B5 hT hp).mono ?_
        rintro _ S6 ⟨rfl, f6⟩
        simp
        exact f6.bx
      unfold t_law_6
      cases hr : rateOf rs p.money p.day with
      | none =>
        have e := isND_rate none
        simp [-idx_tup, z5, z2, lawrate_ok, hr, e]
        refine (later _ _ B4).mono fun c S1 h => ?_
        cases c with
        | nx e => obtain ⟨_, _, _, h1, h2⟩ := h; exact ⟨⟨_, _, _, h1⟩, h2⟩
        | _ => exact h.elim
      | some q =>
        obtain ⟨x, y⟩ := q
        have e := isND_rate (some (x, y))
        simp [-idx_tup, z5, z2, lawrate_ok, hr, e]
        refine (sharesr_ok hT hp hr).mono ?_
        rintro _ S5 ⟨rfl, g5⟩
        simp
        refine (later _ _ (g5.fr B4).bx).mono fun c S1 h => ?_
        cases c with
        | nx e => obtain ⟨_, _, _, h1, h2⟩ := h; exact ⟨⟨_, _, _, h1⟩, h2⟩
        | _ => exact h.elim
    · obtain ⟨z, x4, x5, rfl, B3⟩ := hI
      simp
  · obtain ⟨x1, x2, x3, x4, x5, rfl⟩ := hI
    simp [t_law_10]
end Ro
end
open PySem
set_option maxRecDepth 100000 in
theorem PySem.Challenge.cw_roadpence_k15_whole_shares_holds : PySem.Challenge.rw_roadpence_k15_whole_shares.Holds := by
  exact Ro.law_from fun ns hl _ => Ro.law15_ok hl

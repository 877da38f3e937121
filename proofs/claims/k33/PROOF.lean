import PyProof.Rows.All
import Wide.All
import OpenK.AllK
import Wide.FinOn
import HandS.ForMost
import HandS.Wide
import HandS.Exc
import HandS.TryOnly
import HandS.TryMany
import HandS.ExcOwn
import HandS.WordsExc
import HandS.ExcInit
import HandS.Lambda
import HandS.OwnEq
import HandS.TupAny
import HandS.Defaults
import HandS.HeadHook2
import HandS.ExcCtx
import HandS.MakeKw
import HandS.IsInst
import HandS.WideBits
import HandS.Zip
import HandS.Text
import KE.DataEq
import KE.DataCmp
import HandS.FStr
import HandS.RaiseMore
import PyProof.ReprRoads
import HandS.HeadHook3
import HandS.HeadHook4
import HandS.Head2
import HandS.HeadEnd
import HandS.Style
import HandS.TupSets
import HandS.Conv
import PyProof.TupleOfSeq
import HandS.Keys
import HandS.Small
import HandS.EndBits
import Wide.Once
import HandS.HotCalls
import HandS.ExcField
import HandS.ExcIs
import KE.KExcIs
import HandS.Deep
import PyProof.P3In
import HandS.NestedK
import HandS.TupMul
import HandS.More
import PyProof.InstEq
import PyProof.InstNe
import KE.KFmtOwn
import KE.GoesMore
import KE.GoesZip
import HandS.Strs
import HandS.SetFor
import OpenK.KOps
import HandS.ListEq
import HandS.DeepEq
import PyProof.StrOps2
import KE.KTryMore
import HandS.Hot
import KE.SortKeyHeap
import HandS.SortKw
import HandS.SortInts
import KE.KStateDown
import Lean
import PySem.Challenge.RW_roadpence_k33_whole_journeys_in_any_orde
section
set_option linter.all false
namespace Ro
open PySem
inductive D where
  | non | bl (b : Bool) | int (i : Int) | str (s : Str)
  | tup (l : List D) | lst (l : List D) | dct (l : List (D × D))
  | obj (c : String) (fs : List D)
  | scr (l : List Int) | ref (n : Nat) | fn (x : String) | thk (k : Nat) (caps : List D)
  deriving Inhabited
inductive Cell where
  | dead | lst (l : List D) | dct (l : List (D × D)) | ins (c : String) (fs : List (String × D)) | dcT (l : List (List Int × D))
  deriving Inhabited
abbrev Store := List Cell
inductive R (α : Type) where
  | ok (a : α) (S : Store) | err (c : String) (fs : List D) (S : Store) | bad
def R.bnd {α β : Type} : R α → (α → Store → R β) → R β
  | .ok a S, f => f a S
  | .err c fs S, _ => .err c fs S
  | .bad, _ => .bad
@[simp] theorem bnd_ok {α β : Type} (a : α) (S : Store) (f : α → Store → R β) : (R.ok a S).bnd f = f a S := rfl
@[simp] theorem bnd_err {α β : Type} (c : String) (fs : List D) (S : Store) (f : α → Store → R β) : (R.err c fs S : R α).bnd f = .err c fs S := rfl
@[simp] theorem bnd_bad {α β : Type} (f : α → Store → R β) : (R.bad : R α).bnd f = .bad := rfl
theorem bnd_assoc {α β γ : Type} (r : R α) (f : α → Store → R β) (g : β → Store → R γ) : (r.bnd f).bnd g = r.bnd fun a S => (f a S).bnd g := by cases r <;> rfl
/-- an option as a result -/
def lift {α : Type} (o : Option α) (S : Store) : R α := match o with
  | some a => .ok a S
  | none => .bad
@[simp] theorem lift_some {α : Type} (a : α) (S : Store) : lift (some a) S = .ok a S := rfl
@[simp] theorem lift_none {α : Type} (S : Store) : lift (none : Option α) S = .bad := rfl
abbrev LINE : Nat := 16777216
mutual
def pyEq : D → D → Bool
  | .non, .non => true
  | .bl a, .bl b => a == b
  | .bl a, .int j => decide ((if a then 1 else 0) = j)
  | .int i, .bl b => decide (i = (if b then 1 else 0))
  | .int i, .int j => decide (i = j)
  | .str s, .str t => decide (s = t)
  | .tup l, .tup m => pyEqs l m
  | .lst l, .lst m => pyEqs l m
  | .dct l, .dct m => l.length == m.length && pySub l m
  | .obj c l, .obj d m => c == d && pyEqs l m
  | _, _ => false
def pyEqs : List D → List D → Bool
  | [], [] => true
  | x :: l, y :: m => pyEq x y && pyEqs l m
  | _, _ => false
def pySub : List (D × D) → List (D × D) → Bool
  | [], _ => true
  | (k, v) :: l, m => (match m.find? (fun p => pyEq k p.1) with
     | some p => pyEq v p.2
     | none => false) && pySub l m
end
abbrev Env := List (Option D)
abbrev EX := Env → Store → R D
abbrev BX := Env → Store → R Bool
abbrev AX := Env → Store → R (List D)
inductive Ctl where
  | nx (e : Env) | rt (d : D) | bk (e : Env) | ct (e : Env)
abbrev ES := Env → Store → R Ctl
abbrev Fn := List D → Store → R D
def eVar (i : Nat) : EX := fun env S => match env[i]? with
  | some (some d) => .ok d S
  | _ => .bad
def eC (d : D) : EX := fun _ S => .ok d S
def eOp (op : D → D → Option D) (a b : EX) : EX := fun env S => (a env S).bnd fun x S1 => (b env S1).bnd fun y S2 => lift (op x y) S2
def eUn (op : D → Option D) (a : EX) : EX := fun env S => (a env S).bnd fun x S1 => lift (op x) S1
def aNil : AX := fun _ S => .ok [] S
def aCons (a : EX) (r : AX) : AX := fun env S => (a env S).bnd fun x S1 => (r env S1).bnd fun xs S2 => .ok (x :: xs) S2
/-- how a call's values are put: from the written ones (0), the defaults (1), the keywords' (2) -/
def pick {α : Type} (pk : List (Nat × Nat)) (us its ws : List α) : List α := pk.flatMap fun q => ((if q.1 = 0 then us else if q.1 = 1 then its else ws)[q.2]?).toList
def eTup (a : AX) : EX := fun env S => (a env S).bnd fun xs S1 => if xs.length ≤ LINE then .ok (.tup xs) S1 else .bad
def eLst (a : AX) : EX := fun env S => (a env S).bnd fun xs S1 => if xs.length ≤ LINE then .ok (.lst xs) S1 else .bad
/-- a list that will be changed -/
def eLstM (a : AX) : EX := fun env S => (a env S).bnd fun xs S1 => if xs.length ≤ LINE then .ok (.ref S1.length) (S1 ++ [.lst xs]) else .bad
def truth : D → Option Bool
  | .non => some false
  | .bl b => some b
  | .int i => some (decide (i ≠ 0))
  | .str s => if s.length ≤ LINE then some (decide (s.length ≠ 0)) else none
  | .tup l => some (!l.isEmpty)
  | .lst l => some (!l.isEmpty)
  | .dct l => some (!l.isEmpty)
  | _ => none
/-- an expression's truth -/
def bOf (a : EX) : BX := fun env S => (a env S).bnd fun x S1 => lift (truth x) S1
/-- an expression that is a bool, as a test -/
def bVal (a : EX) : BX := fun env S => (a env S).bnd fun x S1 => match x with
  | .bl b => .ok b S1
  | _ => .bad
def bAnd (a b : BX) : BX := fun env S => (a env S).bnd fun c S1 => if c then b env S1 else .ok false S1
def bOr (a b : BX) : BX := fun env S => (a env S).bnd fun c S1 => if c then .ok true S1 else b env S1
def bNot (a : BX) : BX := fun env S => (a env S).bnd fun c S1 => .ok (!c) S1
/-- .. as values, all but the last a bool -/
def eAnd (a b : EX) : EX := fun env S => (a env S).bnd fun x S1 => match x with
  | .bl c => if c then b env S1 else .ok (.bl false) S1
  | _ => .bad
def eOr (a b : EX) : EX := fun env S => (a env S).bnd fun x S1 => match x with
  | .bl c => if c then .ok (.bl true) S1 else b env S1
  | _ => .bad
def eNot (a : EX) : EX := fun env S => (a env S).bnd fun x S1 => match x with
  | .bl c => .ok (.bl (!c)) S1
  | _ => .bad
def eIf (c : BX) (a b : EX) : EX := fun env S => (c env S).bnd fun k S1 => if k then a env S1 else b env S1
/-- a op b op' c -/
def eChain (op op' : D → D → Option D) (a b c : EX) : EX := fun env S => (a env S).bnd fun x S1 => (b env S1).bnd fun y S2 => match op x y with
  | some (.bl true) => (c env S2).bnd fun z S3 => lift (op' y z) S3
  | some (.bl false) => .ok (.bl false) S2
  | _ => .bad
def addD : D → D → Option D
  | .int i, .int j => some (.int (i + j))
  | .str s, .str t => if s.length + t.length ≤ LINE then some (.str (s ++ t)) else none
  | .tup l, .tup m => if l.length + m.length ≤ LINE then some (.tup (l ++ m)) else none
  | .lst l, .lst m => if l.length + m.length ≤ LINE then some (.lst (l ++ m)) else none
  | _, _ => none
def subD : D → D → Option D
  | .int i, .int j => some (.int (i - j))
  | _, _ => none
def mulOk (i j : Int) : Bool := decide (i.natAbs.log2 + j.natAbs.log2 < 1000000)
def mulD : D → D → Option D
  | .int i, .int j => if mulOk i j then some (.int (i * j)) else none
  | _, _ => none
def fdivD : D → D → Option D
  | .int i, .int j => if 0 < j ∧ j.natAbs.log2 < 9000 then some (.int (i / j)) else none
  | _, _ => none
def modD : D → D → Option D
  | .int i, .int j => if 0 < j then some (.int (i % j)) else none
  | _, _ => none
def powD : D → D → Option D
  | .int i, .int j => if 0 ≤ j ∧ j ≤ 1000000 ∧ i.natAbs < 2 ^ 64 then some (.int (i ^ j.toNat)) else none
  | _, _ => none
def leD : D → D → Option D
  | .int i, .int j => some (.bl (decide (i ≤ j)))
  | _, _ => none
def gtD : D → D → Option D
  | .int i, .int j => some (.bl (decide (j < i)))
  | _, _ => none
/-- the place of an index -/
def pyIx (n : Nat) (i : Int) : Option Nat := if 0 ≤ i then (if i < n then some i.toNat else none) else if -(n : Int) ≤ i then some (i + n).toNat else none
def atP {α : Type} (xs : List α) (i : Int) : Option α := (pyIx xs.length i).bind fun j => xs[j]?
def idxD : D → D → Option D
  | .tup l, .int i => atP l i
  | .lst l, .int i => atP l i
  | .scr l, .int i => (atP l i).map D.int
  | .str s, .int i => if s.length ≤ LINE then (atP s.cps.toList i).map fun c => .str ⟨#[c]⟩ else none
  | _, _ => none
/-- .. of a changing list -/
def idxM (x y : D) (S : Store) : Option D := match x, y with
  | .ref n, .int i => (match S[n]? with
    | some (.lst l) => atP l i
    | _ => none)
  | _, _ => none
def eIdx (a b : EX) : EX := eOp idxD a b
def eIdxM (a b : EX) : EX := fun env S => (a env S).bnd fun x S1 => (b env S1).bnd fun y S2 => lift (idxM x y S2) S2
/-- o[i] = v, o a changing list -/
def setM (x y v : D) (S : Store) : Option Store := match x, y with
  | .ref n, .int i => (match S[n]? with
    | some (.lst l) => (pyIx l.length i).map fun j => S.set n (.lst (l.set j v))
    | _ => none)
  | _, _ => none
def sSetIt (o i v : EX) : ES := fun env S => (v env S).bnd fun z S1 => (o env S1).bnd fun x S2 => (i env S2).bnd fun y S3 => match setM x y z S3 with
  | some S4 => .ok (.nx env) S4
  | none => .bad
/-- the ends of a slice -/
def cutI (n d : Nat) : Option Int → Nat
  | none => d
  | some i => if i < 0 then (i + n).toNat else min i.toNat n
def cutL {α : Type} (xs : List α) (lo hi : Option Int) : List α := (xs.drop (cutI xs.length 0 lo)).take (cutI xs.length xs.length hi - cutI xs.length 0 lo)
def cutD (x : D) (lo hi : Option Int) : Option D := match x with
  | .tup l => some (.tup (cutL l lo hi))
  | .lst l => some (.lst (cutL l lo hi))
  | .str s => if s.length ≤ LINE then some (.str ⟨(cutL s.cps.toList lo hi).toArray⟩) else none
  | _ => none
/-- a part of a slice -/
abbrev OX := Env → Store → R (Option Int)
def oNone : OX := fun _ S => .ok none S
def oSome (a : EX) : OX := fun env S => (a env S).bnd fun x S1 => match x with
  | .int i => .ok (some i) S1
  | _ => .bad
def eCut (a : EX) (lo hi : OX) : EX := fun env S => (a env S).bnd fun x S1 => (lo env S1).bnd fun l S2 => (hi env S2).bnd fun h S3 => lift (cutD x l h) S3
/-- isinstance: what a thing is -/
inductive Ty where
  | b (n : String) | o (c : String)
  deriving DecidableEq
def tyD : D → Store → Option Ty
  | .non, _ => some (.b "NoneType")
  | .bl _, _ => some (.b "bool")
  | .int _, _ => some (.b "int")
  | .str _, _ => some (.b "str")
  | .tup _, _ => some (.b "tuple")
  | .lst _, _ => some (.b "list")
  | .scr _, _ => some (.b "list")
  | .dct _, _ => some (.b "dict")
  | .obj c _, _ => some (.o c)
  | .ref n, S => match S[n]? with
    | some (.lst _) => some (.b "list")
    | some (.dct _) => some (.b "dict")
    | some (.ins c _) => some (.o c)
    | _ => none
  | _, _ => none
/-- is a thing of the type t one of T -/
def subTy (t T : Ty) : Bool := decide (t = T) || (decide (t = .b "bool") && decide (T = .b "int"))
/-- tys: those that are looked at -/
def eIsI (tys : List Ty) (Tt : Ty) (a : EX) : EX := fun env S => (a env S).bnd fun x S1 => match tyD x S1 with
  | some t => if tys.contains t then .ok (.bl (subTy t Tt)) S1 else .bad
  | none => .bad
def lenD : D → Option D
  | .tup l => some (.int l.length)
  | .lst l => some (.int l.length)
  | .scr l => some (.int l.length)
  | .str s => if s.length ≤ LINE then some (.int s.length) else none
  | .dct l => some (.int l.length)
  | _ => none
def sSet (i : Nat) (e : EX) : ES := fun env S => (e env S).bnd fun d S1 => .ok (.nx (env.set i (some d))) S1
def sSeq (s t : ES) : ES := fun env S => (s env S).bnd fun c S1 => match c with
  | .nx e => t e S1
  | c => .ok c S1
def sPass : ES := fun env S => .ok (.nx env) S
def sIf (c : BX) (s t : ES) : ES := fun env S => (c env S).bnd fun k S1 => if k then s env S1 else t env S1
def sRet (e : EX) : ES := fun env S => (e env S).bnd fun d S1 => .ok (.rt d) S1
def sExpr (e : EX) : ES := fun env S => (e env S).bnd fun _ S1 => .ok (.nx env) S1
def sRaise (c : String) (a : AX) : ES := fun env S => (a env S).bnd fun fs S1 => .err c fs S1
abbrev Pat := D → Env → Option Env
def pName (i : Nat) : Pat := fun d env => some (env.set i (some d))
def pNil : List D → Env → Option Env := fun ds env => match ds with
  | [] => some env
  | _ => none
def pCons (p : Pat) (r : List D → Env → Option Env) : List D → Env → Option Env := fun ds env => match ds with
  | d :: ds => (p d env).bind fun e => r ds e
  | [] => none
def pTup (r : List D → Env → Option Env) : Pat := fun d env => match d with
  | .tup l => r l env
  | _ => none
def sUnp (p : Pat) (e : EX) : ES := fun env S => (e env S).bnd fun d S1 => match p d env with
  | some env' => .ok (.nx env') S1
  | none => .bad
def loop (tg : Pat) (body : ES) : List D → ES
  | [], env, S => .ok (.nx env) S
  | x :: xs, env, S => match tg x env with
    | none => .bad
    | some env1 => (body env1 S).bnd fun c S1 => match c with
      | .nx e => loop tg body xs e S1
      | .ct e => loop tg body xs e S1
      | .bk e => .ok (.nx e) S1
      | .rt d => .ok (.rt d) S1
def sFor (it : AX) (tg : Pat) (body : ES) : ES := fun env S => (it env S).bnd fun xs S1 => loop tg body xs env S1
/-- what raises is not told -/
def R.nox {α : Type} : R α → R α
  | .ok a S => .ok a S
  | _ => .bad
@[simp] theorem nox_ok {α : Type} (a : α) (S : Store) : (R.ok a S).nox = .ok a S := rfl
def lcLoop (tg : Pat) (c : BX) (el : EX) (env : Env) : List D → List D → Store → R (List D)
  | [], acc, S => .ok acc S
  | x :: xs, acc, S => match tg x env with
    | none => .bad
    | some env1 => (c env1 S).nox.bnd fun k S1 => if k then (el env1 S1).nox.bnd fun y S2 => if acc.length < LINE then lcLoop tg c el env xs (acc ++ [y]) S2 else .bad else lcLoop tg c el env xs acc S1
def bYes : BX := fun _ S => .ok true S
/-- a comprehension: vs the slots of its own names -/
def wipeE (env : Env) : List Nat → Env
  | [] => env
  | v :: vs => (wipeE env vs).set v none
def eLC (vs : List Nat) (it : AX) (tg : Pat) (c : BX) (el : EX) : EX := fun env S => (it env S).bnd fun xs S1 => (lcLoop tg c el (wipeE env vs) xs [] S1).bnd fun ys S2 => .ok (.lst ys) S2
/-- a def's body -/
def fnM (n : Nat) (body : ES) : Fn := fun ds S => (body (ds.map some ++ List.replicate (n - ds.length) none) S).bnd fun c S1 => match c with
  | .rt d => .ok d S1
  | .nx _ => .ok .non S1
  | _ => .bad
theorem ofString_inj {s t : String} : Str.ofString s = Str.ofString t ↔ s = t := by
  constructor
  · intro h
    rw [Str.ofString_eq_toList, Str.ofString_eq_toList] at h
    have h1 := congrArg Str.cps h
    have h2 : s.toList.map Char.toNat = t.toList.map Char.toNat := by simpa using h1
    have key : ∀ {l m : List Char}, l.map Char.toNat = m.map Char.toNat → l = m := by
      intro l
      induction l with
      | nil => intro m e; cases m with
        | nil => rfl
        | cons _ _ => cases e
      | cons a l ih => intro m e; cases m with
        | nil => cases e
        | cons b m =>
          rw [List.map_cons, List.map_cons] at e
          injection e with e1 e2
          rw [Char.toNat_inj.mp e1, ih e2]
    exact String.toList_inj.mp (key h2)
  · rintro rfl; rfl
def setF (f : String) (v : D) : List (String × D) → List (String × D)
  | [] => [(f, v)]
  | (g, u) :: r => if g = f then (f, v) :: r else (g, u) :: setF f v r
/-- a value's attribute: cs the classes that have it -/
def attrD (cf : String → List String) (cs : List String) (f : String) : D → Store → Option D
  | .obj c fs, _ => if cs.contains c then ((cf c).zip fs).lookup f else none
  | .ref n, S => match S[n]? with
    | some (.ins c fs) => if cs.contains c then fs.lookup f else none
    | _ => none
  | _, _ => none
def eAttr (cf : String → List String) (cs : List String) (f : String) (a : EX) : EX := fun env S => (a env S).bnd fun x S1 => lift (attrD cf cs f x S1) S1
/-- o.f = v, o a changing thing -/
def sSetAttr (cs : List String) (f : String) (o v : EX) : ES := fun env S => (v env S).bnd fun y S1 => (o env S1).bnd fun x S2 => match x with
  | .ref n => match S2[n]? with
    | some (.ins c fs) => if cs.contains c && decide (fs.length < 1000) then .ok (.nx env) (S2.set n (.ins c (setF f y fs))) else .bad
    | _ => .bad
  | _ => .bad
/-- is it a thing of the class c, without a field m -/
def isInst (cf : String → List String) (c m : String) (x : D) (S : Store) : Bool := match x with
  | .obj c' _ => c' == c && !(cf c).contains m
  | .ref n => match S[n]? with
    | some (.ins c' fs) => c' == c && (fs.lookup m).isNone
    | _ => false
  | _ => false
/-- o.m(..) -/
def eMeth (cf : String → List String) (c mn : String) (m : List D → List D → Store → R D) (o : EX) (fa fk : AX) : EX := fun env S => (o env S).bnd fun x S1 => if isInst cf c mn x S1 then (fa env S1).bnd fun xs S2 => (fk env S2).bnd fun zs S3 => m (x :: xs) zs S3 else .bad
/-- C(..): a new thing -/
def newM (c : String) (m : List D → List D → Store → R D) (xs zs : List D) (S : Store) : R D := (m (.ref S.length :: xs) zs (S ++ [.ins c []])).bnd fun r S1 => match r with
  | .non => .ok (.ref S.length) S1
  | _ => .bad
/-- .. that stands still from then on -/
def frzM (cf : String → List String) (r : R D) : R D := r.bnd fun x S => match x with
  | .ref n => match S[n]? with
    | some (.ins c fs) => if fs.map (·.1) = cf c then .ok (.obj c (fs.map (·.2))) (S.set n .dead) else .bad
    | some (.lst l) => .ok (.lst l) (S.set n .dead)
    | some (.dct l) => .ok (.dct l) (S.set n .dead)
    | _ => .bad
  | _ => .bad
/-- an expression's value stands still from now on -/
def eFrz (cf : String → List String) (a : EX) : EX := fun env S => frzM cf (a env S)
/-- built-ins by values -/
def eB (m : List D → Option D) (fa : AX) : EX := fun env S => (fa env S).bnd fun xs S1 => lift (m xs) S1
def bLen : List D → Option D
  | [x] => lenD x
  | _ => none
def bAbs : List D → Option D
  | [.int i] => some (.int (if i < 0 then -i else i))
  | _ => none
def bMax2 : List D → Option D
  | [.int i, .int j] => some (.int (if j > i then j else i))
  | _ => none
def bMin2 : List D → Option D
  | [.int i, .int j] => some (.int (if j < i then j else i))
  | _ => none
def bTuple : List D → Option D
  | [.tup l] => some (.tup l)
  | [.lst l] => some (.tup l)
  | _ => none
def divOk (j : Int) : Bool := decide (0 < j ∧ j < 1152921504606846976)
def bDivmod : List D → Option D
  | [.int i, .int j] => if divOk j then some (.tup [.int (i / j), .int (i % j)]) else none
  | _ => none
/-- list(..) of what will be changed -/
def eListM (fa : AX) : EX := fun env S => (fa env S).bnd fun xs S1 => match xs with
  | [.tup l] => .ok (.ref S1.length) (S1 ++ [.lst l])
  | [.lst l] => .ok (.ref S1.length) (S1 ++ [.lst l])
  | [.ref n] => (match S1[n]? with
    | some (.lst l) => .ok (.ref S1.length) (S1 ++ [.lst l])
    | _ => .bad)
  | _ => .bad
/-- l.append(x) -/
def appM (l x : D) (S : Store) : Option Store := match l with
  | .ref n => (match S[n]? with
    | some (.lst xs) => if xs.length < LINE then some (S.set n (.lst (xs ++ [x]))) else none
    | _ => none)
  | _ => none
def eApp (o : EX) (x : EX) : EX := fun env S => (o env S).bnd fun l S1 => if tyD l S1 = some (.b "list") then (x env S1).bnd fun y S2 => match appM l y S2 with
  | some S3 => .ok .non S3
  | none => .bad else .bad
end Ro
end
section
set_option Elab.async false
set_option linter.all false
set_option maxRecDepth 100000
set_option maxHeartbeats 4000000
namespace Ro
open PySem PySem.Spec PyProof.Rows L2
abbrev St := L2.St
structure Wd where
  G : Hp
  am : List Addr
  hid : List (Addr × List D) := []
/-- the exception in hand: where it lies, its dict, its class -/
structure XC where
  a : Addr
  dx : Option Addr
  c : String
/-- what is told of the text -/
structure Tb where
  K : PySem.W.Frag
  cf : String → List String
  tabs : List (Addr × Str)
  xc : Option XC := none
mutual
inductive Rep (T : Tb) (w : Wd) : D → V → Prop
  | non : Rep T w .non .non
  | bl (b : Bool) : Rep T w (.bl b) (.bl b)
  | int (i : Int) : Rep T w (.int i) (.int i)
  | str (s : Str) : Rep T w (.str s) (.str s)
  | tup {l : List D} {a : Addr} {vs : List V} (h : SqT T.K w.G a vs) (r : Reps T w l vs) : Rep T w (.tup l) (.ref a)
  | scr {l : List Int} {a : Addr} (h : SqL T.K w.G a (l.map V.int)) : Rep T w (.scr l) (.ref a)
  | lst {l : List D} {a : Addr} {vs : List V} (h : w.G a = some (.lst vs)) (r : Reps T w l vs) : Rep T w (.lst l) (.ref a)
  | dct {l : List (D × D)} {a : Addr} {kvs : List (Key × V)} (h : w.G a = some (.dK kvs)) (r : RepK T w l kvs) : Rep T w (.dct l) (.ref a)
  | obj {c : String} {l : List D} {a dx : Addr} {fs : List (Str × V)} (h : w.G a = some (.ins (He.ga T.K (c : Str)) dx fs)) (n : fs.map (·.1) = (T.cf c).map Str.ofString) (r : Reps T w l (fs.map (·.2))) : Rep T w (.obj c l) (.ref a)
  | ref {n : Nat} {a : Addr} (h : w.am[n]? = some a) : Rep T w (.ref n) (.ref a)
  | fn (x : String) : Rep T w (.fn x) (.ref (He.ga T.K (x : Str)))
  | xc0 {z : XC} (h : T.xc = some z) (hd : z.dx = none) : Rep T w (.thk 0 []) (.ref z.a)
  | xc1 {z : XC} {dd : Addr} {gs : List (Str × V)} {l : List D} (h : T.xc = some z) (hd : z.dx = some dd) (g : w.G dd = some (.xd gs)) (ex : ∀ f ∈ T.cf z.c, ∃ v, gs.lookup (Str.ofString f) = some v) (r : Reps T w l ((T.cf z.c).map fun f : String => (gs.lookup (Str.ofString f)).getD .non)) : Rep T w (.thk 0 l) (.ref z.a)
inductive Reps (T : Tb) (w : Wd) : List D → List V → Prop
  | nil : Reps T w [] []
  | cons {d : D} {v : V} {l : List D} {vs : List V} (h : Rep T w d v) (r : Reps T w l vs) : Reps T w (d :: l) (v :: vs)
inductive RepK (T : Tb) (w : Wd) : List (D × D) → List (Key × V) → Prop
  | nil : RepK T w [] []
  | int {i : Int} {d : D} {v : V} {l : List (D × D)} {vs : List (Key × V)} (h : Rep T w d v) (r : RepK T w l vs) : RepK T w ((.int i, d) :: l) ((.inl i, v) :: vs)
  | str {s : Str} {d : D} {v : V} {l : List (D × D)} {vs : List (Key × V)} (h : Rep T w d v) (r : RepK T w l vs) : RepK T w ((.str s, d) :: l) ((.inr s, v) :: vs)
end
/-- the world has grown; the lists that are being made stay -/
structure Wd.sb (w w' : Wd) : Prop where
  G : ∀ a o, w.G a = some o → w'.G a = some o
  am : ∃ t, w'.am = w.am ++ t
structure Wd.le (w w' : Wd) : Prop where
  tosb : w.sb w'
  hid : w'.hid = w.hid
theorem Wd.sb.trans {w w1 w2 : Wd} (a : w.sb w1) (b : w1.sb w2) : w.sb w2 := ⟨fun c o h => b.G c o (a.G c o h), by
  obtain ⟨t, e⟩ := a.am
  obtain ⟨u, e'⟩ := b.am
  exact ⟨t ++ u, by rw [e', e, List.append_assoc]⟩⟩
theorem Wd.le.refl (w : Wd) : w.le w := ⟨⟨fun _ _ h => h, [], by simp⟩, rfl⟩
theorem Wd.le.trans {w w1 w2 : Wd} (a : w.le w1) (b : w1.le w2) : w.le w2 := ⟨a.tosb.trans b.tosb, b.hid.trans a.hid⟩
theorem Wd.sb.at {w w' : Wd} (h : w.sb w') {n : Nat} {a : Addr} (e : w.am[n]? = some a) : w'.am[n]? = some a := by
  obtain ⟨t, q⟩ := h.am
  have hl := (List.getElem?_eq_some_iff.mp e).1
  rw [q, List.getElem?_append_left hl]
  exact e
theorem rd_le {w w' : Wd} (h : w.sb w') {a : Addr} {u : HO} (r : Rd w.G a u) : Rd w'.G a u := r.elim (fun r => .inl (h.G _ _ r)) fun ⟨o, r⟩ => .inr ⟨o, h.G _ _ r⟩
theorem sqt_le {K : PySem.W.Frag} {w w' : Wd} (h : w.sb w') {a : Addr} {xs : List V} (r : SqT K w.G a xs) : SqT K w'.G a xs := r.elim (fun r => .inl (rd_le h r)) .inr
theorem sql_le {K : PySem.W.Frag} {w w' : Wd} (h : w.sb w') {a : Addr} {xs : List V} (r : SqL K w.G a xs) : SqL K w'.G a xs := r.elim (fun r => .inl (rd_le h r)) .inr
theorem Wd.le.app (w : Wd) (p : Addr) : w.le ⟨w.G, w.am ++ [p], w.hid⟩ := ⟨⟨fun _ _ h => h, [p], rfl⟩, rfl⟩
mutual
theorem Rep.monoS {T : Tb} {w w' : Wd} (h : w.sb w') : ∀ {d : D} {v : V}, Rep T w d v → Rep T w' d v
  | _, _, .non => .non
  | _, _, .bl b => .bl b
  | _, _, .int i => .int i
  | _, _, .str s => .str s
  | _, _, .tup q r => .tup (sqt_le h q) (r.monoS h)
  | _, _, .scr q => .scr (sql_le h q)
  | _, _, .lst q r => .lst (h.G _ _ q) (r.monoS h)
  | _, _, .dct q r => .dct (h.G _ _ q) (r.monoS h)
  | _, _, .obj q n r => .obj (h.G _ _ q) n (r.monoS h)
  | _, _, .ref q => .ref (h.at q)
  | _, _, .fn x => .fn x
  | _, _, .xc0 q hd => .xc0 q hd
  | _, _, .xc1 q hd g ex r => .xc1 q hd (h.G _ _ g) ex (r.monoS h)
theorem Reps.monoS {T : Tb} {w w' : Wd} (h : w.sb w') : ∀ {l : List D} {vs : List V}, Reps T w l vs → Reps T w' l vs
  | _, _, .nil => .nil
  | _, _, .cons q r => .cons (q.monoS h) (r.monoS h)
theorem RepK.monoS {T : Tb} {w w' : Wd} (h : w.sb w') : ∀ {l : List (D × D)} {vs : List (Key × V)}, RepK T w l vs → RepK T w' l vs
  | _, _, .nil => .nil
  | _, _, .int q r => .int (q.monoS h) (r.monoS h)
  | _, _, .str q r => .str (q.monoS h) (r.monoS h)
end
theorem Rep.mono {T : Tb} {w w' : Wd} (h : w.le w') {d : D} {v : V} (r : Rep T w d v) : Rep T w' d v := r.monoS h.tosb
theorem Reps.mono {T : Tb} {w w' : Wd} (h : w.le w') {d : List D} {v : List V} (r : Reps T w d v) : Reps T w' d v := r.monoS h.tosb
theorem RepK.mono {T : Tb} {w w' : Wd} (h : w.le w') {d : List (D × D)} {v : List (Key × V)} (r : RepK T w d v) : RepK T w' d v := r.monoS h.tosb
theorem Reps.length {T : Tb} {w : Wd} : ∀ {l : List D} {vs : List V}, Reps T w l vs → l.length = vs.length
  | _, _, .nil => rfl
  | _, _, .cons _ r => by rw [List.length_cons, List.length_cons, r.length]
theorem Reps.get {T : Tb} {w : Wd} : ∀ {l : List D} {vs : List V} {i : Nat} {d : D}, Reps T w l vs → l[i]? = some d → ∃ v, vs[i]? = some v ∧ Rep T w d v
  | _, _, _, _, .nil, e => by simp at e
  | _, _, 0, _, .cons q _, e => by simp at e; subst e; exact ⟨_, rfl, q⟩
  | _, _, i + 1, d, .cons _ r, e => by
    obtain ⟨v, h1, h2⟩ := Reps.get (i := i) (d := d) r (by simpa using e)
    exact ⟨v, by simpa using h1, h2⟩
theorem Reps.append {T : Tb} {w : Wd} : ∀ {l m : List D} {vs us : List V}, Reps T w l vs → Reps T w m us → Reps T w (l ++ m) (vs ++ us)
  | _, _, _, _, .nil, s => s
  | _, _, _, _, .cons q r, s => .cons q (Reps.append r s)
theorem Reps.take {T : Tb} {w : Wd} : ∀ {l : List D} {vs : List V} (n : Nat), Reps T w l vs → Reps T w (l.take n) (vs.take n)
  | _, _, 0, _ => .nil
  | _, _, _ + 1, .nil => .nil
  | _, _, n + 1, .cons q r => .cons q (Reps.take n r)
theorem Reps.drop {T : Tb} {w : Wd} : ∀ {l : List D} {vs : List V} (n : Nat), Reps T w l vs → Reps T w (l.drop n) (vs.drop n)
  | _, _, 0, r => r
  | _, _, _ + 1, .nil => .nil
  | _, _, n + 1, .cons _ r => Reps.drop n r
theorem Reps.set {T : Tb} {w : Wd} {d : D} {v : V} (q : Rep T w d v) : ∀ {l : List D} {vs : List V} (i : Nat), Reps T w l vs → Reps T w (l.set i d) (vs.set i v)
  | _, _, _, .nil => .nil
  | _, _, 0, .cons _ r => .cons q r
  | _, _, i + 1, .cons p r => .cons p (Reps.set q i r)
theorem Reps.reverse {T : Tb} {w : Wd} : ∀ {l : List D} {vs : List V}, Reps T w l vs → Reps T w l.reverse vs.reverse
  | _, _, .nil => .nil
  | _, _, .cons q r => by rw [List.reverse_cons, List.reverse_cons]; exact (Reps.reverse r).append (.cons q .nil)
def CellR (T : Tb) (w : Wd) (H : Hp) (a : Addr) : Cell → Prop
  | .dead => True
  | .lst l => ∃ vs, H a = some (.lst vs) ∧ Reps T w l vs
  | .dct l => ∃ kvs, H a = some (.dK kvs) ∧ RepK T w l kvs
  | .ins c fs => ∃ dx gs, H a = some (.ins (He.ga T.K (c : Str)) dx gs) ∧ gs.map (·.1) = fs.map (fun p => Str.ofString p.1) ∧ Reps T w (fs.map (·.2)) (gs.map (·.2))
  | .dcT l => ∃ kvs : List (List Key × V), H a = some (.dT kvs) ∧ kvs.map (·.1) = l.map (fun p => p.1.map Sum.inl) ∧ Reps T w (l.map (·.2)) (kvs.map (·.2))
structure WR (T : Tb) (w : Wd) (S : Store) (H : Hp) : Prop where
  sub : ∀ a o, w.G a = some o → H a = some o
  len : w.am.length = S.length
  nd : w.am.Nodup
  has : ∀ a ∈ w.am, ∃ o, H a = some o ∧ ∀ ps, o ≠ .tbl ps
  out : ∀ (n : Nat) c a, S[n]? = some c → w.am[n]? = some a → c ≠ .dead → w.G a = none
  cell : ∀ (n : Nat) c a, S[n]? = some c → w.am[n]? = some a → CellR T w H a c
  tabs : LamX.Tabs T.tabs H
  hn : (w.hid.map (·.1)).Nodup
  hd : ∀ p ∈ w.hid, w.G p.1 = none ∧ p.1 ∉ w.am ∧ ∃ vs, H p.1 = some (.lst vs) ∧ Reps T w p.2 vs
  nt : ∀ a ps, w.G a ≠ some (.tbl ps)
/-- .. of a frame's slots -/
def ER (T : Tb) (w : Wd) (env : Env) (σ : St) : Prop := env.length = σ.length ∧ ∀ (i : Nat) d, env[i]? = some (some d) → ∃ v, σ[i]? = some (some v) ∧ Rep T w d v
theorem ER.monoS {T : Tb} {w w' : Wd} (h : w.sb w') {env : Env} {σ : St} (r : ER T w env σ) : ER T w' env σ := ⟨r.1, fun i d e => by
  obtain ⟨v, h1, h2⟩ := r.2 i d e
  exact ⟨v, h1, h2.monoS h⟩⟩
theorem ER.mono {T : Tb} {w w' : Wd} (h : w.le w') {env : Env} {σ : St} (r : ER T w env σ) : ER T w' env σ := ⟨r.1, fun i d e => by
  obtain ⟨v, h1, h2⟩ := r.2 i d e
  exact ⟨v, h1, h2.mono h⟩⟩
theorem ER.set {T : Tb} {w : Wd} {env : Env} {σ : St} {d : D} {v : V} (r : ER T w env σ) (q : Rep T w d v) (i : Nat) : ER T w (env.set i (some d)) (σ.set i (some v)) := ⟨by rw [List.length_set, List.length_set, r.1], fun j e h => by
  by_cases hj : i = j
  · subst hj
    rw [List.getElem?_set] at h ⊢
    simp only [if_true] at h ⊢
    by_cases hl : i < env.length
    · rw [if_pos hl] at h
      have e' : d = e := by simpa using h
      subst e'
      rw [if_pos (by rw [← r.1]; exact hl)]
      exact ⟨v, rfl, q⟩
    · rw [if_neg hl] at h
      cases h
  · rw [List.getElem?_set_ne hj] at h ⊢
    exact r.2 j e h⟩
/-- an exception as it lies -/
def XRep (T : Tb) (w : Wd) (H : Hp) (c : String) (fs : List D) (cls : Value) (dx : Option Addr) : Prop :=
  cls = .ref (He.ga T.K (c : Str)) ∧ ((fs = [] ∧ dx = none) ∨ ∃ a gs, dx = some a ∧ H a = some (.xd gs) ∧ (∀ f ∈ T.cf c, ∃ v, gs.lookup (Str.ofString f) = some v) ∧ Reps T w fs ((T.cf c).map fun f : String => (gs.lookup (Str.ofString f)).getD .non))
/-- a result, as it must lie -/
def RP {α : Type} (r : R α) (Pk : α → Store → Prop) (Pe : String → List D → Store → Prop) : Prop := match r with
  | .ok a S => Pk a S
  | .err c fs S => Pe c fs S
  | .bad => False
theorem RP.mono {α : Type} {r : R α} {Pk Pk' : α → Store → Prop} {Pe Pe' : String → List D → Store → Prop} (h : RP r Pk Pe) (hk : ∀ a S, Pk a S → Pk' a S) (he : ∀ c fs S, Pe c fs S → Pe' c fs S) : RP r Pk' Pe' := by
  cases r with
  | ok a S => exact hk _ _ h
  | err c fs S => exact he _ _ _ h
  | bad => exact h
theorem RP.bnd {α β : Type} {r : R α} {f : α → Store → R β} {Pk : β → Store → Prop} {Pe : String → List D → Store → Prop} (h : RP (r.bnd f) Pk Pe) : RP r (fun a S => RP (f a S) Pk Pe) Pe := by
  cases r with
  | ok a S => exact h
  | err c fs S => exact h
  | bad => exact h
/-- the exception's wish -/
def XW (T : Tb) (w : Wd) (E : XK) : String → List D → Store → Prop := fun c fs S => ∀ w' H' cls dx, w.le w' → WR T w' S H' → XRep T w' H' c fs cls dx → E cls dx H'
theorem XW.le {T : Tb} {w w1 : Wd} {E : XK} (h : w.le w1) {c : String} {fs : List D} {S : Store} (x : XW T w E c fs S) : XW T w1 E c fs S := fun w' H' cls dx l r q => x w' H' cls dx (h.trans l) r q
/-- readings -/
def tI (T : Tb) (E : XK) (f : EX) : TE := fun σ H Q => ∃ w env S, WR T w S H ∧ ER T w env σ ∧ RP (f env S) (fun d S' => ∀ w' H' v, w.le w' → WR T w' S' H' → Rep T w' d v → Q v H') (XW T w E)
def tIb (T : Tb) (E : XK) (f : BX) : TT := fun σ H Q => ∃ w env S, WR T w S H ∧ ER T w env σ ∧ RP (f env S) (fun b S' => ∀ w' H', w.le w' → WR T w' S' H' → Q b H') (XW T w E)
def tIa (T : Tb) (E : XK) (f : AX) : TA := fun σ H Q => ∃ w env S, WR T w S H ∧ ER T w env σ ∧ RP (f env S) (fun ds S' => ∀ w' H' vs, w.le w' → WR T w' S' H' → Reps T w' ds vs → Q vs H') (XW T w E)
def CP (T : Tb) (w : Wd) (D : Ends) (c : Ctl) (S : Store) : Prop := match c with
  | .nx e => ∀ w' H' σ', w.le w' → WR T w' S H' → ER T w' e σ' → D.nx σ' H'
  | .bk e => ∀ w' H' σ', w.le w' → WR T w' S H' → ER T w' e σ' → D.bk σ' H'
  | .ct e => ∀ w' H' σ', w.le w' → WR T w' S H' → ER T w' e σ' → D.ct σ' H'
  | .rt d => ∀ w' H' v, w.le w' → WR T w' S H' → Rep T w' d v → D.rt v H'
def tIs (T : Tb) (E : XK) (f : ES) : TS := fun D σ H => ∃ w env S, WR T w S H ∧ ER T w env σ ∧ RP (f env S) (CP T w D) (XW T w E)
/-- judgements -/
def IE (T : Tb) (E : XK) (X : Cx) (e : Expr) (f : EX) : Prop := PE X e (tI T E f)
def IB (T : Tb) (E : XK) (X : Cx) (e : Expr) (f : BX) : Prop := PT X e (tIb T E f)
def IW (T : Tb) (E : XK) (X : Cx) (e : Expr) (f : BX) : Prop := PW X e (tIb T E f)
def IA (T : Tb) (E : XK) (X : Cx) (es : List Expr) (f : AX) : Prop := PA X es (tIa T E f)
def IS (T : Tb) (E : XK) (X : Cx) (st : Stmt) (f : ES) : Prop := PS X st (tIs T E f)
def ISs (T : Tb) (E : XK) (X : Cx) (sts : List Stmt) (f : ES) : Prop := PSs X sts (tIs T E f)
theorem PE.mono {X : Cx} {e : Expr} {t t' : TE} (h : PE X e t) (k : ∀ σ H Q, t' σ H Q → t σ H Q) : PE X e t' := ⟨fun pins s σ H Q I q => h.run pins s σ H Q I (k _ _ _ q)⟩
theorem PT.mono {X : Cx} {e : Expr} {t t' : TT} (h : PT X e t) (k : ∀ σ H Q, t' σ H Q → t σ H Q) : PT X e t' := ⟨fun pins s σ H Q I q => h.run pins s σ H Q I (k _ _ _ q)⟩
theorem PW.mono {X : Cx} {e : Expr} {t t' : TT} (h : PW X e t) (k : ∀ σ H Q, t' σ H Q → t σ H Q) : PW X e t' := ⟨fun wh pins s σ H Q I q => h.run wh pins s σ H Q I (k _ _ _ q)⟩
theorem PA.mono {X : Cx} {es : List Expr} {t t' : TA} (h : PA X es t) (k : ∀ σ H Q, t' σ H Q → t σ H Q) : PA X es t' := ⟨fun pos pins s σ H Q I q => h.run pos pins s σ H Q I (k _ _ _ q)⟩
theorem PS.mono {X : Cx} {st : Stmt} {t t' : TS} (h : PS X st t) (k : ∀ D σ H, t' D σ H → t D σ H) : PS X st t' := ⟨fun pins s σ H D I q => h.run pins s σ H D I (k _ _ _ q)⟩
theorem PSs.mono {X : Cx} {st : List Stmt} {t t' : TS} (h : PSs X st t) (k : ∀ D σ H, t' D σ H → t D σ H) : PSs X st t' := ⟨fun pins s σ H D I q => h.run pins s σ H D I (k _ _ _ q)⟩
theorem CellR.keep {T : Tb} {w w' : Wd} {H H' : Hp} {a : Addr} {c : Cell} (h : CellR T w H a c) (l : w.sb w') (k : ∀ o, H a = some o → H' a = some o) : CellR T w' H' a c := by
  cases c with
  | dead => trivial
  | lst l1 =>
    obtain ⟨vs, h1, h2⟩ := h
    exact ⟨vs, k _ h1, h2.monoS l⟩
  | dct l1 =>
    obtain ⟨vs, h1, h2⟩ := h
    exact ⟨vs, k _ h1, h2.monoS l⟩
  | ins c fs =>
    obtain ⟨dx, gs, h1, h2, h3⟩ := h
    exact ⟨dx, gs, k _ h1, h2, h3.monoS l⟩
  | dcT l1 =>
    obtain ⟨kvs, h1, h2, h3⟩ := h
    exact ⟨kvs, k _ h1, h2, h3.monoS l⟩
/-- neither a table nor a code object -/
def NoTab (o : HO) : Prop := (∀ ps, o ≠ .tbl ps) ∧ ∀ c q, o ≠ LamX.CodeO c q
theorem noTab_lst {xs : List V} : NoTab (.lst xs) := ⟨fun _ z => (by cases z), fun _ _ z => (by unfold LamX.CodeO at z; cases z)⟩
theorem noTab_dK {xs : List (Key × V)} : NoTab (.dK xs) := ⟨fun _ z => (by cases z), fun _ _ z => (by unfold LamX.CodeO at z; cases z)⟩
theorem noTab_dT {xs : List (List Key × V)} : NoTab (.dT xs) := ⟨fun _ z => (by cases z), fun _ _ z => (by unfold LamX.CodeO at z; cases z)⟩
theorem noTab_ins {C dx : Addr} {fs : List (Str × V)} : NoTab (.ins C dx fs) := ⟨fun _ z => (by cases z), fun _ _ z => (by unfold LamX.CodeO at z; cases z)⟩
theorem tabs_upd {ts : List (Addr × Str)} {H : Hp} {a : Addr} {o o' : HO} (t : LamX.Tabs ts H) (ha : H a = some o) (n : NoTab o) : LamX.Tabs ts (upd H a o') := fun p hp => by
  obtain ⟨ps, h1, h2, h3⟩ := t p hp
  refine ⟨ps, ?_, h2, fun pos cv hc => ?_⟩
  · rw [upd_ne (fun z => by rw [z, ha] at h1; exact n.1 _ (Option.some.inj h1))]
    exact h1
  · obtain ⟨c, e1, e2⟩ := h3 pos cv hc
    refine ⟨c, e1, ?_⟩
    rw [upd_ne (fun z => by rw [z, ha] at e2; exact n.2 _ _ (Option.some.inj e2))]
    exact e2
theorem tabs_new {ts : List (Addr × Str)} {H : Hp} {a : Addr} {o' : HO} (t : LamX.Tabs ts H) (ha : H a = none) : LamX.Tabs ts (upd H a o') := t.ext fun b o e => by
  rw [upd_ne (ne_of_none e ha)]
  exact e
theorem CellR.noTab {T : Tb} {w : Wd} {H : Hp} {a : Addr} {c : Cell} (h : CellR T w H a c) (hc : c ≠ .dead) : ∃ o, H a = some o ∧ NoTab o := by
  cases c with
  | dead => exact absurd rfl hc
  | lst l1 =>
    obtain ⟨vs, h1, h2⟩ := h
    exact ⟨_, h1, noTab_lst⟩
  | dct l1 =>
    obtain ⟨vs, h1, h2⟩ := h
    exact ⟨_, h1, noTab_dK⟩
  | dcT l1 =>
    obtain ⟨vs, h1, _⟩ := h
    exact ⟨_, h1, noTab_dT⟩
  | ins c fs =>
    obtain ⟨dx, gs, h1, h2, h3⟩ := h
    exact ⟨_, h1, noTab_ins⟩
section
variable {T : Tb} {w : Wd} {S : Store} {H : Hp} {p a : Addr} {o : HO}
theorem WR.free (r : WR T w S H) (hp : H p = none) : w.G p = none := by
  cases e : w.G p with
  | none => rfl
  | some o => rw [r.sub _ _ e] at hp; cases hp
/-- a new thing that stands still -/
theorem WR.new (r : WR T w S H) (hp : H p = none) (o : HO) (ho : ∀ ps, o ≠ .tbl ps := by intro _ z; cases z) : w.le ⟨upd w.G p o, w.am, w.hid⟩ ∧ WR T ⟨upd w.G p o, w.am, w.hid⟩ S (upd H p o) := by
  have hG := r.free hp
  have l : w.le ⟨upd w.G p o, w.am, w.hid⟩ := ⟨⟨fun a u e => by show upd w.G p o a = some u; rw [upd_ne (ne_of_none e hG)]; exact e, [], by simp⟩, rfl⟩
  have k : ∀ a u, H a = some u → upd H p o a = some u := fun a u e => by rw [upd_ne (ne_of_none e hp)]; exact e
  refine ⟨l, ?_, r.len, r.nd, fun a ha => ?_, fun n c a h1 h2 h3 => ?_, fun n c a h1 h2 => ?_, tabs_new r.tabs hp, r.hn, fun q hq => ?_, fun a ps e => ?_⟩
  · intro a u e
    have e : upd w.G p o a = some u := e
    by_cases h : a = p
    · subst h
      rw [upd_same] at e ⊢
      exact e
    · rw [upd_ne h] at e ⊢
      exact r.sub _ _ e
  · obtain ⟨u, e, nt⟩ := r.has a ha
    exact ⟨u, k _ _ e, nt⟩
  · show upd w.G p o a = none
    obtain ⟨u, e, _⟩ := (r.cell n c a h1 h2).noTab h3
    rw [upd_ne (ne_of_none e hp)]
    exact r.out n c a h1 h2 h3
  · exact (r.cell n c a h1 h2).keep l.tosb fun u e => k _ _ e
  · obtain ⟨z1, z2, vs, z3, z4⟩ := r.hd q hq
    refine ⟨?_, z2, vs, k _ _ z3, z4.mono l⟩
    show upd w.G p o q.1 = none
    rw [upd_ne (ne_of_none z3 hp)]
    exact z1
  · have e : upd w.G p o a = some (.tbl ps) := e
    by_cases h : a = p
    · rw [h, upd_same] at e
      exact ho ps (Option.some.inj e)
    · rw [upd_ne h] at e
      exact r.nt a ps e
/-- .. and its like, by the heap alone -/
theorem WR.grow {H' : Hp} (r : WR T w S H) (k : ∀ a u, H a = some u → H' a = some u) : WR T w S H' :=
  ⟨fun a u e => k _ _ (r.sub _ _ e), r.len, r.nd, fun a ha => (r.has a ha).elim fun u e => ⟨u, k _ _ e.1, e.2⟩, r.out, fun n c a h1 h2 => (r.cell n c a h1 h2).keep (Wd.le.refl _).tosb fun u e => k _ _ e, r.tabs.ext k, r.hn, fun q hq => (r.hd q hq).elim fun z1 z => ⟨z1, z.1, z.2.elim fun vs z => ⟨vs, k _ _ z.1, z.2⟩⟩, r.nt⟩
/-- a new thing that will change -/
theorem WR.alloc (r : WR T w S H) (hp : H p = none) {o : HO} {c : Cell} (hc : CellR T ⟨w.G, w.am ++ [p], w.hid⟩ (upd H p o) p c) (ho : ∀ ps, o ≠ .tbl ps := by intro _ z; cases z) :
    w.le ⟨w.G, w.am ++ [p], w.hid⟩ ∧ WR T ⟨w.G, w.am ++ [p], w.hid⟩ (S ++ [c]) (upd H p o) ∧ (w.am ++ [p])[S.length]? = some p := by
  have l : w.le ⟨w.G, w.am ++ [p], w.hid⟩ := Wd.le.app w p
  have k : ∀ a u, H a = some u → upd H p o a = some u := fun a u e => by rw [upd_ne (ne_of_none e hp)]; exact e
  have hn : p ∉ w.am := fun z => by
    obtain ⟨u, e, _⟩ := r.has p z
    rw [hp] at e
    cases e
  have at_ : (w.am ++ [p])[S.length]? = some p := by rw [← r.len]; simp
  refine ⟨l, ⟨fun a u e => k _ _ (r.sub _ _ e), by simp [r.len], ?_, fun a ha => ?_, fun n c1 a h1 h2 h3 => ?_, fun n c1 a h1 h2 => ?_, tabs_new r.tabs hp, r.hn, fun q hq => ?_, r.nt⟩, at_⟩
  · exact List.nodup_append.mpr ⟨r.nd, by simp, fun a ha b hb => by
      have e : b = p := by simpa using hb
      subst e
      exact fun z => hn (z ▸ ha)⟩
  · rcases List.mem_append.mp ha with ha | ha
    · obtain ⟨u, e, nt⟩ := r.has a ha
      exact ⟨u, k _ _ e, nt⟩
    · have e : a = p := by simpa using ha
      subst e
      exact ⟨o, upd_same, ho⟩
  · have h2 : (w.am ++ [p])[n]? = some a := h2
    by_cases hl : n < S.length
    · rw [List.getElem?_append_left hl] at h1
      rw [List.getElem?_append_left (by rw [r.len]; exact hl)] at h2
      exact r.out n c1 a h1 h2 h3
    · have hle := (List.getElem?_eq_some_iff.mp h1).1
      rw [List.length_append, List.length_singleton] at hle
      have e : n = S.length := by omega
      subst e
      rw [at_] at h2
      cases h2
      exact r.free hp
  · have h2 : (w.am ++ [p])[n]? = some a := h2
    by_cases hl : n < S.length
    · rw [List.getElem?_append_left hl] at h1
      rw [List.getElem?_append_left (by rw [r.len]; exact hl)] at h2
      exact (r.cell n c1 a h1 h2).keep l.tosb fun u e => k _ _ e
    · have hle := (List.getElem?_eq_some_iff.mp h1).1
      rw [List.length_append, List.length_singleton] at hle
      have e : n = S.length := by omega
      subst e
      rw [at_] at h2
      cases h2
      have e1 : c1 = c := by
        rw [List.getElem?_append_right (Nat.le_refl _)] at h1
        simpa using h1.symm
      subst e1
      exact hc
  · obtain ⟨z1, z2, vs, z3, z4⟩ := r.hd q hq
    refine ⟨z1, fun z => ?_, vs, k _ _ z3, z4.mono l⟩
    rcases List.mem_append.mp z with z | z
    · exact z2 z
    · have e : q.1 = p := by simpa using z
      rw [e, hp] at z3
      cases z3
theorem WR.at_ne (r : WR T w S H) {n m : Nat} {a b : Addr} (h1 : w.am[n]? = some a) (h2 : w.am[m]? = some b) (h : n ≠ m) : a ≠ b := fun z => by
  subst z
  obtain ⟨l1, e1⟩ := List.getElem?_eq_some_iff.mp h1
  obtain ⟨l2, e2⟩ := List.getElem?_eq_some_iff.mp h2
  exact h ((List.getElem_inj r.nd).mp (e1.trans e2.symm))
/-- a thing is changed -/
theorem WR.write (r : WR T w S H) {n : Nat} {c c' : Cell} (hS : S[n]? = some c) (ha : w.am[n]? = some a) (hd : c ≠ .dead) {o' : HO} (hc : CellR T w (upd H a o') a c') (ho' : ∀ ps, o' ≠ .tbl ps := by intro _ z; cases z) : WR T w (S.set n c') (upd H a o') := by
  obtain ⟨o, e, nt⟩ := (r.cell n c a hS ha).noTab hd
  have hG := r.out n c a hS ha hd
  have hl := (List.getElem?_eq_some_iff.mp hS).1
  refine ⟨fun b u q => ?_, by rw [List.length_set]; exact r.len, r.nd, fun b hb => ?_, fun m c1 b h1 h2 h3 => ?_, fun m c1 b h1 h2 => ?_, tabs_upd r.tabs e nt, r.hn, fun q hq => ?_, r.nt⟩
  · rw [upd_ne (ne_of_none q hG)]
    exact r.sub _ _ q
  · obtain ⟨u, q, nt⟩ := r.has b hb
    by_cases h : b = a
    · subst h
      exact ⟨o', upd_same, ho'⟩
    · exact ⟨u, by rw [upd_ne h]; exact q, nt⟩
  · by_cases h : m = n
    · subst h
      rw [ha] at h2
      cases h2
      exact hG
    · rw [List.getElem?_set_ne (Ne.symm h)] at h1
      exact r.out m c1 b h1 h2 h3
  · by_cases h : m = n
    · subst h
      rw [ha] at h2
      cases h2
      rw [List.getElem?_set_self hl] at h1
      cases h1
      exact hc
    · rw [List.getElem?_set_ne (Ne.symm h)] at h1
      have hne := r.at_ne h2 ha h
      exact (r.cell m c1 b h1 h2).keep (Wd.le.refl _).tosb fun u q => by rw [upd_ne hne]; exact q
  · obtain ⟨z1, z2, vs, z3, z4⟩ := r.hd q hq
    exact ⟨z1, z2, vs, by rw [upd_ne (fun z => z2 (by rw [z]; exact List.mem_of_getElem? ha))]; exact z3, z4⟩
/-- a thing stands still from now on -/
theorem WR.freeze (r : WR T w S H) {n : Nat} {c : Cell} (hS : S[n]? = some c) (ha : w.am[n]? = some a) (hd : c ≠ .dead) (ho : H a = some o) : w.le ⟨upd w.G a o, w.am, w.hid⟩ ∧ WR T ⟨upd w.G a o, w.am, w.hid⟩ (S.set n .dead) H := by
  have hG := r.out n c a hS ha hd
  have hl := (List.getElem?_eq_some_iff.mp hS).1
  have l : w.le ⟨upd w.G a o, w.am, w.hid⟩ := ⟨⟨fun b u e => by show upd w.G a o b = some u; rw [upd_ne (ne_of_none e hG)]; exact e, [], by simp⟩, rfl⟩
  refine ⟨l, fun b u e => ?_, by rw [List.length_set]; exact r.len, r.nd, r.has, fun m c1 b h1 h2 h3 => ?_, fun m c1 b h1 h2 => ?_, r.tabs, r.hn, fun q hq => ?_, fun b ps e => ?_⟩
  · have e : upd w.G a o b = some u := e
    by_cases h : b = a
    · subst h
      rw [upd_same] at e
      rw [← e]
      exact ho
    · rw [upd_ne h] at e
      exact r.sub _ _ e
  · have h2 : w.am[m]? = some b := h2
    by_cases h : m = n
    · subst h
      rw [List.getElem?_set_self hl] at h1
      cases h1
      exact absurd rfl h3
    · rw [List.getElem?_set_ne (Ne.symm h)] at h1
      show upd w.G a o b = none
      rw [upd_ne (r.at_ne h2 ha h)]
      exact r.out m c1 b h1 h2 h3
  · have h2 : w.am[m]? = some b := h2
    by_cases h : m = n
    · subst h
      rw [List.getElem?_set_self hl] at h1
      cases h1
      trivial
    · rw [List.getElem?_set_ne (Ne.symm h)] at h1
      exact (r.cell m c1 b h1 h2).keep l.tosb fun _ q => q
  · obtain ⟨z1, z2, vs, z3, z4⟩ := r.hd q hq
    refine ⟨?_, z2, vs, z3, z4.mono l⟩
    show upd w.G a o q.1 = none
    rw [upd_ne (fun z => z2 (by rw [z]; exact List.mem_of_getElem? ha))]
    exact z1
  · have e : upd w.G a o b = some (.tbl ps) := e
    by_cases h : b = a
    · rw [h, upd_same] at e
      cases e
      obtain ⟨u, q, nt⟩ := (r.cell n c a hS ha).noTab hd
      rw [ho] at q
      cases q
      exact nt.1 ps rfl
    · rw [upd_ne h] at e
      exact r.nt b ps e
end
theorem sqt_sub {T : Tb} {w : Wd} {S : Store} {H : Hp} (r : WR T w S H) {a : Addr} {xs : List V} (h : SqT T.K w.G a xs) : SqT T.K H a xs := h.elim (fun h => .inl (h.elim (fun h => .inl (r.sub _ _ h)) fun ⟨o, h⟩ => .inr ⟨o, r.sub _ _ h⟩)) .inr
theorem sql_sub {T : Tb} {w : Wd} {S : Store} {H : Hp} (r : WR T w S H) {a : Addr} {xs : List V} (h : SqL T.K w.G a xs) : SqL T.K H a xs := h.elim (fun h => .inl (h.elim (fun h => .inl (r.sub _ _ h)) fun ⟨o, h⟩ => .inr ⟨o, r.sub _ _ h⟩)) .inr
end Ro
end
section
set_option Elab.async false
set_option linter.all false
set_option maxRecDepth 100000
set_option maxHeartbeats 4000000
namespace Ro
open PySem PySem.Spec PyProof.Rows L2
variable {T : Tb} {E : XK} {X : Cx} {a b c : Expr} {es : List Expr} {f g h : EX} {fa : AX} {fb gb : BX} {pos : Pos}
/-- two expressions in a row -/
theorem tI_two {k : D → D → Store → R D} {σ : St} {H : Hp} {Q : VK} (q : tI T E (fun env S => (f env S).bnd fun x S1 => (g env S1).bnd fun y S2 => k x y S2) σ H Q) :
    tI T E f σ H fun x H1 => tI T E g σ H1 fun y H2 => ∃ w d e S, WR T w S H2 ∧ Rep T w d x ∧ Rep T w e y ∧ RP (k d e S) (fun d S' => ∀ w' H' v, w.le w' → WR T w' S' H' → Rep T w' d v → Q v H') (XW T w E) := by
  obtain ⟨w, env, S, r, e, h⟩ := q
  refine ⟨w, env, S, r, e, (RP.bnd h).mono (fun d S1 h1 w1 H1 x l1 r1 p1 => ⟨w1, env, S1, r1, e.mono l1, (RP.bnd h1).mono (fun d2 S2 h2 w2 H2 y l2 r2 p2 => ⟨w2, d, d2, S2, r2, p1.mono l2, p2, ?_⟩) (fun _ _ _ x => x.le l1)⟩) (fun _ _ _ x => x)⟩
  exact h2.mono (fun d S' q w' H' v l => q w' H' v ((l1.trans l2).trans l)) fun _ _ _ x => x.le (l1.trans l2)
theorem ie_var {i : Nat} {x : Str} (hN : X.N[i]? = some x) (hv : Vis X.env.scope x) (hd : (x == ("__debug__" : Str)) = false := by decide +kernel) (hcd : (x == ("__classdict__" : Str)) = false := by decide +kernel) : IE T E X (.Name x pos) (eVar i) :=
  PE.mono (pe_var hN hv hd hcd) fun σ H Q ⟨w, env, S, r, e, q⟩ => by
    unfold eVar at q
    cases z : env[i]? with
    | none => rw [z] at q; exact q.elim
    | some o =>
      rw [z] at q
      cases o with
      | none => exact q.elim
      | some d =>
        obtain ⟨v, h1, h2⟩ := e.2 i d z
        exact ⟨v, h1, q w H v (Wd.le.refl _) r h2⟩
theorem ie_c {e : Expr} {d : D} {v : V} (h : PE X e (tC v)) (k : ∀ w, Rep T w d v) : IE T E X e (eC d) :=
  PE.mono h fun σ H Q ⟨w, env, S, r, e, q⟩ => q w H v (Wd.le.refl _) r (k w)
theorem ie_int {i : Int} {j : Nat} : IE T E X (.Constant (.int i) j pos) (eC (.int i)) := ie_c pe_int fun _ => .int i
theorem ie_bl {i : Bool} {j : Nat} : IE T E X (.Constant (.bool i) j pos) (eC (.bl i)) := ie_c pe_bl fun _ => .bl i
theorem ie_non {j : Nat} : IE T E X (.Constant .none j pos) (eC .non) := ie_c pe_non fun _ => .non
theorem ie_str {i : Str} {j : Nat} : IE T E X (.Constant (.str i) j pos) (eC (.str i)) := ie_c pe_str fun _ => .str i
theorem ie_glob {x : Str} {d : D} {v : V} {u : Value} (hg : Gl X x) (hm : X.mg x = some u) (r : RelV v u) (k : ∀ w, Rep T w d v) (hd : (x == ("__debug__" : Str)) = false := by decide +kernel) : IE T E X (.Name x pos) (eC d) := ie_c (pe_glob hg hm r hd) k
def rOp (T : Tb) (op : D → D → Option D) : R2 := fun x y H Q => ∃ w d e r S, WR T w S H ∧ Rep T w d x ∧ Rep T w e y ∧ op d e = some r ∧ ∀ w' H' z, w.le w' → WR T w' S H' → Rep T w' r z → Q z H'
theorem rOp_of {op : D → D → Option D} {w : Wd} {d e : D} {S : Store} {x y : V} {H : Hp} {Q : VK} (r : WR T w S H) (p : Rep T w d x) (q : Rep T w e y) (h : RP (lift (op d e) S) (fun d S' => ∀ w' H' v, w.le w' → WR T w' S' H' → Rep T w' d v → Q v H') (XW T w E)) : rOp T op x y H Q := by
  cases z : op d e with
  | none => rw [z] at h; exact h.elim
  | some k => rw [z] at h; exact ⟨w, d, e, k, S, r, p, q, z, fun w' H' v l r' p' => h w' H' v l r' p'⟩
theorem ie_op {o : Operator} {op : D → D → Option D} (ho : OpR X (binaryOp o) (rOp T op)) (ha : IE T E X a f) (hb : IE T E X b g) : IE T E X (.BinOp a o b pos) (eOp op f g) :=
  PE.mono (pe_op ho ha hb) fun σ H Q q => by
    have q2 := tI_two (k := fun x y S => lift (op x y) S) q
    obtain ⟨w, env, S, r, e, h⟩ := q2
    refine ⟨w, env, S, r, e, h.mono (fun d S1 h1 w1 H1 x l1 r1 p1 => ?_) fun _ _ _ x => x⟩
    obtain ⟨w2, env2, S2, r2, e2, h2⟩ := h1 w1 H1 x l1 r1 p1
    refine ⟨w2, env2, S2, r2, e2, h2.mono (fun d S1 h1 w1 H1 x l1 r1 p1 => ?_) fun _ _ _ x => x⟩
    obtain ⟨w3, d3, e3, S3, r3, p3, q3, h3⟩ := h1 w1 H1 x l1 r1 p1
    exact rOp_of r3 p3 q3 h3
theorem ie_cmp {o : CmpOp} {op : D → D → Option D} (ho : OpR X (compareOp o) (rOp T op)) (ha : IE T E X a f) (hb : IE T E X b g) (hm : behindInMarks o b = false) : IE T E X (.Compare a [o] [b] pos) (eOp op f g) :=
  PE.mono (pe_cmpR ho ha hb hm) fun σ H Q q => by
    have q2 := tI_two (k := fun x y S => lift (op x y) S) q
    obtain ⟨w, env, S, r, e, h⟩ := q2
    refine ⟨w, env, S, r, e, h.mono (fun d S1 h1 w1 H1 x l1 r1 p1 => ?_) fun _ _ _ x => x⟩
    obtain ⟨w2, env2, S2, r2, e2, h2⟩ := h1 w1 H1 x l1 r1 p1
    refine ⟨w2, env2, S2, r2, e2, h2.mono (fun d S1 h1 w1 H1 x l1 r1 p1 => ?_) fun _ _ _ x => x⟩
    obtain ⟨w3, d3, e3, S3, r3, p3, q3, h3⟩ := h1 w1 H1 x l1 r1 p1
    exact rOp_of r3 p3 q3 h3
/-- a value of a test -/
theorem tI_bVal {σ : St} {H : Hp} {Q : Bool → Hp → Prop} (q : tIb T E (bVal f) σ H Q) : tI T E f σ H fun x H1 => ∃ k, x = .bl k ∧ Q k H1 := by
  obtain ⟨w, env, S, r, e, h⟩ := q
  refine ⟨w, env, S, r, e, (RP.bnd h).mono (fun d S1 h1 w1 H1 x l1 r1 p1 => ?_) (fun _ _ _ x => x)⟩
  cases p1 with
  | bl k => exact ⟨k, rfl, h1 w1 H1 l1 r1⟩
  | _ => exact h1.elim
theorem ib_cmp {o : CmpOp} {op : D → D → Option D} (ho : OpR X (compareOp o) (rOp T op)) (ha : IE T E X a f) (hb : IE T E X b g) (hm : behindInMarks o b = false) : IB T E X (.Compare a [o] [b] pos) (bVal (eOp op f g)) :=
  PT.mono (pt_cmpR ho ha hb hm) fun σ H Q q => by
    have q2 := tI_two (k := fun x y S => lift (op x y) S) (tI_bVal q)
    obtain ⟨w, env, S, r, e, h⟩ := q2
    refine ⟨w, env, S, r, e, h.mono (fun d S1 h1 w1 H1 x l1 r1 p1 => ?_) fun _ _ _ x => x⟩
    obtain ⟨w2, env2, S2, r2, e2, h2⟩ := h1 w1 H1 x l1 r1 p1
    refine ⟨w2, env2, S2, r2, e2, h2.mono (fun d S1 h1 w1 H1 x l1 r1 p1 => ?_) fun _ _ _ x => x⟩
    obtain ⟨w3, d3, e3, S3, r3, p3, q3, h3⟩ := h1 w1 H1 x l1 r1 p1
    exact rOp_of r3 p3 q3 h3
/-- an expression that is a bool, as a test -/
theorem ib_val (he : IE T E X a f) (hw : ∀ whole, isTrue a X.env whole = (do let v ← whole; standAt a.pos; holding [v] (truthy v)) := by intro _; rfl) : IB T E X a (bVal f) :=
  PT.mono (pt_val he hw) fun σ H Q q => tI_bVal q
theorem iw_pt (h : IW T E X a fb) : IB T E X a fb := PW.pt h
theorem ib_not (h : IB T E X a fb) : IB T E X (.UnaryOp .Not a pos) (bNot fb) :=
  PT.mono (pt_not h) fun σ H Q ⟨w, env, S, r, e, q⟩ => ⟨w, env, S, r, e, (RP.bnd q).mono (fun _ _ h1 => h1) fun _ _ _ x => x⟩
theorem iw_and1 (h : IB T E X a fb) : IW T E X (.BoolOp .And [a] pos) fb := pw_and1 h
theorem iw_or1 (h : IB T E X a fb) : IW T E X (.BoolOp .Or [a] pos) fb := pw_or1 h
theorem iw_and (h : IB T E X a fb) (h2 : IW T E X (.BoolOp .And (b :: es) pos) gb) : IW T E X (.BoolOp .And (a :: b :: es) pos) (bAnd fb gb) :=
  PW.mono (pw_and h h2) fun σ H Q ⟨w, env, S, r, e, q⟩ => ⟨w, env, S, r, e, (RP.bnd q).mono (fun k S1 h1 w1 H1 l1 r1 => by
    cases k with
    | true => exact ⟨w1, env, S1, r1, e.mono l1, RP.mono h1 (fun k2 S2 h2 w2 H2 l2 r2 => h2 w2 H2 (l1.trans l2) r2) fun _ _ _ x => x.le l1⟩
    | false => exact h1 w1 H1 l1 r1) fun _ _ _ x => x⟩
theorem iw_or (h : IB T E X a fb) (h2 : IW T E X (.BoolOp .Or (b :: es) pos) gb) : IW T E X (.BoolOp .Or (a :: b :: es) pos) (bOr fb gb) :=
  PW.mono (pw_or h h2) fun σ H Q ⟨w, env, S, r, e, q⟩ => ⟨w, env, S, r, e, (RP.bnd q).mono (fun k S1 h1 w1 H1 l1 r1 => by
    cases k with
    | false => exact ⟨w1, env, S1, r1, e.mono l1, RP.mono h1 (fun k2 S2 h2 w2 H2 l2 r2 => h2 w2 H2 (l1.trans l2) r2) fun _ _ _ x => x.le l1⟩
    | true => exact h1 w1 H1 l1 r1) fun _ _ _ x => x⟩
theorem ie_one {o : BoolOp} (h : IE T E X a f) : IE T E X (.BoolOp o [a] pos) f := pe_one h
theorem ie_and (h : IE T E X a f) (h2 : IE T E X (.BoolOp .And (b :: es) pos) g) : IE T E X (.BoolOp .And (a :: b :: es) pos) (eAnd f g) :=
  PE.mono (pe_and h h2) fun σ H Q ⟨w, env, S, r, e, q⟩ => ⟨w, env, S, r, e, (RP.bnd q).mono (fun d S1 h1 w1 H1 x l1 r1 p1 => by
    cases p1 with
    | bl k =>
      refine ⟨k, rfl, ?_⟩
      cases k with
      | true => exact ⟨w1, env, S1, r1, e.mono l1, RP.mono h1 (fun k2 S2 h2 w2 H2 v l2 r2 => h2 w2 H2 v (l1.trans l2) r2) fun _ _ _ x => x.le l1⟩
      | false => exact h1 w1 H1 _ l1 r1 (.bl false)
    | _ => exact (show False from h1).elim) fun _ _ _ x => x⟩
theorem ie_not (h : IE T E X a f) : IE T E X (.UnaryOp .Not a pos) (eNot f) :=
  PE.mono (pe_not h) fun σ H Q ⟨w, env, S, r, e, q⟩ => ⟨w, env, S, r, e, (RP.bnd q).mono (fun d S1 h1 w1 H1 x l1 r1 p1 => by
    cases p1 with
    | bl k => exact ⟨k, rfl, h1 w1 H1 _ l1 r1 (.bl (!k))⟩
    | _ => exact (show False from h1).elim) fun _ _ _ x => x⟩
end Ro
end
section
set_option Elab.async false
set_option linter.all false
set_option maxRecDepth 100000
set_option maxHeartbeats 4000000
namespace Ro
open PySem PySem.Spec PyProof.Rows L2
variable {T : Tb} {E : XK} {X : Cx} {a b c : Expr} {es : List Expr} {f g h : EX} {fa ga : AX} {fb gb : BX} {pos : Pos}
theorem ia_nil : IA T E X [] aNil := PA.mono pa_nil fun σ H Q ⟨w, env, S, r, e, q⟩ => q w H [] (Wd.le.refl _) r .nil
theorem ia_cons (ha : IE T E X a f) (hr : IA T E X es fa) (hs : starEach (a :: es) X.env = (false, eval a X.env) :: starEach es X.env := by rfl) : IA T E X (a :: es) (aCons f fa) :=
  PA.mono (pa_cons ha hr hs) fun σ H Q ⟨w, env, S, r, e, q⟩ => ⟨w, env, S, r, e, (RP.bnd q).mono (fun d S1 h1 w1 H1 x l1 r1 p1 => ⟨w1, env, S1, r1, e.mono l1, (RP.bnd h1).mono (fun ds S2 h2 w2 H2 xs l2 r2 p2 => h2 w2 H2 _ (l1.trans l2) r2 (.cons (p1.mono l2) p2)) fun _ _ _ x => x.le l1⟩) fun _ _ _ x => x⟩
theorem ie_tup {k : Nat} (h : IA T E X es fa) : IE T E X (.Tuple es k pos) (eTup fa) :=
  PE.mono (pe_tup h) fun σ H Q ⟨w, env, S, r, e, q⟩ => ⟨w, env, S, r, e, (RP.bnd q).mono (fun ds S1 h1 w1 H1 xs l1 r1 p1 => by
    by_cases hl : ds.length ≤ LINE
    · rw [if_pos hl] at h1
      refine ⟨by rw [sizeLine_eq, ← p1.length]; exact hl, fun p hp => ?_⟩
      obtain ⟨l2, r2⟩ := r1.new hp (.tup xs)
      exact h1 _ _ _ (l1.trans l2) r2 (.tup (.inl (.inl upd_same)) (p1.mono l2))
    · rw [if_neg hl] at h1
      exact (show False from h1).elim) fun _ _ _ x => x⟩
theorem ie_lst (h : IA T E X es fa) : IE T E X (.List es pos) (eLst fa) :=
  PE.mono (pe_lst h) fun σ H Q ⟨w, env, S, r, e, q⟩ => ⟨w, env, S, r, e, (RP.bnd q).mono (fun ds S1 h1 w1 H1 xs l1 r1 p1 => by
    by_cases hl : ds.length ≤ LINE
    · rw [if_pos hl] at h1
      refine ⟨by rw [sizeLine_eq, ← p1.length]; exact hl, fun p hp => ?_⟩
      obtain ⟨l2, r2⟩ := r1.new hp (.lst xs)
      exact h1 _ _ _ (l1.trans l2) r2 (.lst upd_same (p1.mono l2))
    · rw [if_neg hl] at h1
      exact (show False from h1).elim) fun _ _ _ x => x⟩
theorem ie_lstM (h : IA T E X es fa) : IE T E X (.List es pos) (eLstM fa) :=
  PE.mono (pe_lst h) fun σ H Q ⟨w, env, S, r, e, q⟩ => ⟨w, env, S, r, e, (RP.bnd q).mono (fun ds S1 h1 w1 H1 xs l1 r1 p1 => by
    by_cases hl : ds.length ≤ LINE
    · rw [if_pos hl] at h1
      refine ⟨by rw [sizeLine_eq, ← p1.length]; exact hl, fun p hp => ?_⟩
      obtain ⟨l2, r2, at_⟩ := r1.alloc (o := .lst xs) (c := .lst ds) hp ⟨xs, upd_same, p1.mono (Wd.le.app _ _)⟩
      exact h1 _ _ _ (l1.trans l2) r2 (.ref at_)
    · rw [if_neg hl] at h1
      exact (show False from h1).elim) fun _ _ _ x => x⟩
theorem rd_chain {op op' : D → D → Option D} {σ : St} {H : Hp} {Q : VK} (q : tI T E (eChain op op' f g h) σ H Q) : tChain (rOp T op) (rOp T op') (tI T E f) (tI T E g) (tI T E h) σ H Q := by
  obtain ⟨w, env, S, r, e, q⟩ := q
  refine ⟨w, env, S, r, e, (RP.bnd q).mono (fun d S1 h1 w1 H1 x l1 r1 p1 => ⟨w1, env, S1, r1, e.mono l1, (RP.bnd h1).mono (fun d2 S2 h2 w2 H2 y l2 r2 p2 => ?_) (fun _ _ _ x => x.le l1)⟩) (fun _ _ _ x => x)⟩
  cases z : op d d2 with
  | none => rw [z] at h2; exact (show False from h2).elim
  | some k =>
    rw [z] at h2
    refine ⟨w2, d, d2, k, S2, r2, p1.mono l2, p2, z, fun w3 H3 v l3 r3 p3 => ?_⟩
    cases p3 with
    | bl kk =>
      refine ⟨kk, rfl, ?_⟩
      cases kk with
      | true =>
        rw [if_pos rfl]
        refine ⟨w3, env, S2, r3, e.mono ((l1.trans l2).trans l3), (RP.bnd h2).mono (fun d3 S3 h3 w4 H4 v4 l4 r4 p4 => ?_) fun _ _ _ x => x.le ((l1.trans l2).trans l3)⟩
        have := rOp_of (E := E) (Q := Q) r4 (p2.mono (l3.trans l4)) p4 (RP.mono h3 (fun d S' q w' H' v l => q w' H' v ((((l1.trans l2).trans l3).trans l4).trans l)) fun _ _ _ x => x.le (((l1.trans l2).trans l3).trans l4))
        exact this
      | false =>
        rw [if_neg Bool.false_ne_true]
        exact h2 w3 H3 _ ((l1.trans l2).trans l3) r3 (.bl false)
    | _ => exact (show False from h2).elim
theorem ie_chain {o o' : CmpOp} {op op' : D → D → Option D} (ho : OpR X (compareOp o) (rOp T op)) (ho' : OpR X (compareOp o') (rOp T op')) (ha : IE T E X a f) (hb : IE T E X b g) (hc : IE T E X c h) (hm : lastMarks [o, o'] [b, c] = false := by with_unfolding_all rfl) : IE T E X (.Compare a [o, o'] [b, c] pos) (eChain op op' f g h) :=
  PE.mono (pe_chain (pos := pos) ho ho' ha hb hc hm) fun σ H Q q => rd_chain q
theorem ib_chain {o o' : CmpOp} {op op' : D → D → Option D} (ho : OpR X (compareOp o) (rOp T op)) (ho' : OpR X (compareOp o') (rOp T op')) (ha : IE T E X a f) (hb : IE T E X b g) (hc : IE T E X c h) (hm : lastMarks [o, o'] [b, c] = false := by with_unfolding_all rfl) : IB T E X (.Compare a [o, o'] [b, c] pos) (bVal (eChain op op' f g h)) :=
  PT.mono (pt_chain (pos := pos) ho ho' ha hb hc hm) fun σ H Q q => rd_chain (tI_bVal q)
variable {st : Stmt} {sts rest : List Stmt} {s t : ES}
theorem CP.le {w w' : Wd} {D : Ends} {c : Ctl} {S : Store} (l : w.le w') (h : CP T w D c S) : CP T w' D c S := by
  cases c with
  | nx e => exact fun w2 H2 σ2 l2 => h w2 H2 σ2 (l.trans l2)
  | rt d => exact fun w2 H2 v l2 => h w2 H2 v (l.trans l2)
  | bk e => exact fun w2 H2 σ2 l2 => h w2 H2 σ2 (l.trans l2)
  | ct e => exact fun w2 H2 σ2 l2 => h w2 H2 σ2 (l.trans l2)
theorem is_one (h : IS T E X st s) : ISs T E X [st] s := pss_one h
theorem is_nil : ISs T E X [] sPass := PSs.mono pss_nil fun D σ H ⟨w, env, S, r, e, q⟩ => q w H σ (Wd.le.refl _) r e
theorem is_cons (h1 : IS T E X st s) (h2 : ISs T E X rest t) : ISs T E X (st :: rest) (sSeq s t) :=
  PSs.mono (pss_cons h1 h2) fun D σ H ⟨w, env, S, r, e, q⟩ => ⟨w, env, S, r, e, (RP.bnd q).mono (fun c S1 h1 => by
    cases c with
    | nx e1 => exact fun w1 H1 σ1 l1 r1 p1 => ⟨w1, e1, S1, r1, p1, RP.mono h1 (fun c S2 h2 => CP.le l1 h2) fun _ _ _ x => x.le l1⟩
    | rt d => exact h1
    | bk e => exact h1
    | ct e => exact h1) fun _ _ _ x => x⟩
theorem is_set {i : Nat} {x : Str} {p' : Pos} (hN : X.N.Nodup) (hi : X.N[i]? = some x) (hx : Loc X.env.scope x) (he : IE T E X a f) (hs : swapsWith a (some (.Name x p')) pos.line X.env = pure false := by rfl) (hf : X.fn x = true ∨ X.env.scope.names.lookup x = some .local := by first | exact .inl rfl | exact .inr rfl | assumption) :
    IS T E X (.Assign [.Name x p'] a pos) (sSet i f) :=
  PS.mono (ps_set hN hi hx he hs hf) fun D σ H ⟨w, env, S, r, e, q⟩ => ⟨w, env, S, r, e, (RP.bnd q).mono (fun d S1 h1 w1 H1 v l1 r1 p1 => h1 w1 H1 _ l1 r1 ((e.mono l1).set p1 i)) fun _ _ _ x => x⟩
theorem is_ret (he : IE T E X a f) : IS T E X (.Return (some a) pos) (sRet f) :=
  PS.mono (ps_ret he) fun D σ H ⟨w, env, S, r, e, q⟩ => ⟨w, env, S, r, e, (RP.bnd q).mono (fun d S1 h1 w1 H1 v l1 r1 p1 => h1 w1 H1 v l1 r1 p1) fun _ _ _ x => x⟩
theorem is_expr (he : IE T E X a f) (hs : swapsWith a none pos.line X.env = pure false := by rfl) : IS T E X (.Expr a pos) (sExpr f) :=
  PS.mono (ps_expr he hs) fun D σ H ⟨w, env, S, r, e, q⟩ => ⟨w, env, S, r, e, (RP.bnd q).mono (fun d S1 h1 w1 H1 v l1 r1 p1 => h1 w1 H1 _ l1 r1 (e.mono l1)) fun _ _ _ x => x⟩
theorem is_if {bs cs : List Stmt} (hc : IB T E X c fb) (ha : ISs T E X bs s) (hb : ISs T E X cs t) : IS T E X (.If c bs cs pos) (sIf fb s t) :=
  PS.mono (ps_if hc ha hb) fun D σ H ⟨w, env, S, r, e, q⟩ => ⟨w, env, S, r, e, (RP.bnd q).mono (fun k S1 h1 w1 H1 l1 r1 => by
    cases k with
    | true => exact ⟨w1, env, S1, r1, e.mono l1, RP.mono h1 (fun c S2 h2 => CP.le l1 h2) fun _ _ _ x => x.le l1⟩
    | false => exact ⟨w1, env, S1, r1, e.mono l1, RP.mono h1 (fun c S2 h2 => CP.le l1 h2) fun _ _ _ x => x.le l1⟩) fun _ _ _ x => x⟩
theorem wipe_len (σ : St) : ∀ vs : List Nat, (wipe σ vs).length = σ.length := wipe_length σ
theorem wipe_get (σ : St) (j : Nat) : ∀ vs : List Nat, (wipe σ vs)[j]? = if j ∈ vs then (if j < σ.length then some none else none) else σ[j]?
  | [] => by simp [wipe]
  | v :: vs => by
    show ((wipe σ vs).set v none)[j]? = _
    by_cases h : v = j
    · subst h
      rw [List.getElem?_set]
      simp [wipe_len]
    · rw [List.getElem?_set_ne h, wipe_get σ j vs]
      have e : (j ∈ v :: vs) ↔ j ∈ vs := by simp [Ne.symm h]
      simp only [e]
theorem wipe_set {σ : St} {i : Nat} {x : Option V} {vs : List Nat} (h : i ∈ vs) : wipe (σ.set i x) vs = wipe σ vs := by
  apply List.ext_getElem?
  intro j
  rw [wipe_get, wipe_get, List.length_set]
  by_cases hj : j ∈ vs
  · rw [if_pos hj, if_pos hj]
  · rw [if_neg hj, if_neg hj, List.getElem?_set_ne (fun z => hj (by rw [← z]; exact h))]
theorem wipe_wipe (σ : St) (vs : List Nat) : wipe (wipe σ vs) vs = wipe σ vs := by
  apply List.ext_getElem?
  intro j
  rw [wipe_get, wipe_get, wipe_len]
  by_cases hj : j ∈ vs
  · rw [if_pos hj, if_pos hj]
  · rw [if_neg hj, if_neg hj]
def gI (T : Tb) (vs : List Nat) (p : Pat) : TG := fun v σ H Q => ∃ w env S d e, WR T w S H ∧ ER T w env σ ∧ Rep T w d v ∧ p d env = some e ∧ ∀ σ', ER T w e σ' → wipe σ' vs = wipe σ vs → Q σ' H
def gIs (T : Tb) (vs : List Nat) (p : List D → Env → Option Env) : TGs := fun us σ H Q => ∃ w env S ds e, WR T w S H ∧ ER T w env σ ∧ Reps T w ds us ∧ p ds env = some e ∧ ∀ σ', ER T w e σ' → wipe σ' vs = wipe σ vs → Q σ' H
def IG (T : Tb) (X : Cx) (vs : List Nat) (tg : Expr) (p : Pat) : Prop := PG X tg (gI T vs p)
def IGs (T : Tb) (X : Cx) (vs : List Nat) (tg : List Expr) (p : List D → Env → Option Env) : Prop := PGs X tg (gIs T vs p)
theorem PG.mono {X : Cx} {e : Expr} {t t' : TG} (h : PG X e t) (k : ∀ v σ H Q, t' v σ H Q → t v σ H Q) : PG X e t' := ⟨fun pins s σ H v u Q I r q => h.run pins s σ H v u Q I r (k _ _ _ _ q)⟩
theorem PGs.mono {X : Cx} {e : List Expr} {t t' : TGs} (h : PGs X e t) (k : ∀ v σ H Q, t' v σ H Q → t v σ H Q) : PGs X e t' := ⟨fun pins s σ H v u Q I r q => h.run pins s σ H v u Q I r (k _ _ _ _ q)⟩
variable {vs : List Nat}
theorem ig_name {i : Nat} {x : Str} (hN : X.N.Nodup) (hi : X.N[i]? = some x) (hx : Loc X.env.scope x) (hv : i ∈ vs := by decide) (hf : X.fn x = true ∨ X.env.scope.names.lookup x = some .local := by first | exact .inl rfl | exact .inr rfl | assumption) : IG T X vs (.Name x pos) (pName i) :=
  PG.mono (pg_name hN hi hx hf) fun v σ H Q ⟨w, env, S, d, e, r, q, p, h, k⟩ => by
    cases h
    exact k _ (q.set p i) (wipe_set hv)
theorem igs_nil : IGs T X vs [] pNil := PGs.mono pgs_nil fun v σ H Q ⟨w, env, S, d, e, r, q, p, h, k⟩ => by
  cases p with
  | nil => cases h; exact ⟨rfl, k _ q rfl⟩
  | cons _ _ => cases h
theorem igs_cons {p : Pat} {ps : List D → Env → Option Env} (h1 : IG T X vs a p) (h2 : IGs T X vs es ps) (hs : (assignEach (a :: es) X.env).map (·.2) = assign a X.env :: (assignEach es X.env).map (·.2) := by rfl) : IGs T X vs (a :: es) (pCons p ps) :=
  PGs.mono (pgs_cons h1 h2 hs) fun v σ H Q ⟨w, env, S, d, e, r, q, p0, h, k⟩ => by
    cases p0 with
    | nil => cases h
    | @cons d1 v1 ds us p1 p2 =>
      have h : (p d1 env).bind (fun e => ps ds e) = some e := h
      cases z : p d1 env with
      | none => rw [z] at h; cases h
      | some e1 =>
        rw [z] at h
        exact ⟨_, _, rfl, w, env, S, d1, e1, r, q, p1, z, fun σ1 q1 z1 => ⟨w, e1, S, ds, e, r, q1, p2, h, fun σ2 q2 z2 => k σ2 q2 (z2.trans z1)⟩⟩
theorem ig_tup {ps : List D → Env → Option Env} {k n : Nat} (hc : X.calm = true) (h : IGs T X vs es ps) (hl : ∀ ds env e, ps ds env = some e → ds.length = n) (hK : X.K = T.K := by rfl)
    (hn : (assignEach es X.env).length = n := by rfl) (hst : (assignEach es X.env).findIdx? (·.1) = none := by rfl) : IG T X vs (.Tuple es k pos) (pTup ps) :=
  PG.mono (pg_tup hc h hn hst) fun v σ H Q ⟨w, env, S, d, e, r, q, p0, h, k⟩ => by
    cases p0 with
    | tup q2 r2 => exact ⟨_, _, rfl, by rw [hK]; exact sqt_sub r q2, by rw [← r2.length]; exact hl _ _ _ h, w, env, S, _, e, r, q, r2, h, k⟩
    | _ => cases h
theorem is_unp {p : Pat} (he : IE T E X a f) (hg : IG T X vs b p) (hs : swapsWithSole [b] a pos.line X.env = pure false := by rfl) (hw : swappedStores [b] a X.env = pure none := by rfl) (h1 : (assignEach [b] X.env).map (·.2) = [assign b X.env] := by rfl) : IS T E X (.Assign [b] a pos) (sUnp p f) :=
  PS.mono (ps_asg he hg hs hw h1) fun D σ H ⟨w, env, S, r, e, q⟩ => ⟨w, env, S, r, e, (RP.bnd q).mono (fun d S1 h1 w1 H1 v l1 r1 p1 => by
    cases z : p d env with
    | none => rw [z] at h1; exact (show False from h1).elim
    | some e1 =>
      rw [z] at h1
      exact ⟨w1, env, S1, d, e1, r1, e.mono l1, p1, z, fun σ' q' _ => h1 w1 H1 σ' l1 r1 q'⟩) fun _ _ _ x => x⟩
end Ro
end
section
set_option Elab.async false
set_option linter.all false
set_option maxRecDepth 100000
set_option maxHeartbeats 4000000
namespace Ro
open PySem PySem.Spec PyProof.Rows L2
variable {T : Tb} {E : XK} {X : Cx} {a b c : Expr} {es : List Expr} {f g h : EX} {fa ga : AX} {fb gb : BX} {pos : Pos} {st : Stmt} {sts rest : List Stmt} {s t : ES}
structure ItR (T : Tb) (w : Wd) (ds : List D) (J : It) : Prop where
  goS : ∀ (i : Nat) H w' S, w.sb w' → WR T w' S H → i < ds.length → J.go i H
  stopS : ∀ (i : Nat) H w' S, w.sb w' → WR T w' S H → ds.length ≤ i → J.stop i H
  yldS : ∀ (i : Nat) H x H' w' S d, w.sb w' → WR T w' S H → ds[i]? = some d → J.yld i H x H' → ∃ w2, w'.le w2 ∧ WR T w2 S H' ∧ Rep T w2 d x
theorem ItR.go {T : Tb} {w : Wd} {ds : List D} {J : It} (it : ItR T w ds J) (i : Nat) (H : Hp) (w' : Wd) (S : Store) (l : w.le w') (r : WR T w' S H) (h : i < ds.length) : J.go i H := it.goS i H w' S l.tosb r h
theorem ItR.stop {T : Tb} {w : Wd} {ds : List D} {J : It} (it : ItR T w ds J) (i : Nat) (H : Hp) (w' : Wd) (S : Store) (l : w.le w') (r : WR T w' S H) (h : ds.length ≤ i) : J.stop i H := it.stopS i H w' S l.tosb r h
theorem ItR.yld {T : Tb} {w : Wd} {ds : List D} {J : It} (it : ItR T w ds J) (i : Nat) (H : Hp) (x : V) (H' : Hp) (w' : Wd) (S : Store) (d : D) (l : w.le w') (r : WR T w' S H) (hd : ds[i]? = some d) (y : J.yld i H x H') : ∃ w2, w'.le w2 ∧ WR T w2 S H' ∧ Rep T w2 d x := it.yldS i H x H' w' S d l.tosb r hd y
def tII (T : Tb) (E : XK) (fa : AX) : TI := fun σ H R => ∃ w env S, WR T w S H ∧ ER T w env σ ∧ RP (fa env S) (fun ds S' => ∀ w' H' J, w.le w' → WR T w' S' H' → ItR T w' ds J → R J H') (XW T w E)
def II (T : Tb) (E : XK) (X : Cx) (tg iter : Expr) (fa : AX) : Prop := PI X tg iter (tII T E fa)
theorem PI.mono {X : Cx} {tg e : Expr} {t t' : TI} (h : PI X tg e t) (k : ∀ σ H R, t' σ H R → t σ H R) : PI X tg e t' := ⟨fun pins s σ H R I q => h.run pins s σ H R I (k _ _ _ q)⟩
theorem is_for {tg iter : Expr} {body : List Stmt} {p : Pat} (hp : PassesOwn (model X.prog X.w) X.A X.env X.xe) (hc : X.calm = true) (hi : II T E X tg iter fa) {vs : List Nat} (hg : IG T X vs tg p) (hb : ISs T E X body s) (hs : ∀ x, foldedSetIterable iter X.env x = pure x := by intro _; rfl) : IS T E X (.For tg iter body [] pos) (sFor fa p s) :=
  PS.mono (ps_for hp hc hi hg hb hs) fun D σ H ⟨w, env, S, r, e, q⟩ => ⟨w, env, S, r, e, (RP.bnd q).mono (fun ds S1 h1 w1 H1 J l1 r1 it => by
    refine ⟨fun i m σ H => m = ds.length - i ∧ i ≤ ds.length ∧ ∃ w env S, w1.le w ∧ WR T w S H ∧ ER T w env σ ∧ RP (loop p s (ds.drop i) env S) (CP T w D) (XW T w E),
      ⟨ds.length, by simp, Nat.zero_le _, w1, env, S1, Wd.le.refl _, r1, e.mono l1, RP.mono h1 (fun c S2 h2 => CP.le l1 h2) fun _ _ _ x => x.le l1⟩, ?_⟩
    rintro i m σ H ⟨rfl, hi, w, env, S, l, r, e, q⟩
    by_cases hlt : i < ds.length
    · refine .inr ⟨it.go i H w S l r hlt, fun σ H => i + 1 ≤ ds.length ∧ ∃ w env S, w1.le w ∧ WR T w S H ∧ ER T w env σ ∧ RP (loop p s (ds.drop (i + 1)) env S) (CP T w D) (XW T w E), fun σ' H' h => ⟨ds.length - (i + 1), by omega, rfl, h⟩, fun x H' y => ?_⟩
      obtain ⟨w2, l2, r2, p2⟩ := it.yld i H x H' w S ds[i] l r (List.getElem?_eq_getElem hlt) y
      rw [List.drop_eq_getElem_cons hlt] at q
      unfold loop at q
      cases z : p ds[i] env with
      | none => rw [z] at q; exact (show False from q).elim
      | some e1 =>
        rw [z] at q
        refine ⟨w2, env, S, ds[i], e1, r2, e.mono l2, p2, z, fun σ2 q2 _ => ⟨w2, e1, S, r2, q2, (RP.bnd q).mono (fun c S3 h3 => ?_) fun _ _ _ x => x.le l2⟩⟩
        cases c with
        | nx e3 => exact fun w4 H4 σ4 l4 r4 q4 => ⟨hlt, w4, e3, S3, (l.trans l2).trans l4, r4, q4, RP.mono h3 (fun c S5 h5 => CP.le (l2.trans l4) h5) fun _ _ _ x => x.le (l2.trans l4)⟩
        | ct e3 => exact fun w4 H4 σ4 l4 r4 q4 => ⟨hlt, w4, e3, S3, (l.trans l2).trans l4, r4, q4, RP.mono h3 (fun c S5 h5 => CP.le (l2.trans l4) h5) fun _ _ _ x => x.le (l2.trans l4)⟩
        | bk e3 => exact fun w4 H4 σ4 l4 => h3 w4 H4 σ4 (l2.trans l4)
        | rt d => exact fun w4 H4 v l4 => h3 w4 H4 v (l2.trans l4)
    · have e0 : ds.drop i = [] := List.drop_of_length_le (by omega)
      rw [e0] at q
      exact .inl ⟨it.stop i H w S l r (by omega), q w H σ (Wd.le.refl _) r e⟩) fun _ _ _ x => x⟩
/-- a list, a tuple that stands still -/
def itSeq (f : EX) : AX := fun env S => (f env S).bnd fun d S1 => match d with
  | .lst l => .ok l S1
  | _ => .bad
def itTup (f : EX) : AX := fun env S => (f env S).bnd fun d S1 => match d with
  | .tup l => .ok l S1
  | _ => .bad
theorem itR_lst {w : Wd} {l : List D} {p : Addr} {vs : List V} (q : SqL T.K w.G p vs) (r : Reps T w l vs) : ItR T w l (Itl T.K p) where
  goS := fun i H w' S l1 r1 hi => by
    obtain ⟨v, h1, _⟩ := r.get (List.getElem?_eq_getElem hi)
    exact ⟨vs, v, sql_sub r1 (sql_le l1 q), h1⟩
  stopS := fun i H w' S l1 r1 hi => ⟨vs, sql_sub r1 (sql_le l1 q), by rw [← r.length]; exact hi⟩
  yldS := fun i H x H' w' S d l1 r1 hd y => by
    obtain ⟨rfl, y⟩ := y
    obtain ⟨v, h1, h2⟩ := r.get hd
    have e := y vs (sql_sub r1 (sql_le l1 q))
    rw [h1] at e
    cases e
    exact ⟨w', Wd.le.refl _, r1, h2.monoS l1⟩
theorem itR_tup {w : Wd} {l : List D} {p : Addr} {vs : List V} (q : SqT T.K w.G p vs) (r : Reps T w l vs) : ItR T w l (Itt T.K p) where
  goS := fun i H w' S l1 r1 hi => by
    obtain ⟨v, h1, _⟩ := r.get (List.getElem?_eq_getElem hi)
    exact ⟨vs, v, sqt_sub r1 (sqt_le l1 q), h1⟩
  stopS := fun i H w' S l1 r1 hi => ⟨vs, sqt_sub r1 (sqt_le l1 q), by rw [← r.length]; exact hi⟩
  yldS := fun i H x H' w' S d l1 r1 hd y => by
    obtain ⟨rfl, y⟩ := y
    obtain ⟨v, h1, h2⟩ := r.get hd
    have e := y vs (sqt_sub r1 (sqt_le l1 q))
    rw [h1] at e
    cases e
    exact ⟨w', Wd.le.refl _, r1, h2.monoS l1⟩
theorem ii_lst {tg : Expr} (hK : X.K = T.K) (h : IE T E X a f) : II T E X tg a (itSeq f) :=
  PI.mono (pi_list h) fun σ H Rr ⟨w, env, S, r, e, q⟩ => ⟨w, env, S, r, e, (RP.bnd q).mono (fun d S1 h1 w1 H1 v l1 r1 p1 => by
    cases p1 with
    | lst q2 r2 =>
      refine ⟨_, rfl, ⟨_, .inl (.inl (r1.sub _ _ q2))⟩, ?_⟩
      rw [hK]
      exact h1 w1 H1 _ l1 r1 (itR_lst (.inl (.inl q2)) r2)
    | _ => exact (show False from h1).elim) fun _ _ _ x => x⟩
theorem ii_tup {tg : Expr} (hK : X.K = T.K) (h : IE T E X a f) : II T E X tg a (itTup f) :=
  PI.mono (pi_tup h) fun σ H Rr ⟨w, env, S, r, e, q⟩ => ⟨w, env, S, r, e, (RP.bnd q).mono (fun d S1 h1 w1 H1 v l1 r1 p1 => by
    cases p1 with
    | tup q2 r2 =>
      refine ⟨_, rfl, ⟨_, by rw [hK]; exact sqt_sub r1 q2⟩, ?_⟩
      rw [hK]
      exact h1 w1 H1 _ l1 r1 (itR_tup q2 r2)
    | _ => exact (show False from h1).elim) fun _ _ _ x => x⟩
/-- lo, lo + 1, .. -/
def rngL (lo : Int) (n : Nat) : List D := (List.range n).map fun i : Nat => D.int (lo + (i : Int))
def small62 (i : Int) : Bool := decide (-(2 ^ 62) ≤ i ∧ i < 2 ^ 62)
def itR1 (fa : AX) : AX := fun env S => (fa env S).bnd fun ds S1 => match ds with
  | [.int j] => if small62 j then .ok (rngL 0 j.toNat) S1 else .bad
  | _ => .bad
def itR2 (fa : AX) : AX := fun env S => (fa env S).bnd fun ds S1 => match ds with
  | [.int i, .int j] => if small62 i && small62 j then .ok (rngL i (j - i).toNat) S1 else .bad
  | _ => .bad
theorem itR_rng {w : Wd} {lo : Int} {n : Nat} : ItR T w (rngL lo n) (Itr lo n) where
  goS := fun i H w' S l1 r1 hi => by
    have e : (rngL lo n).length = n := by unfold rngL; simp
    rw [e] at hi
    exact hi
  stopS := fun i H w' S l1 r1 hi => by
    have e : (rngL lo n).length = n := by unfold rngL; simp
    rw [e] at hi
    exact hi
  yldS := fun i H x H' w' S d l1 r1 hd y => by
    obtain ⟨rfl, rfl⟩ := y
    unfold rngL at hd
    rw [List.getElem?_map] at hd
    cases z : (List.range n)[i]? with
    | none => rw [z] at hd; cases hd
    | some k =>
      rw [z] at hd
      obtain ⟨hl, e⟩ := List.getElem?_eq_some_iff.mp z
      rw [List.getElem_range] at e
      subst e
      cases hd
      exact ⟨w', Wd.le.refl _, r1, .int _⟩
theorem ii_r1 {tg : Expr} {p : Pos} (hg : Gl X "range") (hm : X.mg "range" = none) (ha : IA T E X [a] fa) (hs : starEach [a] X.env = [(false, eval a X.env)] := by rfl) : II T E X tg (.Call (.Name "range" p) [a] [] pos) (itR1 fa) :=
  PI.mono (pi_range1 hg hm ha hs) fun σ H Rr ⟨w, env, S, r, e, q⟩ => ⟨w, env, S, r, e, (RP.bnd q).mono (fun ds S1 h1 w1 H1 v l1 r1 p1 => by
    split at h1
    · rename_i j
      cases p1 with
      | cons p2 p3 =>
        cases p2; cases p3
        by_cases hj : small62 j
        · rw [if_pos hj] at h1
          have hj' := of_decide_eq_true hj
          exact ⟨j, rfl, hj'.1, hj'.2, h1 w1 H1 _ l1 r1 itR_rng⟩
        · rw [if_neg hj] at h1
          exact (show False from h1).elim
    · exact (show False from h1).elim) fun _ _ _ x => x⟩
def spI (T : Tb) (n : Nat) (m : Fn) : Sp := fun vs H Q E => vs.length = n ∧ ∃ w ds S, WR T w S H ∧ Reps T w ds vs ∧ RP (m ds S) (fun d S' => ∀ w' H' v, w.le w' → WR T w' S' H' → Rep T w' d v → Q v H') (XW T w E)
theorem er_start {w : Wd} {N : List Str} {ds : List D} {vs : List V} (r : Reps T w ds vs) : ER T w (ds.map some ++ List.replicate (N.length - ds.length) none) (L2.start N vs) := by
  refine ⟨by simp [L2.start, r.length], fun i d h => ?_⟩
  by_cases hi : i < ds.length
  · rw [List.getElem?_append_left (by simpa using hi), List.getElem?_map] at h
    cases z : ds[i]? with
    | none => rw [z] at h; cases h
    | some d2 =>
      rw [z] at h
      have e : d2 = d := by simpa using h
      subst e
      obtain ⟨v, h1, h2⟩ := r.get z
      refine ⟨v, ?_, h2⟩
      unfold L2.start
      rw [List.getElem?_append_left (by rw [List.length_map, ← r.length]; exact hi), List.getElem?_map, h1]
      rfl
  · rw [List.getElem?_append_right (by simpa using hi)] at h
    rw [List.getElem?_replicate] at h
    split at h <;> cases h
/-- room, and no repr under way -/
structure RG (k : Nat) (A : Around) : Prop where
  rm : Room k A
  gd : A.guards = some []
theorem RG.mono {j k : Nat} {A : Around} (r : RG k A) (h : j ≤ k) : RG j A := ⟨r.rm.mono h, r.gd⟩
theorem RG.deeper {k : Nat} {A : Around} (r : RG (k + 1) A) (env : PySem.Env) : RG k (A.deeper env) := ⟨r.rm.deeper env, r.gd⟩
theorem RG.in1 {k : Nat} {A : Around} (r : RG (k + 1) A) : RG k A.in1 := ⟨r.rm.in1, r.gd⟩
theorem RG.make {k : Nat} {A : Around} (r : RG (k + 1) A) (c : Addr) (us : List Value) (kw : List (Str × Value)) : RG k (A.under (.builtin "type.__call__" ⟨.ref c :: us, kw⟩)) :=
  ⟨r.rm.make c us kw, by
    have e := r.gd
    have g : Code.guards (.builtin "type.__call__" ⟨.ref c :: us, kw⟩) = [] := by
      unfold Code.guards
      rw [if_neg (by show ¬ (guardIds.contains "type.__call__" = true); decide)]
    show pushGuards (Code.guards (.builtin "type.__call__" ⟨.ref c :: us, kw⟩)) A.guards = some []
    rw [g]
    exact e⟩
/-- .. a def that runs wherever there is room and no repr is under way -/
structure FnG (P : Program) (w : World) (K : PySem.W.Frag) (mg : Str → Option Value) (base : Heap) (k : Nat) (fp : Addr) (fd : FuncData) (ps : List Str) (sp : Sp) : Prop where
  run : ∀ (A : Around) (below : List PySem.Env) (s : Shared) (H : Hp) (ar : Args) (us : List Value) (vs : List V) (Q : VK) (E : XK), RG k A → Env0 P w K mg base A below s H → BindsTo s fd ar (ps.zip us) → Vals vs us → sp vs H Q E →
    codeAny (model P w) A (.call (.ref fp) ar) (CR (L2N.CX P w) below P w H s Q E) s
theorem FnG.mono {P : Program} {w : World} {K : PySem.W.Frag} {mg : Str → Option Value} {base : Heap} {j k : Nat} {fp : Addr} {fd : FuncData} {ps : List Str} {sp : Sp} (F : FnG P w K mg base j fp fd ps sp) (h : j ≤ k) : FnG P w K mg base k fp fd ps sp :=
  ⟨fun A below s H ar us vs Q E hr => F.run A below s H ar us vs Q E (hr.mono h)⟩
theorem fnG_of {P : Program} {w : World} {K : PySem.W.Frag} {mg : Str → Option Value} {base : Heap} {k : Nat} {fp : Addr} {nm ql : Str} {prm : Arguments} {bd : List Stmt} {scp : Scope} {dV kV doc pm cdv ct oc : Value} {an od : Option Addr}
    {osl : Array (Option Value)} {N ps : List Str} {sp : Sp} (look : K.lookup fp = some ⟨oc, od, .func (PySem.W.fnOf nm ql prm bd scp dV kV doc pm an cdv ct), osl⟩) (code : PySem.W.codeIn K cdv ql = true) (Sc : FnScope N ps scp)
    (len : ∀ vs H Q E, sp vs H Q E → vs.length = ps.length)
    (h : ∀ (A : Around) (below : List PySem.Env) (s : Shared) (H : Hp) (vs : List V) (Q : VK) (E : XK), RG k (A.deeper (envOfC ql scp s.heap.objs.size fp cdv)) → sp vs H Q E →
      ∃ t, PSs (cxOf (L2N.CX P w) P w K mg base N ql scp fp cdv A below s H E) bd t ∧ t { nx := fun _ H' => Q .non H', rt := Q } (L2.start N vs) H) :
    FnG P w K mg base (k + 1) fp (PySem.W.fnOf nm ql prm bd scp dV kV doc pm an cdv ct) ps sp := by
  constructor
  intro A below s H ar us vs Q E hr env0 hbd rv hsp
  have hlen := len _ _ _ _ hsp
  have inK : K.In s.heap := env0.mod.kin.keeps fun b o q => (env0.bs b o q).1
  have noLim : s.heap.NoLimit := env0.mod.nolimit.keeps fun b o q => (env0.bs b o q).1
  have kinds : ∀ z ∈ ps.zip us, scp.names.lookup z.1 = some .local ∨ (scp.names.lookup z.1 = some .cell ∧ ((cellsFrom (s.heap.objs.size + 1) scp.names []).lookup z.1).isSome = true) := by
    rintro ⟨n, v⟩ hz
    rcases Sc.par n (List.of_mem_zip hz).1 with k1 | k1
    · exact Or.inl k1
    · exact Or.inr ⟨k1, PySem.W.cellsFrom_some _ _ _ (Or.inl k1)⟩
  refine codeAny_call_function hr.rm.depth (inK _ _ look) rfl Sc.co Sc.gen rfl (PySem.W.codeRec_of inK code) (hbd _ _ _ _ ?_)
  refine wpAny_newFunctionEnv_cells Sc.kind kinds fun en hen st hx => ?_
  subst hen
  obtain ⟨t, runs, ends⟩ := h A below s H vs Q E (hr.deeper _) hsp
  have J0 : Inv (cxOf (L2N.CX P w) P w K mg base N ql scp fp cdv A below s H E) [] (L2.start N vs) H st := inv_start Sc hr.rm.hd env0 hlen rv hx
  refine ⟨noLim.keeps hx.toInCall.keep, codeAny_func (wpAny_mono (runs.run [] st (L2.start N vs) H _ J0 ends) (fun fl st' hs => ?_) fun e st' hs => hs)⟩
  cases fl with
  | ret u =>
    obtain ⟨v, _, H', J, r1, q⟩ := hs
    exact ⟨v, H', J.os, J.bare, J.base, J.hok, r1, q⟩
  | next =>
    obtain ⟨_, H', J, q⟩ := hs
    exact ⟨V.non, H', J.os, J.bare, J.base, J.hok, rfl, q⟩
  | brk => exact hs.elim fun _ z => z.elim fun _ z => z.2.elim
  | cont => exact hs.elim fun _ z => z.elim fun _ z => z.2.elim
/-- a call by it -/
theorem FnG.callBy {X : Cx} {n k : Nat} {fp : Addr} {fd : FuncData} {ps ks : List Str} {sp : Sp} {gg : List Value → List Value → List Value} {gV : List V → List V → List V} {E : XK} {pins : List (Addr × Obj)} {σ : St} {H : Hp} {s : Shared} {Q : VK} {us ws : List Value} {vs zs : List V}
    (F : FnG X.prog X.w X.K X.mg X.base k fp fd ps sp) (hr : RG k X.A) (hb : KBn X.K fd ps n ks gg gV) (hx : Passes (L2N.CX X.prog X.w) X E) (I : Inv X pins σ H s) (rv : Vals vs us) (rz : Vals zs ws) (l1 : vs.length = n) (l2 : zs.length = ks.length) (h : sp (gV vs zs) H Q E) :
    wpAny (model X.prog X.w) X.A (call (.ref fp) us (ks.zip ws)) (EP X pins σ Q) X.xe s := by
  have all := hb.rel rv rz
  have run := F.run X.A X.stack s H ⟨us, ks.zip ws⟩ (gg us ws) (gV vs zs) Q E hr I.env0 (hb.to s us ws I.kIn (rv.length.symm.trans l1) (rz.length.symm.trans l2)) all h
  refine wpAny_call (codeAny_mono run fun r st hq => ?_)
  match r, hq with
  | .error e, hq => exact hx pins σ H s e st I hq
  | .ok (.ret u), hq => exact I.after hq
/-- a new thing by its __init__ -/
theorem FnG.makes {X : Cx} {n k : Nat} {C fp : Addr} {fd : FuncData} {ps ks : List Str} {sp : Sp} {gg : List Value → List Value → List Value} {gV : List V → List V → List V} {E : XK} {pins : List (Addr × Obj)} {σ : St} {H : Hp} {s : Shared} {Q : VK} {us ws : List Value} {vs zs : List V}
    (M : Mk X.K C fp) (F : FnG X.prog X.w X.K X.mg X.base k fp fd ps sp) (hr : RG (k + 1) X.A) (hb : KBn X.K fd ps (n + 1) ks gg gV) (hx : Passes (L2N.CX X.prog X.w) X E) (I : Inv X pins σ H s) (rv : Vals vs us) (rz : Vals zs ws) (l1 : vs.length = n) (l2 : zs.length = ks.length)
    (h : ∀ x dx, H x = none → H dx = none → dx ≠ x → sp (gV (.ref x :: vs) zs) (upd (upd H dx (.own x)) x (.ins C dx [])) (fun v H2 => v = .non ∧ Q (.ref x) H2) E) :
    wpAny (model X.prog X.w) X.A (call (.ref C) us (ks.zip ws)) (EP X pins σ Q) X.xe s := by
  have start := h (s.heap.objs.size + 1) s.heap.objs.size (I.hok.fresh (by omega)) (I.hok.fresh (by omega)) (by intro z; exact absurd z (Nat.ne_of_lt (Nat.lt_succ_self _)))
  have J := Inv.made (C := C) I
  have rv1 : Vals (V.ref (s.heap.objs.size + 1) :: vs) (Value.ref (s.heap.objs.size + 1) :: us) := .cons rfl rv
  have n1 : (Value.ref (s.heap.objs.size + 1) :: us).length = n + 1 := by rw [← rv1.length, List.length_cons, l1]
  have run := F.run _ X.stack _ _ ⟨Value.ref (s.heap.objs.size + 1) :: us, ks.zip ws⟩ _ _ _ E (hr.make C us (ks.zip ws)) (J.env0.make C us (ks.zip ws)) (hb.to _ _ ws J.kIn n1 (rz.length.symm.trans l2)) (hb.rel rv1 rz) start
  refine wpAny_call (make_map (f := fp) I.kIn M.makes M.init (beq_iff_eq.mp M.fn) (codeAny_mono run fun r st hq => ?_))
  match r, hq with
  | .error e, hq => exact hx pins σ _ _ e st J hq
  | .ok (.ret u), hq =>
    obtain ⟨v, H', J3, r3, e3, q3⟩ := J.after hq
    subst e3
    exact ⟨r3, V.ref (s.heap.objs.size + 1), H', J3, rfl, q3⟩
/-- a def of the text keeps what its mirror says -/
structure OkF (T : Tb) (P : Program) (w : World) (mg : Str → Option Value) (base : Heap) (k : Nat) (d : He.DefD) (ps : List Str) (m : Fn) : Prop where
  ex : ∃ fd, FunD T.K d.name d.qual d.params d.body d.scope (d.dvs T.K) [] (He.fAd T.K d.at_) fd ∧ FnG P w T.K mg base k (He.fAd T.K d.at_) fd ps (spI T ps.length m)
theorem OkF.mono {T : Tb} {P : Program} {w : World} {mg : Str → Option Value} {base : Heap} {j k : Nat} {d : He.DefD} {ps : List Str} {m : Fn} (F : OkF T P w mg base j d ps m) (h : j ≤ k) : OkF T P w mg base k d ps m := by
  obtain ⟨fd, F1, F2⟩ := F.ex
  exact ⟨fd, F1, F2.mono h⟩
theorem OkF.mk' {P : Program} {w : World} {mg : Str → Option Value} {base : Heap} {k : Nat} {d : He.DefD} {ps N : List Str} {body : ES} {fd : FuncData}
    (F : FunD T.K d.name d.qual d.params d.body d.scope (d.dvs T.K) [] (He.fAd T.K d.at_) fd) (Sc : FnScope N ps d.scope)
    (h : ∀ (cdv : Value) (A : Around) (outer : List PySem.Env) (s : Shared) (H : Hp) (E : XK), RG k (A.deeper (envOfC d.qual d.scope s.heap.objs.size (He.fAd T.K d.at_) cdv)) →
      ISs T E (cxOf (L2N.CX P w) P w T.K mg base N d.qual d.scope (He.fAd T.K d.at_) cdv A outer s H E) d.body body) : OkF T P w mg base (k + 1) d ps (fnM N.length body) := by
  refine ⟨fd, F, ?_⟩
  obtain ⟨oc, od, dV, kV, doc, pm, an, cdv, ct, osl, rfl, lk, hcd, _, _⟩ := F.ex
  refine fnG_of lk hcd Sc (fun vs H Q E h => h.1) fun A outer s H vs Q E hr hsp => ⟨_, h cdv A outer s H E hr, ?_⟩
  obtain ⟨hl, w0, ds, S, r, q, hm⟩ := hsp
  refine ⟨w0, _, S, r, er_start q, (RP.bnd hm).mono (fun c S1 h1 => ?_) fun _ _ _ x => x⟩
  cases c with
  | rt d => exact h1
  | nx e => exact fun w' H' σ' l r' q' => h1 w' H' .non l r' .non
  | bk e => exact (show False from h1).elim
  | ct e => exact (show False from h1).elim
end Ro
end
section
set_option Elab.async false
set_option linter.all false
set_option maxRecDepth 100000
set_option maxHeartbeats 4000000
namespace Ro
open PySem PySem.Spec PyProof.Rows L2
variable {T : Tb} {E : XK} {X : Cx} {a b c : Expr} {es : List Expr} {f g h : EX} {fa ga fk : AX} {fb gb : BX} {pos : Pos} {st : Stmt} {sts rest : List Stmt} {s t : ES}
theorem reps_get_none {w : Wd} {xs : List D} {us : List V} (r : Reps T w xs us) {i : Nat} (h : xs[i]? = none) : us[i]? = none := by
  have e := List.getElem?_eq_none_iff.mp h
  exact List.getElem?_eq_none_iff.mpr (by rw [← r.length]; exact e)
theorem vals_pick : ∀ (pk : List (Nat × Nat)) {vs ds zs : List V} {us its ws : List Value}, Vals vs us → Vals ds its → Vals zs ws → Vals (pick pk vs ds zs) (pick pk us its ws)
  | [], _, _, _, _, _, _, _, _, _ => .nil
  | q :: pk, vs, ds, zs, us, its, ws, h1, h2, h3 => by
    have ih := vals_pick pk h1 h2 h3
    have key : ∀ {xs : List V} {ys : List Value}, Vals xs ys → Vals (xs[q.2]?).toList (ys[q.2]?).toList := fun {xs ys} r => by
      cases e : xs[q.2]? with
      | none => rw [r.none_of e]; exact .nil
      | some x =>
        obtain ⟨y, e1, e2⟩ := r.get e
        rw [e1]
        exact .cons e2 .nil
    show Vals (((if q.1 = 0 then vs else if q.1 = 1 then ds else zs)[q.2]?).toList ++ pick pk vs ds zs) (((if q.1 = 0 then us else if q.1 = 1 then its else ws)[q.2]?).toList ++ pick pk us its ws)
    refine Vals.append ?_ ih
    by_cases c1 : q.1 = 0
    · rw [if_pos c1, if_pos c1]; exact key h1
    · rw [if_neg c1, if_neg c1]
      by_cases c2 : q.1 = 1
      · rw [if_pos c2, if_pos c2]; exact key h2
      · rw [if_neg c2, if_neg c2]; exact key h3
theorem reps_pick {w : Wd} : ∀ (pk : List (Nat × Nat)) {vs ds zs : List D} {us its ws : List V}, Reps T w vs us → Reps T w ds its → Reps T w zs ws → Reps T w (pick pk vs ds zs) (pick pk us its ws)
  | [], _, _, _, _, _, _, _, _, _ => .nil
  | q :: pk, vs, ds, zs, us, its, ws, h1, h2, h3 => by
    have ih := reps_pick pk h1 h2 h3
    have key : ∀ {xs : List D} {ys : List V}, Reps T w xs ys → Reps T w (xs[q.2]?).toList (ys[q.2]?).toList := fun {xs ys} r => by
      cases e : xs[q.2]? with
      | none => rw [reps_get_none r e]; exact .nil
      | some x =>
        obtain ⟨y, e1, e2⟩ := r.get e
        rw [e1]
        exact .cons e2 .nil
    show Reps T w (((if q.1 = 0 then vs else if q.1 = 1 then ds else zs)[q.2]?).toList ++ pick pk vs ds zs) (((if q.1 = 0 then us else if q.1 = 1 then its else ws)[q.2]?).toList ++ pick pk us its ws)
    refine Reps.append ?_ ih
    by_cases c1 : q.1 = 0
    · rw [if_pos c1, if_pos c1]; exact key h1
    · rw [if_neg c1, if_neg c1]
      by_cases c2 : q.1 = 1
      · rw [if_pos c2, if_pos c2]; exact key h2
      · rw [if_neg c2, if_neg c2]; exact key h3
/-- a call's binding -/
structure KBD (T : Tb) (fd : FuncData) (ps : List Str) (n : Nat) (ks : List Str) (pk : List (Nat × Nat)) (dfs : List D) : Prop where
  ex : ∃ its dvs, KBn T.K fd ps n ks (fun us ws => pick pk us its ws) (fun vs zs => pick pk vs dvs zs) ∧ ∀ w, Reps T w dfs dvs
def dvD : He.Dv → D
  | .bl b => .bl b
  | .int i => .int i
  | .str s => .str s
  | _ => .non
def dvOk : He.Dv → Bool
  | .non => true
  | .bl _ => true
  | .int _ => true
  | .str _ => true
  | _ => false
theorem reps_dfl {K : PySem.W.Frag} {w : Wd} : ∀ {l : List He.Dv}, l.all dvOk = true → Reps T w (l.map dvD) (l.map (He.Dv.v K))
  | [], _ => .nil
  | d :: l, h => by
    obtain ⟨h1, h2⟩ := Bool.and_eq_true_iff.mp (show (dvOk d && l.all dvOk) = true from h)
    refine .cons ?_ (reps_dfl h2)
    cases d <;> first | exact .non | exact .bl _ | exact .int _ | exact .str _ | cases h1
/-- no default is asked -/
theorem kbd_n {x qual : Str} {params : Arguments} {body : List Stmt} {scope : Scope} {f : Addr} {fd : FuncData} {ps ks : List Str} {n : Nat} {pk : List (Nat × Nat)} (F : FunD T.K x qual params body scope [] [] f fd)
    (h : ∀ (kV doc pm : Value) (an : Option Addr) (cdv ct : Value) (us ws : List Value), us.length = n → ws.length = ks.length → bindArgs (PySem.W.fnOf x qual params body scope .none kV doc pm an cdv ct) ⟨us, ks.zip ws⟩ = pure (ps.zip (pick pk us [] ws))) : KBD T fd ps n ks pk [] := by
  obtain ⟨oc, od, dV, kV, doc, pm, an, cdv, ct, osl, rfl, lk, hcd, hD, hK⟩ := F.ex
  rcases hD with ⟨_, rfl⟩ | ⟨e, _⟩
  · exact ⟨[], [], ⟨fun s us ws X l1 l2 => .of_eq (h kV doc pm an cdv ct us ws l1 l2), fun r1 r2 => vals_pick pk r1 .nil r2⟩, fun _ => .nil⟩
  · exact absurd rfl e
theorem kbd_d {x qual : Str} {params : Arguments} {body : List Stmt} {scope : Scope} {f : Addr} {fd : FuncData} {ps ks : List Str} {n : Nat} {pk : List (Nat × Nat)} {l : List He.Dv} (F : FunD T.K x qual params body scope (l.map (He.Dv.v T.K)) [] f fd) (hl : l.all dvOk = true) (hd : l ≠ [])
    (h : ∀ (T : Addr) (kV doc pm : Value) (an : Option Addr) (cdv ct : Value) (us its ws : List Value), us.length = n → its.length = l.length → ws.length = ks.length →
      ∃ k, bindArgs (PySem.W.fnOf x qual params body scope (.ref T) kV doc pm an cdv ct) ⟨us, ks.zip ws⟩ = seqItems? (.ref T) >>= k ∧ k (some its.toArray) = pure (ps.zip (pick pk us its ws))) : KBD T fd ps n ks pk (l.map dvD) := by
  obtain ⟨its, hb⟩ := F.kbindsD (ps := ps) n ks (fun us its ws => pick pk us its ws) (by simpa using hd) (fun r1 r2 r3 => vals_pick pk r1 r2 r3) (fun T kV doc pm an cdv ct us its ws h1 h2 h3 => h T kV doc pm an cdv ct us its ws h1 (by simpa using h2) h3)
  exact ⟨its, _, hb, fun w => reps_dfl hl⟩
def IK (T : Tb) (E : XK) (X : Cx) (kws : List Keyword) (fa : AX) : Prop := PK X kws (tIa T E fa)
theorem PK.mono {X : Cx} {es : List Keyword} {t t' : TA} (h : PK X es t) (k : ∀ σ H Q, t' σ H Q → t σ H Q) : PK X es t' := ⟨fun pos pins s σ H Q I q => h.run pos pins s σ H Q I (k _ _ _ q)⟩
theorem ik_nil : IK T E X [] aNil := PK.mono pk_nil fun σ H Q ⟨w, env, S, r, e, q⟩ => q w H [] (Wd.le.refl _) r .nil
abbrev Pk (T : Tb) (w : Wd) (Q : VK) : D → Store → Prop := fun d S' => ∀ w' H' v, w.le w' → WR T w' S' H' → Rep T w' d v → Q v H'
def AK (T : Tb) (E : XK) (X : Cx) (es : List Expr) (kws : List Keyword) (pos : Pos) (ks : List Str) (fa fk : AX) : Prop :=
  ∀ (pins : List (Addr × Obj)) (s : Shared) (σ : St) (H : Hp) (w : Wd) (env : Env) (S : Store) (m : List D → List D → Store → R D) (Q : VK) (fv : Value) (first : List Value) (Qf : Value → Shared → Prop),
    Inv X pins σ H s → WR T w S H → ER T w env σ → PySem.W.keepIn X.K fv = true → RP ((fa env S).bnd fun xs S1 => (fk env S1).bnd fun zs S2 => m xs zs S2) (Pk T w Q) (XW T w E) →
    (∀ s2 H2 us ws vs zs w2 xs ys S2, Inv X pins σ H2 s2 → w.le w2 → WR T w2 S2 H2 → Vals vs us → Vals zs ws → Reps T w2 xs vs → Reps T w2 ys zs → RP (m xs ys S2) (Pk T w2 Q) (XW T w2 E) → wpAny (model X.prog X.w) X.A (call fv (first ++ us) (ks.zip ws)) Qf X.xe s2) →
    wpAny (model X.prog X.w) X.A (callWith pos fv first (backTo pos (starEach es X.env)) (backToKw pos (keywordEach kws X.env))) Qf X.xe s
theorem ak_cons {kws : List Keyword} {ks : List Str} (ha : IA T E X (a :: es) fa) (hkw : IK T E X kws fk) (hall : (backToKw pos (keywordEach kws X.env)).all (·.1.isSome) = true := by rfl) (hks : (backToKw pos (keywordEach kws X.env)).filterMap (·.1) = ks := by rfl)
    (he : starEach (a :: es) X.env = (false, eval a X.env) :: starEach es X.env := by rfl) (hpl : ((backTo pos (starEach (a :: es) X.env)).any (·.1) || (backToKw pos (keywordEach kws X.env)).any (·.1.isNone)) = false := by rfl) : AK T E X (a :: es) kws pos ks fa fk := by
  intro pins s σ H w env S m Q fv first Qf I r e hk q k
  refine PySem.W.callWith_KW (h₀ := X.base) I.ok.mod.kin hk hall (thn (ha.run pos pins s σ H (fun vs2 H2 => ∃ w1 xs S1, w.le w1 ∧ WR T w1 S1 H2 ∧ Reps T w1 xs vs2 ∧ RP ((fk env S1).bnd fun zs S2 => m xs zs S2) (Pk T w Q) (XW T w E)) I ⟨w, env, S, r, e, (RP.bnd q).mono (fun xs S1 h1 w1 H1 vs l1 r1 p1 => ⟨w1, xs, S1, l1, r1, p1, h1⟩) fun _ _ _ x => x⟩) fun us s1 ⟨vs, H1, I1, rv, q1⟩ => ?_) hpl he
  · obtain ⟨w1, xs, S1, l1, r1, p1, h1⟩ := q1
    refine thn (hkw.run pos pins s1 σ H1 (fun zs H2 => ∃ w2 ys S2, w1.le w2 ∧ WR T w2 S2 H2 ∧ Reps T w2 ys zs ∧ RP (m xs ys S2) (Pk T w Q) (XW T w E)) I1 ⟨w1, env, S1, r1, e.mono l1, (RP.bnd h1).mono (fun ys S2 h2 w2 H2 zs l2 r2 p2 => ⟨w2, ys, S2, l2, r2, p2, h2⟩) fun _ _ _ x => x.le l1⟩) fun ws s2 ⟨zs, H2, I2, rz, w2, ys, S2, l2, r2, p2, h2⟩ => ⟨I2.kIn, ?_⟩
    rw [hks]
    exact k s2 H2 us ws vs zs w2 xs ys S2 I2 (l1.trans l2) r2 rv rz (p1.mono l2) p2 (RP.mono h2 (fun d S' q w' H' v l => q w' H' v ((l1.trans l2).trans l)) fun _ _ _ x => x.le (l1.trans l2))
theorem ak_nil {kws : List Keyword} {ks : List Str} (hkw : IK T E X kws fk) (hall : (backToKw pos (keywordEach kws X.env)).all (·.1.isSome) = true := by rfl) (hks : (backToKw pos (keywordEach kws X.env)).filterMap (·.1) = ks := by rfl)
    (hpl : ((backTo pos (starEach [] X.env)).any (·.1) || (backToKw pos (keywordEach kws X.env)).any (·.1.isNone)) = false := by rfl) : AK T E X [] kws pos ks aNil fk := by
  intro pins s σ H w env S m Q fv first Qf I r e hk q k
  refine PySem.W.callWith_KW0 (h₀ := X.base) I.ok.mod.kin hk hall (thn (hkw.run pos pins s σ H (fun zs H2 => ∃ w2 ys S2, w.le w2 ∧ WR T w2 S2 H2 ∧ Reps T w2 ys zs ∧ RP (m [] ys S2) (Pk T w Q) (XW T w E)) I ⟨w, env, S, r, e, (RP.bnd (show RP ((fk env S).bnd fun ys S2 => m [] ys S2) (Pk T w Q) (XW T w E) from q)).mono (fun ys S2 h2 w2 H2 zs l2 r2 p2 => ⟨w2, ys, S2, l2, r2, p2, h2⟩) fun _ _ _ x => x⟩) fun ws s2 ⟨zs, H2, I2, rz, w2, ys, S2, l2, r2, p2, h2⟩ => ⟨I2.kIn, ?_⟩) hpl
  rw [hks]
  exact k s2 H2 [] ws [] zs w2 [] ys S2 I2 l2 r2 .nil rz .nil p2 (RP.mono h2 (fun d S' q w' H' v l => q w' H' v (l2.trans l)) fun _ _ _ x => x.le l2)
theorem fn_core {k n : Nat} {fd : FuncData} {fp : Addr} {ps ks : List Str} {m : Fn} {pk : List (Nat × Nat)} {dfs : List D} (F : FnG X.prog X.w T.K X.mg X.base k fp fd ps (spI T ps.length m)) (hK : X.K = T.K) (hr : RG k X.A) (hb : KBD T fd ps n ks pk dfs) (tk : L2N.Takes X fun c d _ H => E c d H)
    {pins : List (Addr × Obj)} {s : Shared} {σ : St} {H : Hp} {w : Wd} {S : Store} {us ws : List Value} {vs zs : List V} {xs ys : List D} {Q : VK} (I : Inv X pins σ H s) (r : WR T w S H) (rv : Vals vs us) (rz : Vals zs ws) (px : Reps T w xs vs) (py : Reps T w ys zs)
    (l1 : xs.length = n) (l2 : ys.length = ks.length) (l3 : (pick pk xs dfs ys).length = ps.length) (q : RP (m (pick pk xs dfs ys) S) (Pk T w Q) (XW T w E)) : wpAny (model X.prog X.w) X.A (call (.ref fp) us (ks.zip ws)) (EP X pins σ Q) X.xe s := by
  obtain ⟨its, dvs, kb, rd⟩ := hb.ex
  have F' : FnG X.prog X.w X.K X.mg X.base k fp fd ps (spI T ps.length m) := by rw [hK]; exact F
  have kb' : KBn X.K fd ps n ks (fun us ws => pick pk us its ws) (fun vs zs => pick pk vs dvs zs) := by rw [hK]; exact kb
  have pp := reps_pick pk px (rd w) py
  exact FnG.callBy F' hr kb' (L2N.passes_call tk fun _ _ _ _ h => h) I rv rz (by rw [← px.length]; exact l1) (by rw [← py.length]; exact l2) ⟨by rw [← pp.length]; exact l3, w, _, S, r, pp, q⟩
/-- how many, and put -/
def callM (m : Fn) (n kn pn : Nat) (pk : List (Nat × Nat)) (dfs : List D) : List D → List D → Store → R D := fun xs ys S => if xs.length = n ∧ ys.length = kn ∧ (pick pk xs dfs ys).length = pn then m (pick pk xs dfs ys) S else .bad
def eFn (m : List D → List D → Store → R D) (fa fk : AX) : EX := fun env S => (fa env S).bnd fun xs S1 => (fk env S1).bnd fun zs S2 => m xs zs S2
theorem callM_ok {m : Fn} {n kn pn : Nat} {pk : List (Nat × Nat)} {dfs xs ys : List D} {S : Store} {Pk : D → Store → Prop} {Pe : String → List D → Store → Prop} (h : RP (callM m n kn pn pk dfs xs ys S) Pk Pe) :
    xs.length = n ∧ ys.length = kn ∧ (pick pk xs dfs ys).length = pn ∧ RP (m (pick pk xs dfs ys) S) Pk Pe := by
  unfold callM at h
  by_cases c : xs.length = n ∧ ys.length = kn ∧ (pick pk xs dfs ys).length = pn
  · rw [if_pos c] at h
    exact ⟨c.1, c.2.1, c.2.2, h⟩
  · rw [if_neg c] at h
    exact (show False from h).elim
/-- f(.., k = ..) -/
theorem ie_fn {k n : Nat} {d : He.DefD} {x : Str} {p : Pos} {kws : List Keyword} {ps ks : List Str} {m : Fn} {pk : List (Nat × Nat)} {dfs : List D} (F : OkF T X.prog X.w X.mg X.base k d ps m) (hK : X.K = T.K) (hr : RG k X.A) (hg : Gl X x) (hm : X.mg x = some (.ref (He.fAd T.K d.at_)))
    (hb : ∀ fd, FunD T.K d.name d.qual d.params d.body d.scope (d.dvs T.K) [] (He.fAd T.K d.at_) fd → KBD T fd ps n ks pk dfs) (tk : L2N.Takes X fun c d _ H => E c d H) (ha : AK T E X es kws pos ks fa fk) (hdb : (x == ("__debug__" : Str)) = false := by decide +kernel) :
    IE T E X (.Call (.Name x p) es kws pos) (eFn (callM m n ks.length ps.length pk dfs) fa fk) := by
  obtain ⟨fd, FD, FO⟩ := F.ex
  refine ⟨fun pins s σ H Q I h => ?_⟩
  obtain ⟨w, env, S, r, e, q⟩ := h
  refine wpAny_Call_Name_kw (ld_glob I hg hm ?_ hdb)
  refine ha pins s σ H w env S _ Q _ [] _ I r e (by rw [hK]; exact FD.kp) q fun s2 H2 us ws vs zs w2 xs ys S2 I2 l2 r2 rv rz px py q2 => ?_
  obtain ⟨c1, c2, c3, q3⟩ := callM_ok q2
  exact fn_core FO hK hr (hb fd FD) tk I2 r2 rv rz px py c1 c2 c3 q3
end Ro
end
section
set_option Elab.async false
set_option linter.all false
set_option maxRecDepth 100000
set_option maxHeartbeats 4000000
namespace Ro
open PySem PySem.Spec PyProof.Rows L2
variable {T : Tb} {E : XK} {X : Cx} {a b c : Expr} {es : List Expr} {f g h : EX} {fa ga fk : AX} {fb gb : BX} {pos : Pos} {st : Stmt} {sts rest : List Stmt} {s t : ES}
theorem lookup_rep {w : Wd} {f : String} {d : D} : ∀ {fs : List (String × D)} {gs : List (Str × V)}, gs.map (·.1) = fs.map (fun p => Str.ofString p.1) → Reps T w (fs.map (·.2)) (gs.map (·.2)) → fs.lookup f = some d → ∃ v, gs.lookup (Str.ofString f) = some v ∧ Rep T w d v
  | [], _, _, _, h => by cases h
  | (k, e) :: fs, [], h1, _, _ => by cases h1
  | (k, e) :: fs, (k2, v) :: gs, h1, h2, h3 => by
    have h1' : k2 :: gs.map (·.1) = Str.ofString k :: fs.map (fun p => Str.ofString p.1) := h1
    injection h1' with e1 e2
    have h2' : Reps T w (e :: fs.map (·.2)) (v :: gs.map (·.2)) := h2
    cases h2' with
    | cons r1 r2 =>
      rw [List.lookup_cons] at h3 ⊢
      by_cases hk : f = k
      · subst hk
        rw [beq_self_eq_true] at h3
        have e3 : e = d := Option.some.inj h3
        subst e3
        rw [e1, beq_self_eq_true]
        exact ⟨v, rfl, r1⟩
      · rw [beq_eq_false_iff_ne.mpr hk] at h3
        have hk2 : Str.ofString f ≠ k2 := fun z => hk (ofString_inj.mp (z.trans e1))
        rw [beq_eq_false_iff_ne.mpr hk2]
        exact lookup_rep e2 r2 h3
theorem lookup_none {f : String} : ∀ {fs : List (String × D)} {gs : List (Str × V)}, gs.map (·.1) = fs.map (fun p => Str.ofString p.1) → fs.lookup f = none → gs.lookup (Str.ofString f) = none
  | [], [], _, _ => rfl
  | [], _ :: _, h, _ => by cases h
  | (k, e) :: fs, [], h1, _ => by cases h1
  | (k, e) :: fs, (k2, v) :: gs, h1, h3 => by
    have h1' : k2 :: gs.map (·.1) = Str.ofString k :: fs.map (fun p => Str.ofString p.1) := h1
    injection h1' with e1 e2
    rw [List.lookup_cons] at h3 ⊢
    by_cases hk : f = k
    · subst hk
      rw [beq_self_eq_true] at h3
      cases h3
    · rw [beq_eq_false_iff_ne.mpr hk] at h3
      have hk2 : Str.ofString f ≠ k2 := fun z => hk (ofString_inj.mp (z.trans e1))
      rw [beq_eq_false_iff_ne.mpr hk2]
      exact lookup_none e2 h3
theorem put_rep {w : Wd} {f : String} {d : D} {v : V} (q : Rep T w d v) : ∀ {fs : List (String × D)} {gs : List (Str × V)}, gs.map (·.1) = fs.map (fun p => Str.ofString p.1) → Reps T w (fs.map (·.2)) (gs.map (·.2)) →
    (putF (Str.ofString f) v gs).map (·.1) = (setF f d fs).map (fun p => Str.ofString p.1) ∧ Reps T w ((setF f d fs).map (·.2)) ((putF (Str.ofString f) v gs).map (·.2))
  | [], [], _, _ => ⟨rfl, .cons q .nil⟩
  | [], _ :: _, h, _ => by cases h
  | (k, e) :: fs, [], h1, _ => by cases h1
  | (k, e) :: fs, (k2, u) :: gs, h1, h2 => by
    have h1' : k2 :: gs.map (·.1) = Str.ofString k :: fs.map (fun p => Str.ofString p.1) := h1
    injection h1' with e1 e2
    have h2' : Reps T w (e :: fs.map (·.2)) (u :: gs.map (·.2)) := h2
    cases h2' with
    | cons r1 r2 =>
      show (if k2 = Str.ofString f then (k2, v) :: gs else (k2, u) :: putF (Str.ofString f) v gs).map (·.1) = (if k = f then (f, d) :: fs else (k, e) :: setF f d fs).map (fun p => Str.ofString p.1) ∧ Reps T w ((if k = f then (f, d) :: fs else (k, e) :: setF f d fs).map (·.2)) ((if k2 = Str.ofString f then (k2, v) :: gs else (k2, u) :: putF (Str.ofString f) v gs).map (·.2))
      by_cases hk : k = f
      · subst hk
        rw [if_pos e1, if_pos rfl]
        exact ⟨by rw [List.map_cons, List.map_cons, e2, e1], .cons q r2⟩
      · rw [if_neg hk, if_neg (fun z => hk (ofString_inj.mp (e1.symm.trans z)))]
        obtain ⟨h3, h4⟩ := put_rep q e2 r2
        exact ⟨by rw [List.map_cons, List.map_cons, e1, h3], .cons r1 h4⟩
theorem zip_fst : ∀ {ns : List String} {ds : List D}, ns.length = ds.length → (ns.zip ds).map (fun p => Str.ofString p.1) = ns.map Str.ofString ∧ (ns.zip ds).map (·.2) = ds
  | [], [], _ => ⟨rfl, rfl⟩
  | [], _ :: _, h => by cases h
  | _ :: _, [], h => by cases h
  | n :: ns, d :: ds, h => by
    obtain ⟨h1, h2⟩ := zip_fst (ns := ns) (ds := ds) (Nat.succ.inj h)
    exact ⟨by rw [List.zip_cons_cons, List.map_cons, List.map_cons, h1], by rw [List.zip_cons_cons, List.map_cons, h2]⟩
/-- a thing with fields, as it lies -/
theorem inst_of {w : Wd} {S : Store} {H : Hp} {x : V} {cf : String → List String} (hcf : T.cf = cf) (r : WR T w S H) {d : D} (p : Rep T w d x) :
    (∀ c ds, d = .obj c ds → ∃ a dx gs, x = .ref a ∧ H a = some (.ins (He.ga T.K (c : Str)) dx gs) ∧ gs.map (·.1) = ((cf c).zip ds).map (fun p => Str.ofString p.1) ∧ Reps T w (((cf c).zip ds).map (·.2)) (gs.map (·.2))) ∧
    (∀ n c fs, d = .ref n → S[n]? = some (.ins c fs) → ∃ a dx gs, x = .ref a ∧ w.am[n]? = some a ∧ H a = some (.ins (He.ga T.K (c : Str)) dx gs) ∧ gs.map (·.1) = fs.map (fun p => Str.ofString p.1) ∧ Reps T w (fs.map (·.2)) (gs.map (·.2))) := by
  constructor
  · rintro c ds rfl
    cases p with
    | obj h n q =>
      rename_i a dx fs
      have hl : (cf c).length = ds.length := by
        rw [hcf] at n
        have e := congrArg List.length n
        rw [List.length_map, List.length_map] at e
        rw [q.length, List.length_map]
        exact e.symm
      obtain ⟨z1, z2⟩ := zip_fst hl
      exact ⟨a, dx, fs, rfl, r.sub _ _ h, by rw [z1, n, hcf], by rw [z2]; exact q⟩
  · rintro n c fs rfl hS
    cases p with
    | ref h =>
      obtain ⟨dx, gs, h1, h2, h3⟩ := r.cell n _ _ hS h
      exact ⟨_, dx, gs, rfl, h, h1, h2, h3⟩
theorem ie_attr {cf : String → List String} {cs : List String} {fn : String} (hcf : T.cf = cf) (hK : X.K = T.K) (hc : ∀ c ∈ cs, Cls T.K (He.ga T.K (c : Str)) ∧ NoAttr T.K (He.ga T.K (c : Str)) (fn : Str)) (ha : IE T E X a f) (hb : attributeBase a (fn : Str) X.env (eval a X.env) = eval a X.env := by rfl) :
    IE T E X (.Attribute a (fn : Str) pos) (eAttr cf cs fn f) :=
  PE.mono (pe_fld ha hb) fun σ H Q ⟨w, env, S, r, e, q⟩ => ⟨w, env, S, r, e, (RP.bnd q).mono (fun d S1 h1 w1 H1 x l1 r1 p1 => by
    cases z : attrD cf cs fn d S1 with
    | none => rw [z] at h1; exact (show False from h1).elim
    | some y =>
      rw [z] at h1
      obtain ⟨i1, i2⟩ := inst_of hcf r1 p1
      unfold attrD at z
      split at z
      · rename_i c ds
        by_cases hcs : cs.contains c = true
        · rw [if_pos hcs] at z
          obtain ⟨p, dx, gs, rfl, h3, h4, h5⟩ := i1 c ds rfl
          obtain ⟨v, h6, h7⟩ := lookup_rep h4 h5 z
          obtain ⟨c1, c2⟩ := hc c (by simpa using hcs)
          rw [hK]
          exact ⟨p, _, dx, gs, v, rfl, h3, c1, c2, h6, h1 w1 H1 v l1 r1 h7⟩
        · rw [if_neg hcs] at z; cases z
      · rename_i n
        split at z
        · rename_i c fs hS
          by_cases hcs : cs.contains c = true
          · rw [if_pos hcs] at z
            obtain ⟨p, dx, gs, rfl, _, h3, h4, h5⟩ := i2 n c fs rfl hS
            obtain ⟨v, h6, h7⟩ := lookup_rep h4 h5 z
            obtain ⟨c1, c2⟩ := hc c (by simpa using hcs)
            rw [hK]
            exact ⟨p, _, dx, gs, v, rfl, h3, c1, c2, h6, h1 w1 H1 v l1 r1 h7⟩
          · rw [if_neg hcs] at z; cases z
        · cases z
      · cases z) fun _ _ _ x => x⟩
theorem is_setattr {cs : List String} {fn : String} {pos' : Pos} (hK : X.K = T.K) (hc : ∀ c ∈ cs, Cls T.K (He.ga T.K (c : Str)) ∧ NoAttr T.K (He.ga T.K (c : Str)) (fn : Str)) (ho : IE T E X a f) (hv : IE T E X b g) (hs : swapsWith b (some (.Attribute a (fn : Str) pos')) pos.line X.env = pure false := by rfl) :
    IS T E X (.Assign [.Attribute a (fn : Str) pos'] b pos) (sSetAttr cs fn f g) :=
  PS.mono (ps_fld ho hv hs) fun D σ H ⟨w, env, S, r, e, q⟩ => ⟨w, env, S, r, e, (RP.bnd q).mono (fun y S1 h1 w1 H1 yv l1 r1 p1 => ⟨w1, env, S1, r1, e.mono l1, (RP.bnd h1).mono (fun x S2 h2 w2 H2 xv l2 r2 p2 => by
    split at h2
    · rename_i n
      split at h2
      · rename_i c fs hS
        by_cases hcs : (cs.contains c && decide (fs.length < 1000)) = true
        · rw [if_pos hcs] at h2
          obtain ⟨k1, k2⟩ := Bool.and_eq_true_iff.mp hcs
          obtain ⟨p, dx, gs, rfl, hn, h3, h4, h5⟩ := (inst_of rfl r2 p2).2 n c fs rfl hS
          obtain ⟨c1, c2⟩ := hc c (by simpa using k1)
          have hlen : gs.length < 1000 := by
            have e1 := congrArg List.length h4
            rw [List.length_map, List.length_map] at e1
            rw [e1]
            exact of_decide_eq_true k2
          obtain ⟨h6, h7⟩ := put_rep (T := T) (w := w2) (f := fn) (p1.mono l2) h4 h5
          have r3 := r2.write hS hn (by intro z; cases z) (o' := .ins (He.ga T.K (c : Str)) dx (putF (Str.ofString fn) yv gs)) (c' := .ins c (setF fn y fs)) ⟨dx, _, upd_same, h6, h7⟩
          rw [hK]
          exact ⟨p, _, dx, gs, rfl, h3, c1, c2, hlen, h2 w2 _ σ (l1.trans l2) r3 (e.mono (l1.trans l2))⟩
        · rw [if_neg hcs] at h2; exact (show False from h2).elim
      · exact (show False from h2).elim
    · exact (show False from h2).elim) fun _ _ _ x => x.le l1⟩) fun _ _ _ x => x⟩
theorem inst_at {w : Wd} {S : Store} {H : Hp} {x : V} {cf : String → List String} {c m : String} {d : D} (hcf : T.cf = cf) (r : WR T w S H) (p : Rep T w d x) (h : isInst cf c m d S = true) : ∃ a dx gs, x = .ref a ∧ H a = some (.ins (He.ga T.K (c : Str)) dx gs) ∧ gs.lookup (Str.ofString m) = none := by
  obtain ⟨i1, i2⟩ := inst_of hcf r p
  unfold isInst at h
  split at h
  · rename_i c' ds
    obtain ⟨h1, h2⟩ := Bool.and_eq_true_iff.mp h
    have e : c' = c := by simpa using h1
    subst e
    obtain ⟨a, dx, gs, e1, e2, e3, e4⟩ := i1 c' ds rfl
    refine ⟨a, dx, gs, e1, e2, lookup_none e3 ?_⟩
    have hn : m ∉ cf c' := by simpa using h2
    rw [List.lookup_eq_none_iff]
    rintro ⟨k, v⟩ hp
    have hk : k ∈ cf c' := (List.of_mem_zip hp).1
    simp only [bne_iff_ne, ne_eq, beq_eq_false_iff_ne]
    intro z
    subst z
    exact hn hk
  · rename_i n
    split at h
    · rename_i c' fs hS
      obtain ⟨h1, h2⟩ := Bool.and_eq_true_iff.mp h
      have e : c' = c := by simpa using h1
      subst e
      obtain ⟨a, dx, gs, e1, _, e2, e3, e4⟩ := i2 n c' fs rfl hS
      exact ⟨a, dx, gs, e1, e2, lookup_none e3 (by simpa using h2)⟩
    · cases h
  · cases h
theorem ie_meth {cf : String → List String} {cn mn : String} {k n : Nat} {d : He.DefD} {apos : Pos} {pl : Sem Bool} {kws : List Keyword} {ps ks : List Str} {m : Fn} {pk : List (Nat × Nat)} {dfs : List D} (hcf : T.cf = cf) (F : OkF T X.prog X.w X.mg X.base k d ps m) (hK : X.K = T.K) (hr : RG k X.A)
    (hc : Cls T.K (He.ga T.K (cn : Str))) (hm : Meth T.K (He.ga T.K (cn : Str)) (mn : Str) (He.fAd T.K d.at_))
    (hb : ∀ fd, FunD T.K d.name d.qual d.params d.body d.scope (d.dvs T.K) [] (He.fAd T.K d.at_) fd → KBD T fd ps (n + 1) ks pk dfs) (tk : L2N.Takes X fun c d _ H => E c d H) (ho : IE T E X a f) (ha : AK T E X es kws pos ks fa fk)
    (ht : eval (.Call (.Attribute a (mn : Str) apos) es kws pos) X.env = (do
      let ov ← eval a X.env
      standAt apos.atName
      let (f, first) ← holding [ov] (getMethod ov (mn : Str) pl)
      callWith pos f first (backTo pos (starEach es X.env)) (backToKw pos (keywordEach kws X.env))) := by rfl) :
    IE T E X (.Call (.Attribute a (mn : Str) apos) es kws pos) (eMeth cf cn mn (callM m (n + 1) ks.length ps.length pk dfs) f fa fk) := by
  obtain ⟨fd, FD, FO⟩ := F.ex
  refine ⟨fun pins s σ H Q I h => ?_⟩
  obtain ⟨w, env, S, r, e, q⟩ := h
  refine PySem.W.methodCall_KW (pl := pl) (thn (ho.run pins s σ H (fun x H1 => ∃ w1 d1 S1, w.le w1 ∧ WR T w1 S1 H1 ∧ Rep T w1 d1 x ∧ isInst cf cn mn d1 S1 = true ∧ RP ((fa env S1).bnd fun xs S2 => (fk env S2).bnd fun zs S3 => callM m (n + 1) ks.length ps.length pk dfs (d1 :: xs) zs S3) (Pk T w Q) (XW T w E)) I ⟨w, env, S, r, e, (RP.bnd q).mono (fun d1 S1 h1 w1 H1 x l1 r1 p1 => by
    by_cases hi : isInst cf cn mn d1 S1 = true
    · rw [if_pos hi] at h1
      exact ⟨w1, d1, S1, l1, r1, p1, hi, h1⟩
    · rw [if_neg hi] at h1
      exact (show False from h1).elim) fun _ _ _ x => x⟩) fun u s1 ⟨x, H1, I1, rx, w1, d1, S1, l1, r1, p1, hi, h1⟩ => ?_) ht
  obtain ⟨p, dx, gs, rfl, h3, h4⟩ := inst_at hcf r1 p1 hi
  obtain rfl : u = Value.ref p := rx
  refine getmeth_ok I1 h3 (by rw [hK]; exact hc) (by rw [hK]; exact hm) h4 ?_
  refine ha pins s1 σ H1 w1 env S1 _ Q _ [.ref p] _ I1 r1 (e.mono l1) (by rw [hK]; exact hm.kp) (RP.mono h1 (fun d S' q w' H' v l => q w' H' v (l1.trans l)) fun _ _ _ x => x.le l1) fun s2 H2 us ws vs zs w2 xs ys S2 I2 l2 r2 rv rz px py q2 => ?_
  obtain ⟨c1, c2, c3, q3⟩ := callM_ok q2
  exact fn_core FO hK hr (hb fd FD) tk I2 r2 (.cons (show RelV (V.ref p) (Value.ref p) from rfl) rv) rz (.cons (p1.mono l2) px) py c1 c2 c3 q3
end Ro
end
section
set_option Elab.async false
set_option linter.all false
set_option maxRecDepth 100000
set_option maxHeartbeats 4000000
namespace Ro
open PySem PySem.Spec PyProof.Rows L2
variable {T : Tb} {E : XK} {X : Cx} {a b c : Expr} {es : List Expr} {f g h : EX} {fa ga fk : AX} {fb gb : BX} {pos : Pos} {st : Stmt} {sts rest : List Stmt} {s t : ES}
theorem orOp2 {fn : Value → Value → Sem Value} {op : D → D → Option D} (h : ∀ w d e r S x y H Q, WR T w S H → Rep T w d x → Rep T w e y → op d e = some r → (∀ w' H' z, w.le w' → WR T w' S H' → Rep T w' r z → Q z H') → ∃ r, OpR X fn r ∧ r x y H Q) : OpR X fn (rOp T op) := fun pins s σ H x y v u Q I rx ry q => by
  obtain ⟨w, d, e, r, S, h1, h2, h3, h4, h5⟩ := q
  obtain ⟨r', ho, q'⟩ := h w d e r S x y H Q h1 h2 h3 h4 h5
  exact ho pins s σ H x y v u Q I rx ry q'
theorem oi_add (hK : X.K = T.K) : OpR X (binaryOp .Add) (rOp T addD) := orOp2 fun w d e r S x y H Q h1 h2 h3 h4 h5 => by
  unfold addD at h4
  split at h4
  · cases h2; cases h3; cases h4
    exact ⟨_, op_add, _, _, rfl, rfl, h5 w H _ (Wd.le.refl _) h1 (.int _)⟩
  · cases h2; cases h3
    split at h4
    · rename_i hl
      cases h4
      exact ⟨_, op_add_str, _, _, rfl, rfl, by rw [sizeLine_eq]; exact hl, h5 w H _ (Wd.le.refl _) h1 (.str _)⟩
    · cases h4
  · rename_i l m
    cases h2 with
    | tup q2 r2 =>
    cases h3 with
    | tup q3 r3 =>
    split at h4
    · rename_i hl
      cases h4
      refine ⟨_, op_catA, _, _, _, _, rfl, rfl, by rw [hK]; exact sqt_sub h1 q2, by rw [hK]; exact sqt_sub h1 q3, by rw [sizeLine_eq, ← r2.length, ← r3.length]; exact hl, fun e => ?_, fun e1 e2 => ?_, fun e1 e2 p hp => ?_⟩
      · subst e
        cases r2
        exact h5 w H _ (Wd.le.refl _) h1 (.tup q3 r3)
      · subst e2
        cases r3
        rw [List.append_nil] at h5
        exact h5 w H _ (Wd.le.refl _) h1 (.tup q2 r2)
      · obtain ⟨l1, r1⟩ := h1.new hp (.tup _)
        exact h5 _ _ _ l1 r1 (.tup (.inl (.inl upd_same)) ((r2.append r3).mono l1))
    · cases h4
  · rename_i l m
    cases h2 with
    | lst q2 r2 =>
    cases h3 with
    | lst q3 r3 =>
    split at h4
    · rename_i hl
      cases h4
      refine ⟨_, op_cat, _, _, _, _, rfl, rfl, h1.sub _ _ q2, h1.sub _ _ q3, by rw [sizeLine_eq, ← r2.length, ← r3.length]; exact hl, fun p hp => ?_⟩
      obtain ⟨l1, r1⟩ := h1.new hp (.lst _)
      exact h5 _ _ _ l1 r1 (.lst upd_same ((r2.append r3).mono l1))
    · cases h4
  · cases h4
theorem oi_sub : OpR X (binaryOp .Sub) (rOp T subD) := orOp2 fun w d e r S x y H Q h1 h2 h3 h4 h5 => by
  unfold subD at h4
  split at h4
  · cases h2; cases h3; cases h4
    exact ⟨_, op_sub, _, _, rfl, rfl, h5 w H _ (Wd.le.refl _) h1 (.int _)⟩
  · cases h4
theorem oi_mul : OpR X (binaryOp .Mult) (rOp T mulD) := orOp2 fun w d e r S x y H Q h1 h2 h3 h4 h5 => by
  unfold mulD at h4
  split at h4
  · cases h2; cases h3
    split at h4
    · rename_i hl
      cases h4
      exact ⟨_, op_mulW, _, _, rfl, rfl, (by unfold CMulW; simpa [mulOk] using hl), h5 w H _ (Wd.le.refl _) h1 (.int _)⟩
    · cases h4
  · cases h4
theorem oi_fdiv : OpR X (binaryOp .FloorDiv) (rOp T fdivD) := orOp2 fun w d e r S x y H Q h1 h2 h3 h4 h5 => by
  unfold fdivD at h4
  split at h4
  · cases h2; cases h3
    split at h4
    · rename_i hl
      cases h4
      exact ⟨_, op_fdivW, _, _, rfl, rfl, hl, h5 w H _ (Wd.le.refl _) h1 (.int _)⟩
    · cases h4
  · cases h4
theorem oi_mod : OpR X (binaryOp .Mod) (rOp T modD) := orOp2 fun w d e r S x y H Q h1 h2 h3 h4 h5 => by
  unfold modD at h4
  split at h4
  · cases h2; cases h3
    split at h4
    · rename_i hl
      cases h4
      exact ⟨_, op_mod, _, _, rfl, rfl, hl, h5 w H _ (Wd.le.refl _) h1 (.int _)⟩
    · cases h4
  · cases h4
theorem oi_pow : OpR X (binaryOp .Pow) (rOp T powD) := orOp2 fun w d e r S x y H Q h1 h2 h3 h4 h5 => by
  unfold powD at h4
  split at h4
  · cases h2; cases h3
    split at h4
    · rename_i hl
      cases h4
      exact ⟨_, op_pow, _, _, rfl, rfl, hl, h5 w H _ (Wd.le.refl _) h1 (.int _)⟩
    · cases h4
  · cases h4
theorem oi_le : OpR X (compareOp .LtE) (rOp T leD) := orOp2 fun w d e r S x y H Q h1 h2 h3 h4 h5 => by
  unfold leD at h4
  split at h4
  · cases h2; cases h3; cases h4
    exact ⟨_, op_le, _, _, rfl, rfl, h5 w H _ (Wd.le.refl _) h1 (.bl _)⟩
  · cases h4
theorem oi_gt : OpR X (compareOp .Gt) (rOp T gtD) := orOp2 fun w d e r S x y H Q h1 h2 h3 h4 h5 => by
  unfold gtD at h4
  split at h4
  · cases h2; cases h3; cases h4
    exact ⟨_, op_gt, _, _, rfl, rfl, h5 w H _ (Wd.le.refl _) h1 (.bl _)⟩
  · cases h4
theorem reps_atP {w : Wd} {l : List D} {vs : List V} {i : Int} {d : D} (r : Reps T w l vs) (h : atP l i = some d) : ∃ v, atI vs i = some v ∧ Rep T w d v := by
  unfold atP at h
  cases z : pyIx l.length i with
  | none => rw [z] at h; cases h
  | some j =>
    rw [z] at h
    obtain ⟨v, h1, h2⟩ := r.get (show l[j]? = some d from h)
    refine ⟨v, ?_, h2⟩
    unfold atI
    rw [show ixN vs.length i = some j from by rw [← r.length]; exact z]
    exact h1
theorem ie_idx (hK : X.K = T.K) (ha : IE T E X a f) (hb : IE T E X b g) (hs : PlainIx b := by exact fun _ _ => rfl) : IE T E X (.Subscript a b pos) (eIdx f g) :=
  PE.mono (pe_ix ix_seq ha hb hs) fun σ H Q q => by
    have q2 := tI_two (k := fun x y S => lift (idxD x y) S) q
    obtain ⟨w, env, S, r, e, h⟩ := q2
    refine ⟨w, env, S, r, e, h.mono (fun d S1 h1 w1 H1 x l1 r1 p1 => ?_) fun _ _ _ x => x⟩
    obtain ⟨w2, env2, S2, r2, e2, h2⟩ := h1 w1 H1 x l1 r1 p1
    refine ⟨w2, env2, S2, r2, e2, h2.mono (fun d S1 h1 w1 H1 x l1 r1 p1 => ?_) fun _ _ _ x => x⟩
    obtain ⟨w3, d3, e3, S3, r3, p3, q3, h3⟩ := h1 w1 H1 x l1 r1 p1
    obtain ⟨w3, d3, e3, rr, S3, r3, p3, q3, hh, h3⟩ := rOp_of r3 p3 q3 h3
    unfold idxD at hh
    rw [hK]
    split at hh
    · cases q3
      cases p3 with
      | tup qq rq =>
        obtain ⟨v, a1, a2⟩ := reps_atP rq hh
        exact .inr (.inl ⟨_, _, _, v, rfl, rfl, sqt_sub r3 qq, a1, h3 w3 _ _ (Wd.le.refl _) r3 a2⟩)
    · cases q3
      cases p3 with
      | lst qq rq =>
        obtain ⟨v, a1, a2⟩ := reps_atP rq hh
        exact .inl ⟨_, _, _, v, rfl, rfl, .inl (.inl (r3.sub _ _ qq)), a1, h3 w3 _ _ (Wd.le.refl _) r3 a2⟩
    · rename_i l i
      cases q3
      cases p3 with
      | scr qq =>
        cases z : atP l i with
        | none => rw [z] at hh; cases hh
        | some k =>
          rw [z] at hh
          cases hh
          refine .inl ⟨_, _, _, .int k, rfl, rfl, sql_sub r3 qq, ?_, h3 w3 _ _ (Wd.le.refl _) r3 (.int _)⟩
          unfold atP at z
          unfold atI
          rw [List.length_map]
          cases z2 : pyIx l.length i with
          | none => rw [z2] at z; cases z
          | some j =>
            rw [z2] at z
            rw [show ixN l.length i = some j from z2]
            show (l.map V.int)[j]? = _
            rw [List.getElem?_map, show l[j]? = some k from z]
            rfl
    · rename_i s i
      cases q3
      cases p3
      split at hh
      · rename_i hl
        cases z : atP s.cps.toList i with
        | none => rw [z] at hh; cases hh
        | some c =>
          rw [z] at hh
          cases hh
          exact .inr (.inr ⟨s, i, c, rfl, rfl, by rw [sizeLine_eq]; exact hl, z, h3 w3 _ _ (Wd.le.refl _) r3 (.str _)⟩)
      · cases hh
    · cases hh
theorem ie_idxM (hK : X.K = T.K) (ha : IE T E X a f) (hb : IE T E X b g) (hs : PlainIx b := by exact fun _ _ => rfl) : IE T E X (.Subscript a b pos) (eIdxM f g) :=
  PE.mono (pe_ix ix_list ha hb hs) fun σ H Q q => by
    have q2 := tI_two (k := fun x y S => lift (idxM x y S) S) q
    obtain ⟨w, env, S, r, e, h⟩ := q2
    refine ⟨w, env, S, r, e, h.mono (fun d S1 h1 w1 H1 x l1 r1 p1 => ?_) fun _ _ _ x => x⟩
    obtain ⟨w2, env2, S2, r2, e2, h2⟩ := h1 w1 H1 x l1 r1 p1
    refine ⟨w2, env2, S2, r2, e2, h2.mono (fun d S1 h1 w1 H1 x l1 r1 p1 => ?_) fun _ _ _ x => x⟩
    obtain ⟨w3, d3, e3, S3, r3, p3, q3, h3⟩ := h1 w1 H1 x l1 r1 p1
    cases z : idxM d3 e3 S3 with
    | none => rw [z] at h3; exact (show False from h3).elim
    | some y =>
      rw [z] at h3
      unfold idxM at z
      split at z
      · rename_i n i
        split at z
        · rename_i l hS
          cases q3
          cases p3 with
          | ref hn =>
            obtain ⟨vs, c1, c2⟩ := r3.cell n _ _ hS hn
            obtain ⟨v, a1, a2⟩ := reps_atP c2 z
            exact ⟨_, _, _, v, rfl, rfl, .inl (.inl c1), a1, h3 w3 _ _ (Wd.le.refl _) r3 a2⟩
        · cases z
      · cases z
theorem is_setit {pos' : Pos} (hv : IE T E X c h) (ho : IE T E X a f) (hi : IE T E X b g) (hs : swapsWithSole [.Subscript a b pos'] c pos.line X.env = pure false := by rfl) (hw : swappedStores [.Subscript a b pos'] c X.env = pure none := by rfl)
    (h1 : (assignEach [.Subscript a b pos'] X.env).map (·.2) = [assign (.Subscript a b pos') X.env] := by rfl)
    (hasg : ∀ v, assign (.Subscript a b pos') X.env v = (do
      let ov ← holding [v] (eval a X.env)
      let iv ← holding [v, ov] (eval b X.env)
      standAt pos'
      holding [v, ov, iv] (setItem ov iv v)
      release [v, ov, iv] []) := by intro _; rfl) : IS T E X (.Assign [.Subscript a b pos'] c pos) (sSetIt f g h) :=
  PS.mono (ps_asg hv (pg_sub ho hi set_list hasg) hs hw h1) fun D σ H ⟨w, env, S, r, e, q⟩ => ⟨w, env, S, r, e, (RP.bnd q).mono (fun z S1 h1 w1 H1 zv l1 r1 p1 => ⟨w1, env, S1, r1, e.mono l1, (RP.bnd h1).mono (fun x S2 h2 w2 H2 xv l2 r2 p2 => ⟨w2, env, S2, r2, (e.mono l1).mono l2, (RP.bnd h2).mono (fun y S3 h3 w3 H3 yv l3 r3 p3 => by
    cases z2 : setM x y z S3 with
    | none => rw [z2] at h3; exact (show False from h3).elim
    | some S4 =>
      rw [z2] at h3
      unfold setM at z2
      split at z2
      · rename_i n i
        split at z2
        · rename_i l hS
          cases zj : pyIx l.length i with
          | none => rw [zj] at z2; cases z2
          | some j =>
            rw [zj] at z2
            cases z2
            cases p3
            cases (p2.mono l3) with
            | ref hn =>
              obtain ⟨vs, c1, c2⟩ := r3.cell n _ _ hS hn
              have lt := (l1.trans l2).trans l3
              refine ⟨_, vs, i, j, rfl, rfl, c1, by rw [← c2.length]; exact zj, ?_⟩
              exact h3 w3 _ σ lt (r3.write hS hn (by intro z; cases z) ⟨_, upd_same, c2.set ((p1.mono l2).mono l3) j⟩) (e.mono lt)
        · cases z2
      · cases z2) fun _ _ _ x => x.le (l1.trans l2)⟩) fun _ _ _ x => x.le l1⟩) fun _ _ _ x => x⟩
end Ro
end
section
set_option Elab.async false
set_option linter.all false
set_option maxRecDepth 100000
set_option maxHeartbeats 4000000
namespace Ro
open PySem PySem.Spec PyProof.Rows L2
variable {T : Tb} {E : XK} {X : Cx} {a b c : Expr} {es : List Expr} {f g h : EX} {fa ga fk : AX} {fb gb : BX} {pos : Pos} {st : Stmt} {sts rest : List Stmt} {s t : ES}
theorem frzM_ok {cf : String → List String} (hcf : T.cf = cf) {w : Wd} {S : Store} {H : Hp} {x : V} {d : D} {Pk : D → Store → Prop} {Pe : String → List D → Store → Prop} (r : WR T w S H) (p : Rep T w d x) (h : RP (frzM cf (.ok d S)) Pk Pe) :
    ∃ w' d' S', w.le w' ∧ WR T w' S' H ∧ Rep T w' d' x ∧ Pk d' S' := by
  unfold frzM at h
  rw [bnd_ok] at h
  split at h
  · rename_i n
    cases p with
    | ref hn =>
    split at h
    · rename_i c fs hS
      split at h
      · rename_i he
        obtain ⟨dx, gs, h1, h2, h3⟩ := r.cell n _ _ hS hn
        obtain ⟨l, r'⟩ := r.freeze hS hn (by intro z; cases z) h1
        refine ⟨_, _, _, l, r', .obj (dx := dx) (fs := gs) upd_same ?_ (h3.mono l), h⟩
        rw [h2, hcf, ← he, List.map_map]
        rfl
      · exact (show False from h).elim
    · rename_i l0 hS
      obtain ⟨vs, h1, h2⟩ := r.cell n _ _ hS hn
      obtain ⟨l, r'⟩ := r.freeze hS hn (by intro z; cases z) h1
      exact ⟨_, _, _, l, r', .lst upd_same (h2.mono l), h⟩
    · rename_i l0 hS
      obtain ⟨vs, h1, h2⟩ := r.cell n _ _ hS hn
      obtain ⟨l, r'⟩ := r.freeze hS hn (by intro z; cases z) h1
      exact ⟨_, _, _, l, r', .dct upd_same (h2.mono l), h⟩
    · exact (show False from h).elim
  · exact (show False from h).elim
theorem frzM_bnd {cf : String → List String} {r : R D} {Pk : D → Store → Prop} {Pe : String → List D → Store → Prop} (h : RP (frzM cf r) Pk Pe) : RP r (fun d S => RP (frzM cf (.ok d S)) Pk Pe) Pe := by
  cases r with
  | ok d S => exact h
  | err c fs S => exact h
  | bad => exact h
theorem ie_frz {cf : String → List String} (hcf : T.cf = cf) (ha : IE T E X a f) : IE T E X a (eFrz cf f) :=
  PE.mono ha fun σ H Q ⟨w, env, S, r, e, q⟩ => ⟨w, env, S, r, e, (frzM_bnd q).mono (fun d S1 h1 w1 H1 x l1 r1 p1 => by
    obtain ⟨w2, d2, S2, l2, r2, p2, h2⟩ := frzM_ok hcf r1 p1 h1
    exact h2 w2 H1 x (l1.trans l2) r2 p2) fun _ _ _ x => x⟩
theorem make_core {k n : Nat} {cn : String} {fd : FuncData} {fp : Addr} {ps ks : List Str} {m : Fn} {pk : List (Nat × Nat)} {dfs : List D} (F : FnG X.prog X.w T.K X.mg X.base k fp fd ps (spI T ps.length m)) (M : Mk T.K (He.ga T.K (cn : Str)) fp) (hK : X.K = T.K) (hr : RG (k + 1) X.A) (hb : KBD T fd ps (n + 1) ks pk dfs) (tk : L2N.Takes X fun c d _ H => E c d H)
    {pins : List (Addr × Obj)} {s : Shared} {σ : St} {H : Hp} {w : Wd} {S : Store} {us ws : List Value} {vs zs : List V} {xs ys : List D} {Q : VK} (I : Inv X pins σ H s) (r : WR T w S H) (rv : Vals vs us) (rz : Vals zs ws) (px : Reps T w xs vs) (py : Reps T w ys zs)
    (q : RP (newM cn (callM m (n + 1) ks.length ps.length pk dfs) xs ys S) (Pk T w Q) (XW T w E)) : wpAny (model X.prog X.w) X.A (call (.ref (He.ga T.K (cn : Str))) us (ks.zip ws)) (EP X pins σ Q) X.xe s := by
  obtain ⟨its, dvs, kb, rd⟩ := hb.ex
  have F' : FnG X.prog X.w X.K X.mg X.base k fp fd ps (spI T ps.length m) := by rw [hK]; exact F
  have M' : Mk X.K (He.ga T.K (cn : Str)) fp := by rw [hK]; exact M
  have kb' : KBn X.K fd ps (n + 1) ks (fun us ws => pick pk us its ws) (fun vs zs => pick pk vs dvs zs) := by rw [hK]; exact kb
  have q1 := RP.bnd (show RP (newM cn (callM m (n + 1) ks.length ps.length pk dfs) xs ys S) _ _ from q)
  obtain ⟨c1, c2, c3, q2⟩ := callM_ok q1
  have l1 : xs.length = n := by simpa using c1
  refine FnG.makes M' F' hr kb' (L2N.passes_call tk fun _ _ _ _ h => h) I rv rz (by rw [← px.length]; exact l1) (by rw [← py.length]; exact c2) fun x dx hx hdx hne => ?_
  have hx2 : upd H dx (.own x) x = none := by rw [upd_ne hne.symm]; exact hx
  have r0 : WR T w S (upd H dx (.own x)) := r.grow fun a u e => by rw [upd_ne (ne_of_none e hdx)]; exact e
  obtain ⟨l2, r2, at_⟩ := r0.alloc (o := .ins (He.ga T.K (cn : Str)) dx []) (c := .ins cn []) hx2 ⟨dx, [], upd_same, rfl, .nil⟩
  have pp := reps_pick pk (T := T) (w := ⟨w.G, w.am ++ [x], w.hid⟩) (.cons (.ref at_) (px.mono l2)) (rd _) (py.mono l2)
  refine ⟨by rw [← pp.length]; exact c3, _, _, _, r2, pp, q2.mono (fun d S1 h1 w1 H1 v l3 r3 p3 => ?_) fun _ _ _ x => x.le l2⟩
  cases p3 with
  | non => exact ⟨rfl, h1 w1 H1 _ (l2.trans l3) r3 (.ref (l3.tosb.at at_))⟩
  | _ => exact (show False from h1).elim
/-- C(.., k = ..) -/
theorem ie_new {k n : Nat} {cn : String} {d : He.DefD} {p : Pos} {kws : List Keyword} {ps ks : List Str} {m : Fn} {pk : List (Nat × Nat)} {dfs : List D} (F : OkF T X.prog X.w X.mg X.base k d ps m) (M : Mk T.K (He.ga T.K (cn : Str)) (He.fAd T.K d.at_)) (hK : X.K = T.K) (hr : RG (k + 1) X.A) (hg : Gl X (cn : Str)) (hm : X.mg (cn : Str) = some (.ref (He.ga T.K (cn : Str))))
    (hb : ∀ fd, FunD T.K d.name d.qual d.params d.body d.scope (d.dvs T.K) [] (He.fAd T.K d.at_) fd → KBD T fd ps (n + 1) ks pk dfs) (tk : L2N.Takes X fun c d _ H => E c d H) (ha : AK T E X es kws pos ks fa fk) (hdb : ((cn : Str) == ("__debug__" : Str)) = false := by decide +kernel) :
    IE T E X (.Call (.Name (cn : Str) p) es kws pos) (eFn (newM cn (callM m (n + 1) ks.length ps.length pk dfs)) fa fk) := by
  obtain ⟨fd, FD, FO⟩ := F.ex
  refine ⟨fun pins s σ H Q I h => ?_⟩
  obtain ⟨w, env, S, r, e, q⟩ := h
  refine wpAny_Call_Name_kw (ld_glob I hg hm ?_ hdb)
  refine ha pins s σ H w env S _ Q _ [] _ I r e (by rw [hK]; exact M.kp) q fun s2 H2 us ws vs zs w2 xs ys S2 I2 l2 r2 rv rz px py q2 => ?_
  exact make_core FO M hK hr (hb fd FD) tk I2 r2 rv rz px py q2
theorem er_wipe {w : Wd} {env : Env} {σ : St} (r : ER T w env σ) : ∀ vs : List Nat, ER T w (wipeE env vs) (wipe σ vs)
  | [] => r
  | v :: vs => by
    have ih := er_wipe r vs
    refine ⟨by show ((wipeE env vs).set v none).length = ((wipe σ vs).set v none).length; rw [List.length_set, List.length_set, ih.1], fun i d h => ?_⟩
    have h : ((wipeE env vs).set v none)[i]? = some (some d) := h
    show ∃ x, ((wipe σ vs).set v none)[i]? = some (some x) ∧ _
    by_cases hv : v = i
    · subst hv
      rw [List.getElem?_set] at h
      simp only [if_true] at h
      split at h <;> cases h
    · rw [List.getElem?_set_ne hv] at h ⊢
      exact ih.2 i d h
theorem RP.nox {α : Type} {r : R α} {Pk : α → Store → Prop} {Pe : String → List D → Store → Prop} (h : RP r.nox Pk Pe) (Pe' : String → List D → Store → Prop) : RP r Pk Pe' := by
  cases r with
  | ok a S => exact h
  | err c fs S => exact (show False from h).elim
  | bad => exact h
def ITs (T : Tb) (E : XK) (X : Cx) (ifs : List Expr) (fb : BX) : Prop := PTs X ifs (tIb T E fb)
theorem PTs.mono {X : Cx} {e : List Expr} {t t' : TT} (h : PTs X e t) (k : ∀ σ H Q, t' σ H Q → t σ H Q) : PTs X e t' := ⟨fun pins s σ H Q I q => h.run pins s σ H Q I (k _ _ _ q)⟩
theorem its_nil : ITs T E X [] bYes := PTs.mono pts_nil fun σ H Q ⟨w, env, S, r, e, q⟩ => q w H (Wd.le.refl _) r
theorem its_one (h : IB T E X c fb) : ITs T E X [c] fb := pts_one h
abbrev E00 : XK := fun _ _ _ => False
/-- a list that is being made -/
theorem WR.hide {w : Wd} {S : Store} {H : Hp} {p : Addr} (r : WR T w S H) (hp : H p = none) : WR T ⟨w.G, w.am, (p, []) :: w.hid⟩ S (upd H p (.lst [])) := by
  have k : ∀ a u, H a = some u → upd H p (.lst []) a = some u := fun a u e => by rw [upd_ne (ne_of_none e hp)]; exact e
  have sb : Wd.sb w ⟨w.G, w.am, (p, []) :: w.hid⟩ := ⟨fun _ _ h => h, [], by simp⟩
  refine ⟨fun a u e => k _ _ (r.sub _ _ e), r.len, r.nd, fun a ha => (r.has a ha).elim fun u e => ⟨u, k _ _ e.1, e.2⟩, r.out, fun n c a h1 h2 => (r.cell n c a h1 h2).keep sb fun u e => k _ _ e, tabs_new r.tabs hp, ?_, fun q hq => ?_, r.nt⟩
  · show (p :: w.hid.map (·.1)).Nodup
    refine List.nodup_cons.mpr ⟨fun z => ?_, r.hn⟩
    obtain ⟨q, hq, e⟩ := List.mem_map.mp z
    obtain ⟨_, _, vs, z3, _⟩ := r.hd q hq
    rw [e, hp] at z3
    cases z3
  · rcases List.mem_cons.mp hq with e | hq
    · subst e
      refine ⟨r.free hp, fun z => ?_, [], upd_same, .nil⟩
      obtain ⟨u, e, _⟩ := r.has p z
      rw [hp] at e
      cases e
    · obtain ⟨z1, z2, vs, z3, z4⟩ := r.hd q hq
      exact ⟨z1, z2, vs, k _ _ z3, z4.monoS sb⟩
theorem WR.hidPut {w : Wd} {S : Store} {H : Hp} {p : Addr} {l : List D} {hs : List (Addr × List D)} {d : D} {v : V} (r : WR T w S H) (hh : w.hid = (p, l) :: hs) (q : Rep T w d v) : ∃ vs, H p = some (.lst vs) ∧ vs.length = l.length ∧ WR T ⟨w.G, w.am, (p, l ++ [d]) :: hs⟩ S (upd H p (.lst (vs ++ [v]))) := by
  obtain ⟨z1, z2, vs, z3, z4⟩ := r.hd (p, l) (by rw [hh]; exact List.mem_cons_self ..)
  have hn := r.hn
  rw [hh] at hn
  have hn' : p ∉ hs.map (·.1) := (List.nodup_cons.mp (show (p :: hs.map (·.1)).Nodup from hn)).1
  have sb : Wd.sb w ⟨w.G, w.am, (p, l ++ [d]) :: hs⟩ := ⟨fun _ _ h => h, [], by simp⟩
  have k : ∀ a u, a ≠ p → H a = some u → upd H p (.lst (vs ++ [v])) a = some u := fun a u hne e => by rw [upd_ne hne]; exact e
  refine ⟨vs, z3, z4.length.symm, fun a u e => k _ _ (fun z => by rw [z] at e; rw [show w.G p = none from z1] at e; cases e) (r.sub _ _ e), r.len, r.nd, fun a ha => ?_, r.out, fun n c a h1 h2 => (r.cell n c a h1 h2).keep sb fun u e => k _ _ (fun z => z2 (by show p ∈ w.am; rw [← z]; exact List.mem_of_getElem? h2)) e, tabs_upd r.tabs z3 noTab_lst, hn, fun q2 hq => ?_, r.nt⟩
  · obtain ⟨u, e, nt⟩ := r.has a ha
    exact ⟨u, k _ _ (fun z => z2 (by show p ∈ w.am; rw [← z]; exact ha)) e, nt⟩
  · rcases List.mem_cons.mp hq with e | hq
    · subst e
      exact ⟨z1, z2, _, upd_same, (z4.append (.cons q .nil)).monoS sb⟩
    · obtain ⟨y1, y2, us, y3, y4⟩ := r.hd q2 (by rw [hh]; exact List.mem_cons_of_mem _ hq)
      exact ⟨y1, y2, us, k _ _ (fun z => hn' (by rw [← z]; exact List.mem_map_of_mem hq)) y3, y4.monoS sb⟩
theorem WR.shown {w : Wd} {S : Store} {H : Hp} {p : Addr} {l : List D} {hs : List (Addr × List D)} (r : WR T w S H) (hh : w.hid = (p, l) :: hs) : ∃ vs, Wd.sb w ⟨upd w.G p (.lst vs), w.am, hs⟩ ∧ WR T ⟨upd w.G p (.lst vs), w.am, hs⟩ S H ∧ Rep T ⟨upd w.G p (.lst vs), w.am, hs⟩ (.lst l) (.ref p) := by
  obtain ⟨z1, z2, vs, z3, z4⟩ := r.hd (p, l) (by rw [hh]; exact List.mem_cons_self ..)
  have z1 : w.G p = none := z1
  have hn := r.hn
  rw [hh] at hn
  have hn2 := List.nodup_cons.mp (show (p :: hs.map (·.1)).Nodup from hn)
  have sb : Wd.sb w ⟨upd w.G p (.lst vs), w.am, hs⟩ := ⟨fun a u e => by show upd w.G p (.lst vs) a = some u; rw [upd_ne (ne_of_none e z1)]; exact e, [], by simp⟩
  refine ⟨vs, sb, ⟨fun a u e => ?_, r.len, r.nd, r.has, fun n c a h1 h2 h3 => ?_, fun n c a h1 h2 => (r.cell n c a h1 h2).keep sb fun _ e => e, r.tabs, hn2.2, fun q hq => ?_, fun a ps e => ?_⟩, .lst upd_same (z4.monoS sb)⟩
  · have e : upd w.G p (.lst vs) a = some u := e
    by_cases h : a = p
    · subst h
      rw [upd_same] at e
      rw [← e]
      exact z3
    · rw [upd_ne h] at e
      exact r.sub _ _ e
  · show upd w.G p (.lst vs) a = none
    rw [upd_ne (fun z => z2 (by show p ∈ w.am; rw [← z]; exact List.mem_of_getElem? h2))]
    exact r.out n c a h1 h2 h3
  · obtain ⟨y1, y2, us, y3, y4⟩ := r.hd q (by rw [hh]; exact List.mem_cons_of_mem _ hq)
    refine ⟨?_, y2, us, y3, y4.monoS sb⟩
    show upd w.G p (.lst vs) q.1 = none
    rw [upd_ne (fun z => hn2.1 (by rw [← z]; exact List.mem_map_of_mem hq))]
    exact y1
  · have e : upd w.G p (.lst vs) a = some (.tbl ps) := e
    by_cases h : a = p
    · rw [h, upd_same] at e
      cases e
    · rw [upd_ne h] at e
      exact r.nt a ps e
theorem lc_noerr {p : Pat} {fb : BX} {el : EX} {env : Env} : ∀ {ds acc : List D} {S : Store} {c : String} {fs : List D} {S' : Store}, lcLoop p fb el env ds acc S = .err c fs S' → False
  | [], _, _, _, _, _, h => by cases h
  | d :: ds, acc, S, c, fs, S', h => by
    unfold lcLoop at h
    cases z : p d env with
    | none => rw [z] at h; cases h
    | some e1 =>
      rw [z] at h
      have h : ((fb e1 S).nox.bnd fun k S1 => if k then (el e1 S1).nox.bnd fun y S2 => if acc.length < LINE then lcLoop p fb el env ds (acc ++ [y]) S2 else .bad else lcLoop p fb el env ds acc S1) = .err c fs S' := h
      cases z1 : fb e1 S with
      | ok k S1 =>
        rw [z1, nox_ok, bnd_ok] at h
        cases k with
        | true =>
          rw [if_pos rfl] at h
          cases z2 : el e1 S1 with
          | ok y S2 =>
            rw [z2, nox_ok, bnd_ok] at h
            split at h
            · exact lc_noerr h
            · cases h
          | err _ _ _ => rw [z2] at h; cases h
          | bad => rw [z2] at h; cases h
        | false =>
          rw [if_neg Bool.false_ne_true] at h
          exact lc_noerr h
      | err _ _ _ => rw [z1] at h; cases h
      | bad => rw [z1] at h; cases h
theorem lc_read {p : Pat} {vs : List Nat} {fb : BX} {el : EX} {it : AX} {σ : St} {H : Hp} {Q : VK} (q : tI T E (eLC vs it p fb el) σ H Q) : tLc (tII T E it) (gI T vs p) (tIb T E00 fb) (tI T E00 el) vs σ H Q := by
  obtain ⟨w, env, S, r, e, q⟩ := q
  refine ⟨w, env, S, r, e, (RP.bnd q).mono (fun ds S1 h1 w1 H1 J l1 r1 it => ?_) fun _ _ _ x => x⟩
  intro Dp hD
  have h1 := RP.bnd h1
  have r0 := r1.hide hD
  have e1 := er_wipe (e.mono l1) vs
  refine ⟨fun i m H => m = ds.length - i ∧ i ≤ ds.length ∧ ∃ w2 acc S2, w1.sb w2 ∧ w2.hid = (Dp, acc) :: w1.hid ∧ WR T w2 S2 H ∧ RP (lcLoop p fb el (wipeE env vs) (ds.drop i) acc S2) (fun ys S' => ∀ w' H' v, w1.le w' → WR T w' S' H' → Rep T w' (.lst ys) v → Q v H') (fun _ _ _ => False), ⟨ds.length, by simp, Nat.zero_le _, ⟨w1.G, w1.am, (Dp, []) :: w1.hid⟩, [], S1, ⟨fun _ _ h => h, [], by simp⟩, rfl, r0, ?_⟩, ?_⟩
  · have h2 : RP (lcLoop p fb el (wipeE env vs) ds [] S1) (fun ys S' => ∀ w' H' v, w.le w' → WR T w' S' H' → Rep T w' (.lst ys) v → Q v H') (XW T w E) := h1
    cases z : lcLoop p fb el (wipeE env vs) ds [] S1 with
    | ok ys S2 =>
      rw [z] at h2
      show RP (lcLoop p fb el (wipeE env vs) (ds.drop 0) [] S1) _ _
      rw [List.drop_zero, z]
      exact fun w' H' v l => h2 w' H' v (l1.trans l)
    | err c fs S2 => exact (lc_noerr z).elim
    | bad => rw [z] at h2; exact h2.elim
  · rintro i m H ⟨rfl, hi, w2, acc, S2, sb, hh, r2, h2⟩
    by_cases hlt : i < ds.length
    · rw [List.drop_eq_getElem_cons hlt] at h2
      have it' : ∀ (i : Nat), True := fun _ => trivial
      refine .inr ⟨it.goS i H w2 S2 sb r2 hlt, fun H' => i + 1 ≤ ds.length ∧ ∃ w2 acc S2, w1.sb w2 ∧ w2.hid = (Dp, acc) :: w1.hid ∧ WR T w2 S2 H' ∧ RP (lcLoop p fb el (wipeE env vs) (ds.drop (i + 1)) acc S2) (fun ys S' => ∀ w' H' v, w1.le w' → WR T w' S' H' → Rep T w' (.lst ys) v → Q v H') (fun _ _ _ => False), fun H' h => ⟨ds.length - (i + 1), by omega, rfl, h⟩, fun x H' y => ?_⟩
      obtain ⟨w3, l3, r3, p3⟩ := it.yldS i H x H' w2 S2 ds[i] sb r2 (List.getElem?_eq_getElem hlt) y
      unfold lcLoop at h2
      cases z : p ds[i] (wipeE env vs) with
      | none => rw [z] at h2; exact (show False from h2).elim
      | some env1 =>
        rw [z] at h2
        have h2 := RP.nox (RP.bnd h2) (XW T w3 E00)
        refine ⟨w3, wipeE env vs, S2, ds[i], env1, r3, e1.monoS (sb.trans l3.tosb), p3, z, fun σ2 q2 z2 => ⟨z2.trans (wipe_wipe σ vs), w3, env1, S2, r3, q2, h2.mono (fun k S3 h3 w4 H4 l4 r4 => ?_) fun _ _ _ x => x⟩⟩
        have hh4 : w4.hid = (Dp, acc) :: w1.hid := by rw [l4.hid, l3.hid, hh]
        cases k with
        | false =>
          rw [if_neg Bool.false_ne_true] at h3
          dsimp only
          rw [if_neg Bool.false_ne_true]
          exact ⟨hlt, w4, acc, S3, (sb.trans l3.tosb).trans l4.tosb, hh4, r4, h3⟩
        | true =>
          rw [if_pos rfl] at h3
          dsimp only
          rw [if_pos rfl]
          have h3 := RP.nox (RP.bnd h3) (XW T w4 E00)
          refine ⟨w4, env1, S3, r4, q2.mono l4, h3.mono (fun y S5 h5 w5 H5 v l5 r5 p5 => ?_) fun _ _ _ x => x⟩
          by_cases hl : acc.length < LINE
          · rw [if_pos hl] at h5
            have hh5 : w5.hid = (Dp, acc) :: w1.hid := by rw [l5.hid, hh4]
            obtain ⟨us, k1, k2, k3⟩ := r5.hidPut hh5 p5
            have sb5 : w1.sb w5 := ((sb.trans l3.tosb).trans l4.tosb).trans l5.tosb
            exact ⟨us, k1, by rw [k2, sizeLine_eq]; exact hl, hlt, ⟨w5.G, w5.am, (Dp, acc ++ [y]) :: w1.hid⟩, acc ++ [y], S5, ⟨sb5.G, sb5.am⟩, rfl, k3, h5⟩
          · rw [if_neg hl] at h5
            exact (show False from h5).elim
    · have e0 : ds.drop i = [] := List.drop_of_length_le (by omega)
      rw [e0] at h2
      obtain ⟨us, k1, k2, k3⟩ := r2.shown hh
      exact .inl ⟨it.stopS i H w2 S2 sb r2 (by omega), h2 _ H _ ⟨sb.trans k1, rfl⟩ k2 k3⟩
theorem ie_lc {tg iter elt : Expr} {ifs : List Expr} {scope : Scope} {own : List (Str × Nat)} {p : Pat} {el : EX} {it : AX} (hc : X.calm = true) (hN : X.N.Nodup) (hi : II T E X tg iter it) (ok : BlkOk X.N X.env.scope scope own)
    (hg : ∀ (s : Shared) (H : Hp) (C : Addr) (cl : List (Str × Addr)) (fp : List Addr), IG T (X.blk s H scope (compEnvC scope cl C X.env) fp) (own.map (·.2)) tg p) (ht : ∀ (s : Shared) (H : Hp) (C : Addr) (cl : List (Str × Addr)) (fp : List Addr), ITs T E00 (X.blk s H scope (compEnvC scope cl C X.env) fp) ifs fb)
    (he : ∀ (s : Shared) (H : Hp) (C : Addr) (cl : List (Str × Addr)) (fp : List Addr), IE T E00 (X.blk s H scope (compEnvC scope cl C X.env) fp) elt el) (hs : ∀ x, foldedSetIterable iter X.env x = pure x := by intro _; rfl) :
    IE T E X (.ListComp elt [⟨tg, iter, ifs, 0⟩] scope pos) (eLC (own.map (·.2)) it p fb el) :=
  PE.mono (pe_lc hc hN hi ok hg ht he hs) fun σ H Q q => lc_read q
theorem is_setLc {i : Nat} {y : Str} {py spos : Pos} {tg iter elt : Expr} {ifs : List Expr} {scope : Scope} {own : List (Str × Nat)} {p : Pat} {el : EX} {it : AX} (hc : X.calm = true) (hN : X.N.Nodup) (hy : X.N[i]? = some y) (hyl : X.env.scope.names.lookup y = some .local)
    (hsw : swapsWith (.ListComp elt [⟨tg, iter, ifs, 0⟩] scope pos) (some (.Name y py)) spos.line X.env = pure true) (hi : II T E X tg iter it) (ok : BlkOk X.N X.env.scope scope own)
    (hg : ∀ (s : Shared) (H : Hp) (C : Addr) (cl : List (Str × Addr)) (fp : List Addr), IG T (X.blk s H scope (compEnvC scope cl C X.env) fp) (own.map (·.2)) tg p) (ht : ∀ (s : Shared) (H : Hp) (C : Addr) (cl : List (Str × Addr)) (fp : List Addr), ITs T E00 (X.blk s H scope (compEnvC scope cl C X.env) fp) ifs fb)
    (he : ∀ (s : Shared) (H : Hp) (C : Addr) (cl : List (Str × Addr)) (fp : List Addr), IE T E00 (X.blk s H scope (compEnvC scope cl C X.env) fp) elt el) (hs : ∀ x, foldedSetIterable iter X.env x = pure x := by intro _; rfl) :
    IS T E X (.Assign [.Name y py] (.ListComp elt [⟨tg, iter, ifs, 0⟩] scope pos) spos) (sSet i (eLC (own.map (·.2)) it p fb el)) :=
  PS.mono (ps_setLc hc hN hy hyl hsw hi ok hg ht he hs) fun D σ H ⟨w, env, S, r, e, q⟩ => lc_read (Q := fun v H' => D.nx (σ.set i (some v)) H') ⟨w, env, S, r, e, (RP.bnd q).mono (fun d S1 h1 w1 H1 v l1 r1 p1 => h1 w1 H1 _ l1 r1 ((e.mono l1).set p1 i)) fun _ _ _ x => x⟩
end Ro
end
section
set_option Elab.async false
set_option linter.all false
set_option maxRecDepth 100000
set_option maxHeartbeats 4000000
namespace Ro
open PySem PySem.Spec PyProof.Rows L2
variable {T : Tb} {E : XK} {X : Cx} {a b c e : Expr} {es : List Expr} {f g h : EX} {fa ga fk : AX} {fb gb : BX} {pos : Pos} {st : Stmt} {sts rest : List Stmt} {s t : ES}
/-- a built-in by values: what HandS tells (r) follows from the mirror (m) -/
def BOk (T : Tb) (r : List V → Hp → VK → Prop) (m : List D → Option D) : Prop :=
  ∀ w S xs vs H d Q, WR T w S H → Reps T w xs vs → m xs = some d → (∀ w' H' v, w.le w' → WR T w' S H' → Rep T w' d v → Q v H') → r vs H Q
theorem tI_b {r : List V → Hp → VK → Prop} {m : List D → Option D} (h : BOk T r m) {σ : St} {H : Hp} {Q : VK} (q : tI T E (eB m fa) σ H Q) : tCB r (tIa T E fa) σ H Q := by
  obtain ⟨w, env, S, r0, e, q⟩ := q
  refine ⟨w, env, S, r0, e, (RP.bnd q).mono (fun xs S1 h1 w1 H1 vs l1 r1 p1 => ?_) fun _ _ _ x => x⟩
  cases z : m xs with
  | none => rw [z] at h1; exact (show False from h1).elim
  | some d =>
    rw [z] at h1
    exact h w1 S1 xs vs H1 d Q r1 p1 z fun w' H' v l => h1 w' H' v (l1.trans l)
theorem ie_b {x : Str} {p : Pos} {id : String} {r : List V → Hp → VK → Prop} {m : List D → Option D} (hc : CallR X (.builtin id) r) (hm : BOk T r m) (hg : Gl X x) (hn : X.mg x = none) (hv : bootBuiltins x = some (.builtin id)) (ha : IA T E X (a :: es) fa) (hx : x ≠ "__name__" := by decide +kernel) (hdb : (x == ("__debug__" : Str)) = false := by decide +kernel)
    (he : starEach (a :: es) X.env = (false, eval a X.env) :: starEach es X.env := by rfl) (hpl : (backTo pos (starEach es X.env)).any (·.1) = false := by rfl) : IE T E X (.Call (.Name x p) (a :: es) [] pos) (eB m fa) :=
  PE.mono (pe_callB hc hg hn hv ha hx hdb he hpl) fun σ H Q q => tI_b hm q
theorem ie_bt {x : Str} {p : Pos} {id : String} {r : List V → Hp → VK → Prop} {m : List D → Option D} (hc : CallR X (.type id) r) (hm : BOk T r m) (hg : Gl X x) (hn : X.mg x = none) (hv : bootBuiltins x = some (.type id)) (ha : IA T E X (a :: es) fa) (hx : x ≠ "__name__" := by decide +kernel) (hdb : (x == ("__debug__" : Str)) = false := by decide +kernel)
    (he : starEach (a :: es) X.env = (false, eval a X.env) :: starEach es X.env := by rfl) (hpl : (backTo pos (starEach es X.env)).any (·.1) = false := by rfl) : IE T E X (.Call (.Name x p) (a :: es) [] pos) (eB m fa) :=
  PE.mono (pe_callTy hc hg hn hv ha hx hdb he hpl) fun σ H Q q => tI_b hm q
theorem reps_one {w : Wd} {x : D} {vs : List V} (r : Reps T w [x] vs) : ∃ v, vs = [v] ∧ Rep T w x v := by
  cases r with
  | cons r1 r2 => cases r2; exact ⟨_, rfl, r1⟩
theorem reps_two {w : Wd} {x y : D} {vs : List V} (r : Reps T w [x, y] vs) : ∃ v u, vs = [v, u] ∧ Rep T w x v ∧ Rep T w y u := by
  cases r with
  | cons r1 r2 => cases r2 with
    | cons r3 r4 => cases r4; exact ⟨_, _, rfl, r1, r3⟩
theorem bo_abs : BOk T (fun xs H Q => ∃ i, xs = [.int i] ∧ Q (.int (if i < 0 then -i else i)) H) bAbs := fun w S xs vs H d Q r p h k => by
  unfold bAbs at h
  split at h
  · cases h
    obtain ⟨v, rfl, p2⟩ := reps_one p
    cases p2
    exact ⟨_, rfl, k w H _ (Wd.le.refl _) r (.int _)⟩
  · cases h
theorem bo_max2 : BOk T (fun xs H Q => ∃ i j, xs = [.int i, .int j] ∧ Q (.int (if j > i then j else i)) H) bMax2 := fun w S xs vs H d Q r p h k => by
  unfold bMax2 at h
  split at h
  · cases h
    obtain ⟨v, u, rfl, p2, q2⟩ := reps_two p
    cases p2; cases q2
    exact ⟨_, _, rfl, k w H _ (Wd.le.refl _) r (.int _)⟩
  · cases h
theorem bo_min2 : BOk T (fun xs H Q => ∃ i j, xs = [.int i, .int j] ∧ Q (.int (if j < i then j else i)) H) bMin2 := fun w S xs vs H d Q r p h k => by
  unfold bMin2 at h
  split at h
  · cases h
    obtain ⟨v, u, rfl, p2, q2⟩ := reps_two p
    cases p2; cases q2
    exact ⟨_, _, rfl, k w H _ (Wd.le.refl _) r (.int _)⟩
  · cases h
theorem bo_divmod : BOk T (fun xs H Q => ∃ i j, xs = [.int i, .int j] ∧ CDivP i j ∧ ∀ p, H p = none → Q (.ref p) (upd H p (.tup [.int (i / j), .int (i % j)]))) bDivmod := fun w S xs vs H d Q r p h k => by
  unfold bDivmod at h
  split at h
  · split at h
    · rename_i hj
      cases h
      obtain ⟨v, u, rfl, p2, q2⟩ := reps_two p
      cases p2; cases q2
      refine ⟨_, _, rfl, (by
        unfold divOk at hj
        have hj := of_decide_eq_true hj
        refine ⟨hj.1, PyProof.noPylong_of_log2 ?_⟩
        rename_i jj _
        have h2 : jj.natAbs < 2 ^ 60 := by omega
        have := (Nat.log2_lt (n := jj.natAbs) (k := 60) (by omega)).mpr h2
        omega), fun p hp => ?_⟩
      obtain ⟨l1, r1⟩ := r.new hp (.tup _)
      exact k _ _ _ l1 r1 (.tup (.inl (.inl upd_same)) (.cons (.int _) (.cons (.int _) .nil)))
    · cases h
  · cases h
def rLenH (K : PySem.W.Frag) : List V → Hp → VK → Prop := fun xs H Q => ∃ x n, xs = [x] ∧ LenV K x H n ∧ Q (.int n) H
theorem reps_len_eq {w : Wd} {l : List D} {vs : List V} (r : Reps T w l vs) : (vs.length : Int) = l.length := by rw [r.length]
theorem bo_len : BOk T (rLenH T.K) (fun xs => match xs with | [.dct _] => none | _ => bLen xs) := fun w S xs vs H d Q r p h k => by
  dsimp only at h
  split at h
  · cases h
  rename_i hnd
  unfold bLen at h
  split at h
  · obtain ⟨v, rfl, p2⟩ := reps_one p
    unfold lenD at h
    split at h
    · cases h
      cases p2 with
      | tup q1 q2 => exact ⟨_, _, rfl, .inr ⟨_, sqt_sub r q1, rfl⟩, by rw [reps_len_eq q2]; exact k w H _ (Wd.le.refl _) r (.int _)⟩
    · cases h
      cases p2 with
      | lst q1 q2 => exact ⟨_, _, rfl, .inl ⟨_, .inl (.inl (r.sub _ _ q1)), rfl⟩, by rw [reps_len_eq q2]; exact k w H _ (Wd.le.refl _) r (.int _)⟩
    · cases h
      cases p2 with
      | scr q1 => exact ⟨_, _, rfl, .inl ⟨_, sql_sub r q1, rfl⟩, by rw [List.length_map]; exact k w H _ (Wd.le.refl _) r (.int _)⟩
    · split at h
      · rename_i hl
        cases h
        cases p2
        exact ⟨_, _, rfl, ⟨by rw [sizeLine_eq]; exact hl, rfl⟩, k w H _ (Wd.le.refl _) r (.int _)⟩
      · cases h
    · exact (hnd _ rfl).elim
    · cases h
  · cases h
def rTupleOf (K : PySem.W.Frag) : List V → Hp → VK → Prop := fun xs H Q => ∃ p ys, xs = [.ref p] ∧ ((SqL K H p ys ∧ ∀ l, H l = none → Q (.ref l) (upd H l (.tup ys))) ∨ (SqT K H p ys ∧ Q (.ref p) H))
theorem bo_tuple : BOk T (rTupleOf T.K) bTuple := fun w S xs vs H d Q r p h k => by
  unfold bTuple at h
  split at h
  · cases h
    obtain ⟨v, rfl, p2⟩ := reps_one p
    cases p2 with
    | tup q1 q2 => exact ⟨_, _, rfl, .inr ⟨sqt_sub r q1, k w H _ (Wd.le.refl _) r (.tup q1 q2)⟩⟩
  · cases h
    obtain ⟨v, rfl, p2⟩ := reps_one p
    cases p2 with
    | lst q1 q2 =>
      refine ⟨_, _, rfl, .inl ⟨.inl (.inl (r.sub _ _ q1)), fun p hp => ?_⟩⟩
      obtain ⟨l1, r1⟩ := r.new hp (.tup _)
      exact k _ _ _ l1 r1 (.tup (.inl (.inl upd_same)) (q2.mono l1))
  · cases h
/-- list(..) of what will be changed -/
theorem ie_listM {x : Str} {p : Pos} (hK : X.K = T.K) (hg : Gl X x) (hn : X.mg x = none) (hv : bootBuiltins x = some (.type "list")) (ha : IA T E X [a] fa) (hx : x ≠ "__name__" := by decide +kernel) (hdb : (x == ("__debug__" : Str)) = false := by decide +kernel)
    (he : starEach [a] X.env = (false, eval a X.env) :: starEach [] X.env := by rfl) (hpl : (backTo pos (starEach [] X.env)).any (·.1) = false := by rfl) : IE T E X (.Call (.Name x p) [a] [] pos) (eListM fa) :=
  PE.mono (pe_callTy call_list_of hg hn hv ha hx hdb he hpl) fun σ H Q ⟨w, env, S, r0, e, q⟩ => ⟨w, env, S, r0, e, (RP.bnd q).mono (fun xs S1 h1 w1 H1 vs l1 r1 p1 => by
    split at h1
    · obtain ⟨v, rfl, p2⟩ := reps_one p1
      cases p2 with
      | tup q1 q2 =>
        refine ⟨_, _, rfl, .inr (by rw [hK]; exact sqt_sub r1 q1), fun p hp => ?_⟩
        obtain ⟨l2, r2, at_⟩ := r1.alloc (o := .lst _) (c := .lst _) hp ⟨_, upd_same, q2.mono (Wd.le.app _ _)⟩
        exact h1 _ _ _ (l1.trans l2) r2 (.ref at_)
    · obtain ⟨v, rfl, p2⟩ := reps_one p1
      cases p2 with
      | lst q1 q2 =>
        refine ⟨_, _, rfl, .inl (.inl (.inl (r1.sub _ _ q1))), fun p hp => ?_⟩
        obtain ⟨l2, r2, at_⟩ := r1.alloc (o := .lst _) (c := .lst _) hp ⟨_, upd_same, q2.mono (Wd.le.app _ _)⟩
        exact h1 _ _ _ (l1.trans l2) r2 (.ref at_)
    · split at h1
      · rename_i hS
        obtain ⟨v, rfl, p2⟩ := reps_one p1
        cases p2 with
        | ref hn =>
          obtain ⟨us, c1, c2⟩ := r1.cell _ _ _ hS hn
          refine ⟨_, _, rfl, .inl (.inl (.inl c1)), fun p hp => ?_⟩
          obtain ⟨l2, r2, at_⟩ := r1.alloc (o := .lst _) (c := .lst _) hp ⟨_, upd_same, c2.mono (Wd.le.app _ _)⟩
          exact h1 _ _ _ (l1.trans l2) r2 (.ref at_)
      · exact (show False from h1).elim
    · exact (show False from h1).elim) fun _ _ _ x => x⟩
def tyV' (K : PySem.W.Frag) : Ty → Value
  | .b n => .type n
  | .o c => .ref (He.ga K (c : Str))
def tyVV (K : PySem.W.Frag) : Ty → V
  | .b n => .ty n
  | .o c => .ref (He.ga K (c : Str))
/-- what is told of a class for isinstance -/
structure IsiC (K : PySem.W.Frag) (C : Addr) : Prop where
  cl : Cls K C
  ha : PySem.W.findIn K (.ref C) "__class__" = some (some (.builtin "object.__class__"))
  hn : PySem.W.specialIn K (.builtin "object.__class__") "__get__" = some (some (.builtin "getset_descriptor.__get__"))
  htk : PySem.W.takesIn K (.builtin "object.__class__") = some true
  hm : PySem.W.mroIn K C (.type "object") = some true
theorem tyX_of {w : Wd} {S : Store} {H : Hp} {d : D} {x : V} {t : Ty} (r : WR T w S H) (p : Rep T w d x) (h : tyD d S = some t) (hc : ∀ c, t = .o c → IsiC T.K (He.ga T.K (c : Str))) : TyX T.K H x (tyV' T.K t) := by
  cases p with
  | non => cases h; exact .base .non
  | bl b => cases h; exact .base (.bl b)
  | int i => cases h; exact .base (.int i)
  | str s => cases h; exact .base (.str s)
  | tup q1 q2 =>
    cases h
    rcases sqt_sub r q1 with (q | ⟨o, q⟩) | ⟨o, its, n, q, hcl, _⟩
    · exact .base (.tup q)
    · exact .fTuple q
    · exact .kTuple q hcl
  | scr q1 =>
    cases h
    rcases sql_sub r q1 with (q | ⟨o, q⟩) | ⟨o, its, n, q, hcl, _⟩
    · exact .base (.lst q)
    · exact .base (.frz q)
    · exact .kList q hcl
  | lst q1 q2 => cases h; exact .base (.lst (r.sub _ _ q1))
  | dct q1 q2 => cases h; exact .base (.dK (r.sub _ _ q1))
  | obj q1 q2 q3 =>
    cases h
    have z := hc _ rfl
    exact .base (.ins (r.sub _ _ q1) z.cl z.ha z.hn z.htk z.hm)
  | ref hn =>
    unfold tyD at h
    dsimp only at h
    split at h
    · rename_i l hS
      cases h
      obtain ⟨us, c1, c2⟩ := r.cell _ _ _ hS hn
      exact .base (.lst c1)
    · rename_i l hS
      cases h
      obtain ⟨us, c1, c2⟩ := r.cell _ _ _ hS hn
      exact .base (.dK c1)
    · rename_i c fs hS
      cases h
      obtain ⟨dx, gs, c1, c2, c3⟩ := r.cell _ _ _ hS hn
      have z := hc _ rfl
      exact .base (.ins c1 z.cl z.ha z.hn z.htk z.hm)
    · cases h
  | fn x => cases h
  | xc0 q1 q2 => cases h
  | xc1 q1 q2 q3 q4 q5 => cases h
/-- the class, as written -/
def IsTyE (T : Tb) (X : Cx) (e : Expr) (t : Ty) : Prop := PE X e (tC (tyVV T.K t))
theorem isTy_b {n : String} {x : Str} (hg : Gl X x) (hm : X.mg x = none) (hv : bootBuiltins x = some (.type n)) (hn : x ≠ "__name__" := by decide +kernel) (hd : (x == ("__debug__" : Str)) = false := by decide +kernel) : IsTyE T X (.Name x pos) (.b n) := pe_bltn (v := .ty n) hg hm hv rfl hn hd
theorem isTy_o {c : String} (hg : Gl X (c : Str)) (hm : X.mg (c : Str) = some (.ref (He.ga T.K (c : Str)))) (hd : ((c : Str) == ("__debug__" : Str)) = false := by decide +kernel) : IsTyE T X (.Name (c : Str) pos) (.o c) := pe_glob (v := .ref _) hg hm rfl hd
theorem ie_isi {p : Pos} {tys : List Ty} {Tt : Ty} (hK : X.K = T.K) (hg : Gl X "isinstance") (hn : X.mg "isinstance" = none) (ha : IE T E X a f) (hb : IsTyE T X b Tt) (hc : ∀ t ∈ tys, ∀ c, t = .o c → IsiC T.K (He.ga T.K (c : Str))) (hk : ∀ t ∈ tys, PySem.W.kitOne T.K (tyV' T.K t) (tyV' T.K Tt) = some (subTy t Tt))
    (he : starEach (a :: [b]) X.env = (false, eval a X.env) :: starEach [b] X.env := by rfl) (hpl : (backTo pos (starEach [b] X.env)).any (·.1) = false := by rfl) (he2 : starEach [b] X.env = (false, eval b X.env) :: starEach [] X.env := by rfl) : IE T E X (.Call (.Name "isinstance" p) [a, b] [] pos) (eIsI tys Tt f) :=
  PE.mono (pe_callB call_isi hg hn (by decide +kernel) (pa_cons ha (pa_cons hb pa_nil he2) he) (by decide +kernel) (by decide +kernel) he hpl) fun σ H Q ⟨w, env, S, r, e, q⟩ => ⟨w, env, S, r, e, (RP.bnd q).mono (fun d S1 h1 w1 H1 x l1 r1 p1 => by
    split at h1
    · rename_i t ht
      split at h1
      · rename_i hmem
        have hm : t ∈ tys := by simpa using hmem
        refine ⟨x, _, tyV' T.K t, tyV' T.K Tt, subTy t Tt, rfl, ?_, ?_, ?_, h1 w1 H1 _ l1 r1 (.bl _)⟩
        · cases Tt with
          | b n => exact .ty n
          | o c => exact .own _
        · rw [hK]; exact tyX_of r1 p1 ht (hc t hm)
        · rw [hK]; exact hk t hm
      · exact (show False from h1).elim
    · exact (show False from h1).elim) fun _ _ _ x => x⟩
end Ro
end
section
set_option Elab.async false
set_option linter.all false
set_option maxRecDepth 100000
set_option maxHeartbeats 4000000
namespace Ro
open PySem PySem.Spec PyProof.Rows L2
variable {T : Tb} {E : XK} {X : Cx} {a b c e : Expr} {es : List Expr} {f g h : EX} {fa ga fk : AX} {fb gb : BX} {pos : Pos} {st : Stmt} {sts rest : List Stmt} {s t : ES}
def tIo (T : Tb) (E : XK) (f : OX) : L2.TO := fun σ H Q => ∃ w env S, WR T w S H ∧ ER T w env σ ∧ RP (f env S) (fun o S' => ∀ w' H', w.le w' → WR T w' S' H' → Q o H') (XW T w E)
def IO' (T : Tb) (E : XK) (X : Cx) (e : Option Expr) (f : OX) : Prop := PO X e (tIo T E f)
theorem PO.mono {X : Cx} {e : Option Expr} {t t' : L2.TO} (h : PO X e t) (k : ∀ σ H Q, t' σ H Q → t σ H Q) : PO X e t' := ⟨fun pins s σ H Q I q => h.run pins s σ H Q I (k _ _ _ q)⟩
theorem io_none : IO' T E X none oNone := PO.mono po_none fun σ H Q ⟨w, env, S, r, e, q⟩ => q w H (Wd.le.refl _) r
theorem io_some (h : IE T E X a f) : IO' T E X (some a) (oSome f) := PO.mono (po_some h) fun σ H Q ⟨w, env, S, r, e, q⟩ => ⟨w, env, S, r, e, (RP.bnd q).mono (fun d S1 h1 w1 H1 x l1 r1 p1 => by
  cases p1 with
  | int i => exact ⟨i, rfl, h1 w1 H1 l1 r1⟩
  | _ => exact (show False from h1).elim) fun _ _ _ x => x⟩
theorem cutI_sIx (n d : Nat) (o : Option Int) : HT.sIx n d o = cutI n d o := by
  cases o <;> rfl
theorem reps_cut {w : Wd} {l : List D} {vs : List V} (lo hi : Option Int) (r : Reps T w l vs) : Reps T w (cutL l lo hi) (cutV vs lo hi) := by
  unfold cutL cutV
  rw [cutI_sIx, cutI_sIx, r.length]
  exact (r.drop _).take _
theorem ie_cut {lo hi : Option Expr} {ol oh : OX} {p2 : Pos} (hK : X.K = T.K) (ha : IE T E X a f) (hl : IO' T E X lo ol) (hh : IO' T E X hi oh) : IE T E X (.Subscript a (.Slice lo hi none p2) pos) (eCut f ol oh) :=
  PE.mono (pe_slice (sl_tupA.or (sl_list.or sl_str)) ha hl hh) fun σ H Q ⟨w, env, S, r, e, q⟩ => ⟨w, env, S, r, e, (RP.bnd q).mono (fun d S1 h1 w1 H1 x l1 r1 p1 => ⟨w1, env, S1, r1, e.mono l1, (RP.bnd h1).mono (fun o1 S2 h2 w2 H2 l2 r2 => ⟨w2, env, S2, r2, (e.mono l1).mono l2, (RP.bnd h2).mono (fun o2 S3 h3 w3 H3 l3 r3 => by
    have lt := (l1.trans l2).trans l3
    have p3 := p1.mono (l2.trans l3)
    cases z : cutD d o1 o2 with
    | none => rw [z] at h3; exact (show False from h3).elim
    | some y =>
      rw [z] at h3
      unfold cutD at z
      rw [hK]
      split at z
      · cases z
        cases p3 with
        | tup q1 q2 =>
          rename_i aa vs
          refine .inl ⟨aa, vs, rfl, sqt_sub r3 q1, fun hw => ?_, fun hw p hp => ?_⟩
          · refine h3 w3 H3 _ lt r3 (.tup q1 ?_)
            have e2 : cutV vs o1 o2 = vs := by
              unfold cutV
              rw [hw.1, hw.2, List.drop_zero, Nat.sub_zero, List.take_length]
            have z2 := reps_cut o1 o2 q2
            rw [e2] at z2
            exact z2
          · obtain ⟨l4, r4⟩ := r3.new hp (.tup _)
            exact h3 _ _ _ (lt.trans l4) r4 (.tup (.inl (.inl upd_same)) ((reps_cut o1 o2 q2).mono l4))
      · cases z
        cases p3 with
        | lst q1 q2 =>
          refine .inr (.inl ⟨_, _, rfl, .inl (.inl (r3.sub _ _ q1)), fun p hp => ?_⟩)
          obtain ⟨l4, r4⟩ := r3.new hp (.lst _)
          exact h3 _ _ _ (lt.trans l4) r4 (.lst upd_same ((reps_cut o1 o2 q2).mono l4))
      · split at z
        · rename_i hl
          cases z
          cases p3
          refine .inr (.inr ⟨_, rfl, by rw [sizeLine_eq]; exact hl, ?_⟩)
          have z2 := h3 w3 H3 _ lt r3 (.str _)
          unfold cutS
          unfold cutL at z2
          rw [cutI_sIx, cutI_sIx]
          rw [Array.length_toList] at z2
          exact z2
        · cases z
      · cases z) fun _ _ _ x => x.le (l1.trans l2)⟩) fun _ _ _ x => x.le l1⟩) fun _ _ _ x => x⟩
theorem tyV_list {w : Wd} {S : Store} {H : Hp} {d : D} {x : V} (r : WR T w S H) (p : Rep T w d x) (h : tyD d S = some (.b "list")) : tyV T.K "list" x H := by
  cases p with
  | ref hn =>
    unfold tyD at h
    dsimp only at h
    split at h
    · rename_i l hS
      obtain ⟨us, c1, c2⟩ := r.cell _ _ _ hS hn
      exact .inl ⟨rfl, us, .inl (.inl c1)⟩
    all_goals exact absurd h (by simp)
  | lst q1 q2 => exact .inl ⟨rfl, _, .inl (.inl (r.sub _ _ q1))⟩
  | scr q1 => exact .inl ⟨rfl, _, sql_sub r q1⟩
  | _ => exact absurd h (by unfold tyD; simp)
theorem mt_R {id : String} {r : V → List V → Hp → VK → Prop} (h : MtM X id r) : MtR X id r := fun pins s σ H x xs v us Q I rx rv q => h pins s σ H x xs v us Q I rx rv q
theorem ie_app {apos : Pos} (hK : X.K = T.K) (ho : IE T E X a f) (hb : IE T E X b g) (hbase : attributeBase a "append" X.env (eval a X.env) = eval a X.env := by rfl)
    (hfew : ((backTo pos (starEach [b] X.env)).all (fun x => !x.1) && (backToKw pos (keywordEach [] X.env)).all (fun x => x.1.isSome)
      && decide (([b]).length + ([] : List Keyword).length + (if ([] : List Keyword).isEmpty then 0 else 1) < 30)) = true := by rfl)
    (hline : (apos.endLine == pos.line) = true := by rfl) (hs : starEach [b] X.env = (false, eval b X.env) :: starEach [] X.env := by rfl) (hpl : (backTo pos (starEach [] X.env)).any (·.1) = false := by rfl) :
    IE T E X (.Call (.Attribute a "append" apos) [b] [] pos) (eApp f g) :=
  PE.mono (pe_bm PySem.F.plainAttrs_list PySem.F.slot_list_append PySem.F.type_list_append (mt_R mt_append) ho (pa_cons hb pa_nil hs) hbase hfew hline hs hpl) fun σ H Q ⟨w, env, S, r, e, q⟩ => ⟨w, env, S, r, e, (RP.bnd q).mono (fun d S1 h1 w1 H1 x l1 r1 p1 => by
    by_cases ht : tyD d S1 = some (.b "list")
    · rw [if_pos ht] at h1
      refine ⟨by rw [hK]; exact tyV_list r1 p1 ht, w1, env, S1, r1, e.mono l1, (RP.bnd h1).mono (fun y S2 h2 w2 H2 yv l2 r2 p2 => ?_) fun _ _ _ x => x.le l1⟩
      cases z : appM d y S2 with
      | none => rw [z] at h2; exact (show False from h2).elim
      | some S3 =>
        rw [z] at h2
        unfold appM at z
        split at z
        · split at z
          · rename_i n _ xs hS
            split at z
            · rename_i hl
              cases z
              cases p1.mono l2 with
              | ref hn =>
                obtain ⟨us, c1, c2⟩ := r2.cell _ _ _ hS hn
                refine ⟨_, us, yv, rfl, rfl, c1, by rw [sizeLine_eq, ← c2.length]; exact hl, ?_⟩
                exact h2 w2 _ _ (l1.trans l2) (r2.write hS hn (by intro z; cases z) ⟨_, upd_same, c2.append (.cons p2 .nil)⟩) .non
            · cases z
          · cases z
        · cases z
    · rw [if_neg ht] at h1
      exact (show False from h1).elim) fun _ _ _ x => x⟩
end Ro
end
section
set_option Elab.async false
set_option linter.all false
set_option maxRecDepth 100000
set_option maxHeartbeats 4000000
namespace Ro
open PySem PySem.Spec PyProof.Rows L2
variable {T : Tb} {E : XK} {X : Cx} {a b c e : Expr} {es : List Expr} {f g h : EX} {fa ga fk : AX} {fb gb : BX} {pos : Pos} {st : Stmt} {sts rest : List Stmt} {s t : ES}
mutual
def toPy : D → PyData
  | .bl b => .bool b
  | .int i => .int i
  | .str s => .str s
  | .tup l => .tuple (toPys l)
  | .lst l => .list (toPys l)
  | _ => .none
def toPys : List D → List PyData
  | [] => []
  | x :: l => toPy x :: toPys l
end
/-- plain, at most n deep -/
def plN : Nat → D → Bool
  | _, .non => true
  | _, .bl _ => true
  | _, .int _ => true
  | _, .str _ => true
  | n + 1, .tup l => l.all (plN n)
  | n + 1, .lst l => l.all (plN n)
  | _, _ => false
def plD : D → Bool := plN 8
theorem toPy_ok : ∀ (n : Nat) (d : D), plN n d = true → (toPy d).plain = true ∧ (toPy d).depth ≤ n
  | _, .non, _ => ⟨rfl, Nat.zero_le _⟩
  | _, .bl _, _ => ⟨rfl, Nat.zero_le _⟩
  | _, .int _, _ => ⟨rfl, Nat.zero_le _⟩
  | _, .str _, _ => ⟨rfl, Nat.zero_le _⟩
  | 0, .tup l, h => by simp [plN] at h
  | 0, .lst l, h => by simp [plN] at h
  | n + 1, .tup l, h => by
    have h' : ∀ x ∈ l, plN n x = true := by simpa [plN] using h
    have key : ∀ m : List D, (∀ x ∈ m, plN n x = true) → PyData.plainAll (toPys m) = true ∧ PyData.depthAll (toPys m) ≤ n := by
      intro m
      induction m with
      | nil => intro _; exact ⟨rfl, Nat.zero_le _⟩
      | cons x m ih =>
        intro hm
        obtain ⟨a1, a2⟩ := toPy_ok n x (hm x (by simp))
        obtain ⟨b1, b2⟩ := ih fun y hy => hm y (by simp [hy])
        exact ⟨by simp [toPys, PyData.plainAll, a1, b1], by simp only [toPys, PyData.depthAll]; omega⟩
    obtain ⟨k1, k2⟩ := key l h'
    exact ⟨by simpa [toPy, PyData.plain] using k1, by simp only [toPy, PyData.depth]; omega⟩
  | n + 1, .lst l, h => by
    have h' : ∀ x ∈ l, plN n x = true := by simpa [plN] using h
    have key : ∀ m : List D, (∀ x ∈ m, plN n x = true) → PyData.plainAll (toPys m) = true ∧ PyData.depthAll (toPys m) ≤ n := by
      intro m
      induction m with
      | nil => intro _; exact ⟨rfl, Nat.zero_le _⟩
      | cons x m ih =>
        intro hm
        obtain ⟨a1, a2⟩ := toPy_ok n x (hm x (by simp))
        obtain ⟨b1, b2⟩ := ih fun y hy => hm y (by simp [hy])
        exact ⟨by simp [toPys, PyData.plainAll, a1, b1], by simp only [toPys, PyData.depthAll]; omega⟩
    obtain ⟨k1, k2⟩ := key l h'
    exact ⟨by simpa [toPy, PyData.plain] using k1, by simp only [toPy, PyData.depth]; omega⟩
  | n, .dct l, h => by simp [plN] at h
  | n, .obj c l, h => by simp [plN] at h
  | n, .scr l, h => by simp [plN] at h
  | n, .ref c, h => by simp [plN] at h
  | n, .fn c, h => by simp [plN] at h
  | n, .thk c l, h => by simp [plN] at h
theorem dp_of {w : Wd} {S : Store} {H : Hp} (r : WR T w S H) : ∀ (n : Nat) (d : D) (x : V), plN n d = true → Rep T w d x → Dp T.K H x (toPy d)
  | _, .non, _, _, .non => .non
  | _, .bl _, _, _, .bl b => .bl b
  | _, .int _, _, _, .int i => .int i
  | _, .str _, _, _, .str s => .str s
  | 0, .tup _, _, h, _ => by simp [plN] at h
  | 0, .lst _, _, h, _ => by simp [plN] at h
  | n + 1, .tup l, _, h, .tup q q2 => by
    have h' : ∀ x ∈ l, plN n x = true := by simpa [plN] using h
    have key : ∀ (m : List D) (vs : List V), (∀ x ∈ m, plN n x = true) → Reps T w m vs → DpAll T.K H vs (toPys m) := by
      intro m
      induction m with
      | nil => intro vs _ z; cases z; exact .nil
      | cons x m ih =>
        intro vs hm z
        cases z with
        | cons z1 z2 => exact .cons (dp_of r n x _ (hm x (by simp)) z1) (ih _ (fun y hy => hm y (by simp [hy])) z2)
    exact .tup (sqt_sub r q) (key l _ h' q2)
  | n + 1, .lst l, _, h, .lst q q2 => by
    have h' : ∀ x ∈ l, plN n x = true := by simpa [plN] using h
    have key : ∀ (m : List D) (vs : List V), (∀ x ∈ m, plN n x = true) → Reps T w m vs → DpAll T.K H vs (toPys m) := by
      intro m
      induction m with
      | nil => intro vs _ z; cases z; exact .nil
      | cons x m ih =>
        intro vs hm z
        cases z with
        | cons z1 z2 => exact .cons (dp_of r n x _ (hm x (by simp)) z1) (ih _ (fun y hy => hm y (by simp [hy])) z2)
    exact .lst (.inl (.inl (r.sub _ _ q))) (key l _ h' q2)
  | n, .scr _, _, h, _ => by simp [plN] at h
  | n, .dct _, _, h, _ => by simp [plN] at h
  | n, .obj _ _, _, h, _ => by simp [plN] at h
  | n, .ref _, _, h, _ => by simp [plN] at h
  | n, .fn _, _, h, _ => by simp [plN] at h
  | n, .thk _ _, _, h, _ => by simp [plN] at h
theorem dpAll_of {w : Wd} {S : Store} {H : Hp} (r : WR T w S H) (n : Nat) : ∀ (m : List D) (vs : List V), m.all (plN n) = true → Reps T w m vs → DpAll T.K H vs (toPys m)
  | [], _, _, z => by cases z; exact .nil
  | x :: m, _, hm, z => by
    obtain ⟨h1, h2⟩ := Bool.and_eq_true_iff.mp (show (plN n x && m.all (plN n)) = true from hm)
    cases z with
    | cons z1 z2 => exact .cons (dp_of r n x _ h1 z1) (dpAll_of r n m _ h2 z2)
theorem toPys_ok {n : Nat} {l : List D} (h : l.all (plN n) = true) : PyData.plainAll (toPys l) = true ∧ PyData.depthAll (toPys l) ≤ n := by
  have z := toPy_ok (n + 1) (.tup l) h
  refine ⟨by simpa [toPy, PyData.plain] using z.1, ?_⟩
  have := z.2
  simp only [toPy, PyData.depth] at this
  omega
mutual
theorem eqv_py : ∀ (n : Nat) (d e : D), plN n d = true → plN n e = true → PyData.eqv (toPy d) (toPy e) = pyEq d e
  | n, .non, e, _, he => by cases e <;> simp_all [plN, toPy, PyData.eqv, pyEq]
  | n, .bl b, e, _, he => by
    cases e <;> simp_all [plN, toPy, PyData.eqv, pyEq]
    all_goals (try (cases b <;> simp <;> rfl))
  | n, .int i, e, _, he => by
    cases e <;> simp_all [plN, toPy, PyData.eqv, pyEq]
    all_goals (first | rfl | (rename_i b; cases b <;> simp <;> rfl))
  | n, .str s, e, _, he => by
    cases e <;> simp_all [plN, toPy, PyData.eqv, pyEq]
    all_goals rfl
  | 0, .tup l, e, h, he => by simp [plN] at h
  | 0, .lst l, e, h, he => by simp [plN] at h
  | n + 1, .tup l, e, h, he => by
    cases e with
    | tup m =>
      simp only [toPy, PyData.eqv, pyEq]
      exact eqvs_py n l m h he
    | _ => simp_all [plN, toPy, PyData.eqv, pyEq]
  | n + 1, .lst l, e, h, he => by
    cases e with
    | lst m =>
      simp only [toPy, PyData.eqv, pyEq]
      exact eqvs_py n l m h he
    | _ => simp_all [plN, toPy, PyData.eqv, pyEq]
  | n, .dct l, _, h, _ => by simp [plN] at h
  | n, .obj c l, _, h, _ => by simp [plN] at h
  | n, .scr l, _, h, _ => by simp [plN] at h
  | n, .ref c, _, h, _ => by simp [plN] at h
  | n, .fn c, _, h, _ => by simp [plN] at h
  | n, .thk c l, _, h, _ => by simp [plN] at h
theorem eqvs_py : ∀ (n : Nat) (l m : List D), l.all (plN n) = true → m.all (plN n) = true → PyData.eqvAll (toPys l) (toPys m) = pyEqs l m
  | _, [], [], _, _ => rfl
  | _, [], _ :: _, _, _ => rfl
  | _, _ :: _, [], _, _ => rfl
  | n, x :: l, y :: m, h1, h2 => by
    obtain ⟨a1, a2⟩ := Bool.and_eq_true_iff.mp (show (plN n x && l.all (plN n)) = true from h1)
    obtain ⟨b1, b2⟩ := Bool.and_eq_true_iff.mp (show (plN n y && m.all (plN n)) = true from h2)
    simp only [toPys, PyData.eqvAll, pyEqs]
    rw [eqv_py n x y a1 b1, eqvs_py n l m a2 b2]
end
def eqD (x y : D) : Option D := if plD x && plD y then some (.bl (pyEq x y)) else none
def neD (x y : D) : Option D := if plD x && plD y then some (.bl (!pyEq x y)) else none
theorem oi_eqP (hK : X.K = T.K) (hu : X.A.units + 64 < cLine) : OpR X (compareOp .Eq) (rOp T eqD) := fun pins s σ H x y v u Q I rx ry q => by
  obtain ⟨w, d, e, r, S, h1, h2, h3, h4, h5⟩ := q
  unfold eqD at h4
  split at h4
  · rename_i hp
    cases h4
    obtain ⟨p1, p2⟩ := Bool.and_eq_true_iff.mp hp
    obtain ⟨as, r1⟩ := Dp.reads I _ x v (by rw [hK]; exact dp_of h1 8 d x p1 h2) rx
    obtain ⟨bs, r2⟩ := Dp.reads I _ y u (by rw [hK]; exact dp_of h1 8 e y p2 h3) ry
    obtain ⟨k1, k2⟩ := toPy_ok 8 d p1
    obtain ⟨k3, k4⟩ := toPy_ok 8 e p2
    refine SeqAt.eq_plain r1 r2 k1 k3 (by omega) ⟨.bl _, H, I, rfl, ?_⟩
    rw [eqv_py 8 d e p1 p2]
    exact h5 w H _ (Wd.le.refl _) h1 (.bl _)
  · cases h4
theorem oi_neP (hK : X.K = T.K) (hu : X.A.units + 64 < cLine) : OpR X (compareOp .NotEq) (rOp T neD) := fun pins s σ H x y v u Q I rx ry q => by
  obtain ⟨w, d, e, r, S, h1, h2, h3, h4, h5⟩ := q
  unfold neD at h4
  split at h4
  · rename_i hp
    cases h4
    obtain ⟨p1, p2⟩ := Bool.and_eq_true_iff.mp hp
    obtain ⟨as, r1⟩ := Dp.reads I _ x v (by rw [hK]; exact dp_of h1 8 d x p1 h2) rx
    obtain ⟨bs, r2⟩ := Dp.reads I _ y u (by rw [hK]; exact dp_of h1 8 e y p2 h3) ry
    obtain ⟨k1, k2⟩ := toPy_ok 8 d p1
    obtain ⟨k3, k4⟩ := toPy_ok 8 e p2
    refine SeqAt.ne_plain r1 r2 k1 k3 (by omega) ⟨.bl _, H, I, rfl, ?_⟩
    rw [eqv_py 8 d e p1 p2]
    exact h5 w H _ (Wd.le.refl _) h1 (.bl _)
  · cases h4
def inL (x : D) (l : List D) : Bool := l.any fun y => pyEq y x
theorem any_py {n : Nat} {x : D} (hx : plN n x = true) : ∀ {l : List D}, l.all (plN n) = true → ((toPys l).any fun y => PyData.eqv y (toPy x)) = inL x l
  | [], _ => rfl
  | y :: l, h => by
    obtain ⟨h1, h2⟩ := Bool.and_eq_true_iff.mp (show (plN n y && l.all (plN n)) = true from h)
    show (PyData.eqv (toPy y) (toPy x) || (toPys l).any fun y => PyData.eqv y (toPy x)) = (pyEq y x || inL x l)
    rw [eqv_py n y x h1 hx, any_py hx h2]
def inD (x y : D) : Option D := match y with
  | .lst l => if plD x && l.all (plN 8) then some (.bl (inL x l)) else none
  | .tup l => if plD x && l.all (plN 8) then some (.bl (inL x l)) else none
  | _ => none
theorem oi_in (hK : X.K = T.K) (hu : X.A.units + 64 < cLine) : OpR X (compareOp .In) (rOp T inD) := fun pins s σ H x y v u Q I rx ry q => by
  obtain ⟨w, d, e, r, S, h1, h2, h3, h4, h5⟩ := q
  unfold inD at h4
  split at h4
  · split at h4
    · rename_i l hp
      cases h4
      obtain ⟨p1, p2⟩ := Bool.and_eq_true_iff.mp hp
      obtain ⟨as, r1⟩ := Dp.reads I _ x v (by rw [hK]; exact dp_of h1 8 d x p1 h2) rx
      obtain ⟨bs, r2⟩ := Dp.reads I _ y u (by rw [hK]; exact dp_of h1 9 (.lst l) y p2 h3) ry
      obtain ⟨k1, k2⟩ := toPy_ok 8 d p1
      obtain ⟨k3, k4⟩ := toPys_ok p2
      refine SeqAt.in_list_data (xs := toPys l) (by simpa only [toPy] using r2) r1 k3 k1 (by omega) ⟨.bl _, H, I, rfl, ?_⟩
      rw [any_py p1 p2]
      exact h5 w H _ (Wd.le.refl _) h1 (.bl _)
    · cases h4
  · split at h4
    · rename_i l hp
      cases h4
      obtain ⟨p1, p2⟩ := Bool.and_eq_true_iff.mp hp
      obtain ⟨as, r1⟩ := Dp.reads I _ x v (by rw [hK]; exact dp_of h1 8 d x p1 h2) rx
      obtain ⟨bs, r2⟩ := Dp.reads I _ y u (by rw [hK]; exact dp_of h1 9 (.tup l) y p2 h3) ry
      obtain ⟨k1, k2⟩ := toPy_ok 8 d p1
      obtain ⟨k3, k4⟩ := toPys_ok p2
      refine SeqAt.in_tuple_data (xs := toPys l) (by simpa only [toPy] using r2) r1 k3 k1 (by omega) ⟨.bl _, H, I, rfl, ?_⟩
      rw [any_py p1 p2]
      exact h5 w H _ (Wd.le.refl _) h1 (.bl _)
    · cases h4
  · cases h4
end Ro
end
section
set_option Elab.async false
set_option linter.all false
set_option maxRecDepth 100000
set_option maxHeartbeats 4000000
namespace Ro
open PySem PySem.Spec PyProof.Rows L2
structure Lw where
  glo : List String := []
  free : List String := []
  gins : List (String × Int) := []
  cls : List String := []
  noat : List (String × String) := []
  meth : List (String × String) := []
  mkr : List String := []
  isi : List String := []
  kit : List (Ty × Ty) := []
  tups : List (String × List He.Dv) := []
  defs : List He.DefD := []
  fas : List He.Fa := []
  exk : List String := []
  kix : List (String × Ty × Bool) := []
  tf : List (He.Defn × String) := []
  bs : List (PySem.W.Frag → Bool) := []
  gstrs : List (String × String) := []
/-- what isinstance asks of an exception's class -/
structure ExC (K : PySem.W.Frag) (C : Addr) : Prop where
  cl : (PySem.W.clsIn K C).isSome = true
  ga : PySem.W.findIn K (.ref C) "__getattribute__" = some (some (.builtin "BaseException.__getattribute__"))
  gt : ∃ g, PySem.W.findIn K (.ref C) "__getattr__" = some g
  sb : PySem.W.subIn K (.ref C) (.type "BaseException") = some true
  ca : PySem.W.findIn K (.ref C) "__class__" = some (some (.builtin "object.__class__"))
  sp : PySem.W.specialIn K (.builtin "object.__class__") "__get__" = some (some (.builtin "getset_descriptor.__get__"))
  tk : PySem.W.takesIn K (.builtin "object.__class__") = some true
  mr : PySem.W.mroIn K C (.type "object") = some true
def exCB (K : PySem.W.Frag) (C : Addr) : Bool :=
  (PySem.W.clsIn K C).isSome && (decide (PySem.W.findIn K (.ref C) "__getattribute__" = some (some (.builtin "BaseException.__getattribute__"))) && ((PySem.W.findIn K (.ref C) "__getattr__").isSome && (decide (PySem.W.subIn K (.ref C) (.type "BaseException") = some true) &&
  (decide (PySem.W.findIn K (.ref C) "__class__" = some (some (.builtin "object.__class__"))) && (decide (PySem.W.specialIn K (.builtin "object.__class__") "__get__" = some (some (.builtin "getset_descriptor.__get__"))) && (decide (PySem.W.takesIn K (.builtin "object.__class__") = some true) && decide (PySem.W.mroIn K C (.type "object") = some true)))))))
theorem exC_of {K : PySem.W.Frag} {C : Addr} (h : exCB K C = true) : ExC K C := by
  unfold exCB at h
  simp only [Bool.and_eq_true, decide_eq_true_eq] at h
  obtain ⟨h1, h2, h3, h4, h5, h6, h7, h8⟩ := h
  exact ⟨h1, h2, Option.isSome_iff_exists.mp h3, h4, h5, h6, h7, h8⟩
def isiB (K : PySem.W.Frag) (x : String) : Bool := (He.Fa.cls (x : Str)).ok K && (He.eqO (PySem.W.findIn K (.ref (He.ga K (x : Str))) "__class__") (some (some (.builtin "object.__class__"))) && (He.eqO (PySem.W.specialIn K (.builtin "object.__class__") "__get__") (some (some (.builtin "getset_descriptor.__get__"))) &&
  (decide (PySem.W.takesIn K (.builtin "object.__class__") = some true) && decide (PySem.W.mroIn K (He.ga K (x : Str)) (.type "object") = some true))))
def Lw.ok (L : Lw) (K : PySem.W.Frag) : Bool :=
  L.glo.all (fun x => (He.Fa.glo (x : Str)).ok K) && (L.free.all (fun x => (He.Fa.free (x : Str)).ok K) && (L.gins.all (fun p => (He.Fa.int (p.1 : Str) p.2).ok K) && (L.cls.all (fun x => (He.Fa.cls (x : Str)).ok K) &&
  (L.noat.all (fun p => (He.Fa.noat (p.1 : Str) (p.2 : Str)).ok K) && (L.meth.all (fun p => (He.Fa.meth (p.1 : Str) (p.2 : Str)).ok K) && (L.mkr.all (fun x => (He.Fa.mkr (x : Str)).ok K) &&
  (L.isi.all (fun x => isiB K x) && (L.kit.all (fun p => decide (PySem.W.kitOne K (tyV' K p.1) (tyV' K p.2) = some (subTy p.1 p.2))) && (L.tups.all (fun p => He.tupB K (p.1 : Str) p.2) && (L.defs.all (fun d => d.ok K) &&
  (L.fas.all (fun f => f.ok K) && (L.exk.all (fun x => exCB K (He.ga K (x : Str))) && (L.kix.all (fun p => decide (PySem.W.kitOne K (.ref (He.ga K (p.1 : Str))) (tyV' K p.2.1) = some p.2.2)) && (decide ((L.tf.map fun p => (He.cT K p.1).2).Nodup) && (L.bs.all (fun b => b K) && L.gstrs.all (fun p => (He.Fa.str (p.1 : Str) (p.2 : Str)).ok K))))))))))))))))
/-- the head's facts -/
structure Fx (T : Tb) (mg : Str → Option Value) (L : Lw) : Prop where
  glo : ∀ x ∈ L.glo, mg (x : Str) = some (.ref (He.ga T.K (x : Str)))
  free : ∀ x ∈ L.free, mg (x : Str) = none
  gins : ∀ p ∈ L.gins, ∃ t, mg (p.1 : Str) = some (.int p.2 t)
  cls : ∀ x ∈ L.cls, Cls T.K (He.ga T.K (x : Str))
  noat : ∀ p ∈ L.noat, NoAttr T.K (He.ga T.K (p.1 : Str)) (p.2 : Str)
  meth : ∀ p ∈ L.meth, Meth T.K (He.ga T.K (p.1 : Str)) (p.2 : Str) (He.ma T.K (He.ga T.K (p.1 : Str)) (p.2 : Str))
  mkr : ∀ x ∈ L.mkr, Mk T.K (He.ga T.K (x : Str)) (He.ma T.K (He.ga T.K (x : Str)) "__init__")
  isi : ∀ x ∈ L.isi, IsiC T.K (He.ga T.K (x : Str))
  kit : ∀ p ∈ L.kit, PySem.W.kitOne T.K (tyV' T.K p.1) (tyV' T.K p.2) = some (subTy p.1 p.2)
  tups : ∀ p ∈ L.tups, He.tupB T.K (p.1 : Str) p.2 = true
  defs : ∀ (i : Nat) d, L.defs[i]? = some d → ∃ fd, FunD T.K d.name d.qual d.params d.body d.scope (d.dvs T.K) (d.kws T.K) (He.fAd T.K d.at_) fd
  fas : ∀ f ∈ L.fas, f.ok T.K = true
  exk : ∀ x ∈ L.exk, ExC T.K (He.ga T.K (x : Str))
  kix : ∀ p ∈ L.kix, PySem.W.kitOne T.K (.ref (He.ga T.K (p.1 : Str))) (tyV' T.K p.2.1) = some p.2.2
  tfn : (L.tf.map fun p => (He.cT T.K p.1).2).Nodup
  bs : ∀ b ∈ L.bs, b T.K = true
  gstrs : ∀ p ∈ L.gstrs, ∃ t, mg (p.1 : Str) = some (.str (p.2 : Str) t)
theorem isi_of {K : PySem.W.Frag} {x : String} (h : isiB K x = true) : IsiC K (He.ga K (x : Str)) := by
  obtain ⟨h1, h⟩ := He.ba h
  obtain ⟨h2, h⟩ := He.ba h
  obtain ⟨h3, h⟩ := He.ba h
  obtain ⟨h4, h5⟩ := He.ba h
  exact ⟨He.cls_ok h1, He.eqO_ok h2, He.eqO_ok h3, of_decide_eq_true h4, of_decide_eq_true h5⟩
/-- the head's watch -/
def obL (L : Lw) (K : PySem.W.Frag) : He.AlD := (L.ok K, L.defs.map fun d => He.fnW K d.at_)
theorem fx_of {T : Tb} {L : Lw} {h : Heap} {mg : Str → Option Value} (X : T.K.In h) (G : h.Ns mainGlobals mg) (c : obL L T.K = (true, L.defs.map He.DefD.val)) : Fx T mg L := by
  have c1 : L.ok T.K = true := congrArg (fun z : He.AlD => z.1) c
  have c2 : (L.defs.map fun d => He.fnW T.K d.at_) = L.defs.map He.DefD.val := congrArg (fun z : He.AlD => z.2) c
  obtain ⟨h1, c1⟩ := He.ba c1
  obtain ⟨h2, c1⟩ := He.ba c1
  obtain ⟨h3, c1⟩ := He.ba c1
  obtain ⟨h4, c1⟩ := He.ba c1
  obtain ⟨h5, c1⟩ := He.ba c1
  obtain ⟨h6, c1⟩ := He.ba c1
  obtain ⟨h7, c1⟩ := He.ba c1
  obtain ⟨h8, c1⟩ := He.ba c1
  obtain ⟨h9, c1⟩ := He.ba c1
  obtain ⟨h10, c1⟩ := He.ba c1
  obtain ⟨h11, c1⟩ := He.ba c1
  obtain ⟨h12, c1⟩ := He.ba c1
  obtain ⟨h13, c1⟩ := He.ba c1
  obtain ⟨h14, c1⟩ := He.ba c1
  obtain ⟨h15, c1⟩ := He.ba c1
  obtain ⟨h16, h17⟩ := He.ba c1
  rw [List.all_eq_true] at h1 h2 h3 h4 h5 h6 h7 h8 h9 h10 h11 h12 h13 h14 h16 h17
  refine ⟨fun x hx => He.glo_ok X G (h1 x hx), fun x hx => He.free_ok X G (h2 x hx), fun p hp => He.int_ok X G (h3 p hp), fun x hx => He.cls_ok (h4 x hx), fun p hp => He.noat_ok (h5 p hp), fun p hp => He.meth_ok (h6 p hp), fun x hx => He.mkr_ok (h7 x hx), fun x hx => isi_of (h8 x hx), fun p hp => of_decide_eq_true (h9 p hp), h10, fun i d hd => ?_, h12, fun x hx => exC_of (h13 x hx), fun p hp => of_decide_eq_true (h14 p hp), of_decide_eq_true h15, h16, fun p hp => He.str_ok X G (h17 p hp)⟩
  have e : (L.defs.map fun d => He.fnW T.K d.at_)[i]? = (L.defs.map He.DefD.val)[i]? := by rw [c2]
  rw [List.getElem?_map, List.getElem?_map, hd] at e
  exact He.DefD.funD (Option.some.inj e) (h11 d (List.mem_of_getElem? hd))
section
variable {T : Tb} {mg : Str → Option Value} {L : Lw}
theorem Fx.g (F : Fx T mg L) (x : String) (h : x ∈ L.glo := by decide +kernel) : mg (x : Str) = some (.ref (He.ga T.K (x : Str))) := F.glo x h
theorem Fx.f (F : Fx T mg L) (x : String) (h : x ∈ L.free := by decide +kernel) : mg (x : Str) = none := F.free x h
theorem Fx.i (F : Fx T mg L) (x : String) (i : Int) (h : (x, i) ∈ L.gins := by decide +kernel) : ∃ t, mg (x : Str) = some (.int i t) := F.gins (x, i) h
theorem Fx.m (F : Fx T mg L) (c x : String) (h : (c, x) ∈ L.meth := by decide +kernel) : Meth T.K (He.ga T.K (c : Str)) (x : Str) (He.ma T.K (He.ga T.K (c : Str)) (x : Str)) := F.meth (c, x) h
theorem Fx.c (F : Fx T mg L) (x : String) (h : x ∈ L.cls := by decide +kernel) : Cls T.K (He.ga T.K (x : Str)) := F.cls x h
theorem Fx.mk' (F : Fx T mg L) (x : String) (h : x ∈ L.mkr := by decide +kernel) : Mk T.K (He.ga T.K (x : Str)) (He.ma T.K (He.ga T.K (x : Str)) "__init__") := F.mkr x h
theorem Fx.tp (F : Fx T mg L) (i : Nat) {x : String} {l : List He.Dv} (h : L.tups[i]? = some (x, l) := by rfl) : He.tupB T.K (x : Str) l = true := F.tups (x, l) (List.mem_of_getElem? h)
theorem Fx.at' (F : Fx T mg L) (cs : List String) (f : String) (h : cs.all (fun c => L.cls.contains c && L.noat.contains (c, f)) = true := by decide +kernel) : ∀ c ∈ cs, Cls T.K (He.ga T.K (c : Str)) ∧ NoAttr T.K (He.ga T.K (c : Str)) (f : Str) := fun c hc => by
  have z := List.all_eq_true.mp h c hc
  obtain ⟨h1, h2⟩ := Bool.and_eq_true_iff.mp z
  exact ⟨F.cls c (by simpa using h1), F.noat (c, f) (by simpa using h2)⟩
theorem Fx.is' (F : Fx T mg L) (tys : List Ty) (h : tys.all (fun t => match t with | .o c => L.isi.contains c | _ => true) = true := by decide +kernel) : ∀ t ∈ tys, ∀ c, t = .o c → IsiC T.K (He.ga T.K (c : Str)) := fun t ht c e => by
  subst e
  have z := List.all_eq_true.mp h _ ht
  exact F.isi c (by simpa using z)
theorem Fx.fa (F : Fx T mg L) (i : Nat) {f : He.Fa} (h : L.fas[i]? = some f := by rfl) : f.ok T.K = true := F.fas f (List.mem_of_getElem? h)
theorem Fx.b (F : Fx T mg L) (i : Nat) {b : PySem.W.Frag → Bool} (h : L.bs[i]? = some b := by rfl) : b T.K = true := F.bs b (List.mem_of_getElem? h)
theorem Fx.s (F : Fx T mg L) (x z : String) (h : (x, z) ∈ L.gstrs := by decide +kernel) : ∃ t, mg (x : Str) = some (.str (z : Str) t) := F.gstrs (x, z) h
theorem Fx.ki (F : Fx T mg L) (tys : List Ty) (t : Ty) (h : tys.all (fun x => decide ((x, t) ∈ L.kit)) = true := by decide +kernel) : ∀ x ∈ tys, PySem.W.kitOne T.K (tyV' T.K x) (tyV' T.K t) = some (subTy x t) := fun x hx => F.kit (x, t) (of_decide_eq_true (List.all_eq_true.mp h x hx))
end
variable {T : Tb} {E : XK} {X : Cx} {pos : Pos}
theorem ie_gint {x : Str} {i : Int} (hg : Gl X x) (hm : ∃ t, X.mg x = some (.int i t)) (hd : (x == ("__debug__" : Str)) = false := by decide +kernel) : IE T E X (.Name x pos) (eC (.int i)) := by
  obtain ⟨t, e⟩ := hm
  exact ie_glob (v := .int i) hg e ⟨t, rfl⟩ (fun _ => .int i) hd
theorem ie_gtup {x : Str} {l : List He.Dv} (hg : Gl X x) (hm : X.mg x = some (.ref (He.ga T.K x))) (ht : He.tupB T.K x l = true) (hl : l.all dvOk = true) (hd : (x == ("__debug__" : Str)) = false := by decide +kernel) : IE T E X (.Name x pos) (eC (.tup (l.map dvD))) :=
  ie_glob (v := .ref (He.ga T.K x)) hg hm rfl (fun w => .tup (He.tupB_ok ht w.G) (reps_dfl hl)) hd
theorem hu1 {k : Nat} {A : Around} (hr : RG k A) : A.units + 1 < cLine := by
  have := hr.rm.units
  omega
/-- whose exceptions leave -/
theorem tk_cx {P : Program} {w : World} {K : PySem.W.Frag} {mg : Str → Option Value} {base : Heap} {N : List Str} {qual : Str} {scope : Scope} {fp : Addr} {cd : Value} {A : Around} {outer : List PySem.Env} {s : Shared} {H : Hp} {E : XK} :
    L2N.Takes (cxOf (L2N.CX P w) P w K mg base N qual scope fp cd A outer s H E) (fun c d _ H => E c d H) := L2N.takes_of rfl rfl rfl rfl
theorem tk_no {X : Cx} : L2N.Takes X (fun c d _ H => E00 c d H) := fun _ _ ⟨_, _, _, _, _, _, _, _, _, _, _, _, _, _, _, _, w⟩ => w.elim
end Ro
end
section
set_option Elab.async false
set_option linter.all false
set_option maxRecDepth 100000
set_option maxHeartbeats 4000000
namespace Ro
open PySem PySem.Spec PyProof.Rows L2
variable {T : Tb} {E : XK} {X : Cx} {a b c e : Expr} {es : List Expr} {f g h : EX} {fa ga fk : AX} {fb gb : BX} {pos : Pos} {st : Stmt} {sts rest : List Stmt} {s t : ES}
theorem ie_v (i : Nat) {x : Str} (hN : X.N[i]? = some x := by rfl) (hv : Vis X.env.scope x := by first | exact .inl rfl | exact .inr (.inl rfl) | exact .inr (.inr rfl)) (hd : (x == ("__debug__" : Str)) = false := by decide +kernel) (hcd : (x == ("__classdict__" : Str)) = false := by decide +kernel) : IE T E X (.Name x pos) (eVar i) := ie_var hN hv hd hcd
theorem ig_n {vs : List Nat} (i : Nat) {x : Str} (hN : X.N.Nodup) (hi : X.N[i]? = some x := by rfl) (hx : Loc X.env.scope x := by first | exact .inl rfl | exact .inr rfl) (hv : i ∈ vs := by decide) (hf : X.fn x = true ∨ X.env.scope.names.lookup x = some .local := by first | exact .inl rfl | exact .inr rfl) : IG T X vs (.Name x pos) (pName i) := ig_name hN hi hx hv hf
theorem is_st (i : Nat) {x : Str} {p' : Pos} (hN : X.N.Nodup) (he : IE T E X a f) (hi : X.N[i]? = some x := by rfl) (hx : Loc X.env.scope x := by first | exact .inl rfl | exact .inr rfl) (hs : swapsWith a (some (.Name x p')) pos.line X.env = pure false := by rfl) (hf : X.fn x = true ∨ X.env.scope.names.lookup x = some .local := by first | exact .inl rfl | exact .inr rfl) :
    IS T E X (.Assign [.Name x p'] a pos) (sSet i f) := is_set hN hi hx he hs hf
def allN (n : Nat) : List Nat := List.range n
theorem len_nil : ∀ ds env e, pNil ds env = some e → ds.length = 0 := fun ds env e h => by
  cases ds with
  | nil => rfl
  | cons _ _ => cases h
theorem len_cons {p : Pat} {r : List D → Env → Option Env} {n : Nat} (k : ∀ ds env e, r ds env = some e → ds.length = n) : ∀ ds env e, pCons p r ds env = some e → ds.length = n + 1 := fun ds env e h => by
  cases ds with
  | nil => cases h
  | cons d ds =>
    have h : (p d env).bind (fun e => r ds e) = some e := h
    cases z : p d env with
    | none => rw [z] at h; cases h
    | some e1 =>
      rw [z] at h
      rw [List.length_cons, k ds e1 e h]
def blkB (N : List Str) (sc scope : Scope) (own : List (Str × Nat)) : Bool :=
  decide (scope.kind = .function) && (scope.names.all (fun y => decide (scope.names.lookup y.1 = some y.2)) && (own.all (fun p => decide (N[p.2]? = some p.1)) &&
  (scope.names.all (fun y => !decide (y.2 = .free) || (decide (sc.names.lookup y.1 = some .cell) || decide (sc.names.lookup y.1 = some .free))) &&
  scope.names.all (fun y => !(decide (y.2 = .local) || decide (y.2 = .cell)) || ((own.map (·.1)).contains y.1 || !N.contains y.1)))))
theorem blk_by {N : List Str} {sc scope : Scope} {own : List (Str × Nat)} (h : blkB N sc scope own = true) : BlkOk N sc scope own := by
  unfold blkB at h
  simp only [Bool.and_eq_true, List.all_eq_true, decide_eq_true_eq, Bool.or_eq_true, Bool.not_eq_true', decide_eq_false_iff_not, Bool.or_eq_false_iff] at h
  obtain ⟨h1, h2, h3, h4, h5⟩ := h
  refine ⟨h1, h2, h3, fun y hy e => ?_, fun y hy e => ?_⟩
  · rcases h4 y hy with z | z
    · exact absurd e z
    · exact z
  · rcases h5 y hy with z | z | z
    · rcases e with e | e
      · exact absurd e z.1
      · exact absurd e z.2
    · exact .inl (by simpa using z)
    · exact .inr (by simpa using z)
def idxA (x y : D) (S : Store) : Option D := match x with
  | .ref _ => idxM x y S
  | _ => idxD x y
def eIdxA (a b : EX) : EX := fun env S => (a env S).bnd fun x S1 => (b env S1).bnd fun y S2 => lift (idxA x y S2) S2
theorem PE.byOk {X : Cx} {e : Expr} {f g h : EX} (hg : IE T E X e g) (hh : IE T E X e h) (k : ∀ env S, f env S = g env S ∨ f env S = h env S) : IE T E X e f := ⟨fun pins s σ H Q I q => by
  obtain ⟨w, env, S, r, e, q⟩ := q
  rcases k env S with z | z
  · exact hg.run pins s σ H Q I ⟨w, env, S, r, e, by rw [← z]; exact q⟩
  · exact hh.run pins s σ H Q I ⟨w, env, S, r, e, by rw [← z]; exact q⟩⟩
/-- by the value's kind -/
theorem ie_idxA (hK : X.K = T.K) (ha : IE T E X a f) (hb : IE T E X b g) (hs : PlainIx b := by exact fun _ _ => rfl) : IE T E X (.Subscript a b pos) (eIdxA f g) :=
  PE.byOk (ie_idx hK ha hb hs) (ie_idxM hK ha hb hs) fun env S => by
    unfold eIdxA eIdx eIdxM eOp
    cases z : f env S with
    | ok x S1 =>
      cases x with
      | ref n => exact .inr rfl
      | _ => exact .inl rfl
    | err c fs S1 => exact .inl rfl
    | bad => exact .inl rfl
def itAny (f : EX) : AX := fun env S => (f env S).bnd fun d S1 => match d with
  | .lst l => .ok l S1
  | .tup l => .ok l S1
  | .str s => .ok (s.cps.toList.map fun c => .str ⟨#[c]⟩) S1
  | _ => .bad
/-- a text's signs -/
def itTxt (f : EX) : AX := fun env S => (f env S).bnd fun d S1 => match d with
  | .str s => .ok (s.cps.toList.map fun c => .str ⟨#[c]⟩) S1
  | _ => .bad
theorem itR_str {w : Wd} {z : Str} : ItR T w (z.cps.toList.map fun c => .str ⟨#[c]⟩) (Its z) where
  goS := fun i H w' S l1 r1 hi => by
    rw [List.length_map] at hi
    exact hi
  stopS := fun i H w' S l1 r1 hi => by
    rw [List.length_map] at hi
    exact hi
  yldS := fun i H x H' w' S d l1 r1 hd y => by
    obtain ⟨rfl, c, e, rfl⟩ := y
    rw [List.getElem?_map, Array.getElem?_toList, e] at hd
    cases hd
    exact ⟨w', Wd.le.refl _, r1, .str _⟩
theorem ii_txt {tg : Expr} (h : IE T E X a f) : II T E X tg a (itTxt f) :=
  PI.mono (pi_str h) fun σ H Rr ⟨w, env, S, r, e, q⟩ => ⟨w, env, S, r, e, (RP.bnd q).mono (fun d S1 h1 w1 H1 v l1 r1 p1 => by
    cases p1 with
    | str s => exact ⟨s, rfl, h1 w1 H1 _ l1 r1 itR_str⟩
    | _ => exact (show False from h1).elim) fun _ _ _ x => x⟩
theorem ii_any {tg : Expr} (hK : X.K = T.K) (h : IE T E X a f) : II T E X tg a (itAny f) := ⟨fun pins s σ H R I q => by
  obtain ⟨w, env, S, r, e, q⟩ := q
  by_cases z : ∃ l S1, f env S = .ok (.tup l) S1
  · obtain ⟨l, S1, z⟩ := z
    refine (ii_tup (tg := tg) hK h).run pins s σ H R I ⟨w, env, S, r, e, ?_⟩
    unfold itTup
    unfold itAny at q
    rw [z] at q ⊢
    exact q
  by_cases z2 : ∃ l S1, f env S = .ok (.str l) S1
  · obtain ⟨l, S1, z2⟩ := z2
    refine (ii_txt (tg := tg) h).run pins s σ H R I ⟨w, env, S, r, e, ?_⟩
    unfold itTxt
    unfold itAny at q
    rw [z2] at q ⊢
    exact q
  · refine (ii_lst (tg := tg) hK h).run pins s σ H R I ⟨w, env, S, r, e, ?_⟩
    unfold itSeq
    unfold itAny at q
    cases y : f env S with
    | ok d S1 =>
      rw [y] at q
      cases d with
      | tup l => exact absurd ⟨l, S1, y⟩ z
      | str l => exact absurd ⟨l, S1, y⟩ z2
      | _ => exact q
    | err c fs S1 => rw [y] at q; exact q
    | bad => rw [y] at q; exact q⟩
def zipL : List D → List D → List D
  | x :: l, y :: m => .tup [x, y] :: zipL l m
  | _, _ => []
def itZip (fa : AX) : AX := fun env S => (fa env S).bnd fun ds S1 => match ds with
  | [.lst l, .lst m] => .ok (zipL l m) S1
  | [.tup l, .tup m] => .ok (zipL l m) S1
  | _ => .bad
def enumL : Nat → List D → List D
  | _, [] => []
  | i, x :: l => .tup [.int i, x] :: enumL (i + 1) l
theorem enumL_get : ∀ (l : List D) (k i : Nat), (enumL k l)[i]? = (l[i]?).map fun x => .tup [.int ((k + i : Nat) : Int), x]
  | [], _, _ => by simp [enumL]
  | x :: l, k, 0 => by simp [enumL]
  | x :: l, k, i + 1 => by
    have z := enumL_get l (k + 1) i
    simp only [enumL, List.getElem?_cons_succ]
    rw [z, show k + 1 + i = k + (i + 1) by omega]
theorem enumL_len : ∀ (l : List D) (k : Nat), (enumL k l).length = l.length
  | [], _ => rfl
  | x :: l, k => by simp [enumL, enumL_len l]
theorem itR_enum {w : Wd} {l : List D} {p : Addr} {vs : List V} (h1 : SqL T.K w.G p vs) (r1 : Reps T w l vs) : ItR T w (enumL 0 l) (Ite T.K p) where
  goS := fun i H w' S l1 r hi => by
    rw [enumL_len] at hi
    obtain ⟨x, e1, _⟩ := r1.get (List.getElem?_eq_getElem hi)
    exact ⟨vs, x, sql_sub r (sql_le l1 h1), e1⟩
  stopS := fun i H w' S l1 r hi => by
    rw [enumL_len, r1.length] at hi
    exact ⟨vs, sql_sub r (sql_le l1 h1), hi⟩
  yldS := fun i H v H' w' S d l1 r hd y => by
    obtain ⟨A, x, rfl, hA, rfl, k1⟩ := y
    rw [enumL_get] at hd
    have e1 := k1 vs (sql_sub r (sql_le l1 h1))
    cases y1 : l[i]? with
    | none => rw [y1] at hd; cases hd
    | some d1 =>
      rw [y1] at hd
      cases hd
      obtain ⟨x', g1, g2⟩ := r1.get y1
      rw [e1] at g1; cases g1
      obtain ⟨l2, r2'⟩ := r.new hA (.tup [.int (i : Nat), x])
      refine ⟨_, l2, r2', .tup (.inl (.inl upd_same)) (.cons ?_ (.cons ((g2.monoS l1).mono l2) .nil))⟩
      rw [Nat.zero_add]
      exact .int _
def itEnum (fa : AX) : AX := fun env S => (fa env S).bnd fun ds S1 => match ds with
  | [.lst l] => .ok (enumL 0 l) S1
  | _ => .bad
theorem ii_enum {p tpos : Pos} {elts : List Expr} {kk : Nat} (hK : X.K = T.K) (hg : Gl X "enumerate") (hm : X.mg "enumerate" = none) (ha : IA T E X [a] fa)
    (hs : starEach [a] X.env = [(false, eval a X.env)] := by rfl) : II T E X (.Tuple elts kk tpos) (.Call (.Name "enumerate" p) [a] [] pos) (itEnum fa) :=
  PI.mono (pi_enum hg hm ha hs) fun σ H R ⟨w, env, S, r, e, q⟩ => ⟨w, env, S, r, e, (RP.bnd q).mono (fun ds S1 h1 w1 H1 vs l1 r1 p1 => by
    split at h1
    · obtain ⟨u, rfl, p2⟩ := reps_one p1
      cases p2 with
      | lst a1 a2 =>
        refine ⟨_, _, rfl, .inl (.inl (r1.sub _ _ a1)), ?_⟩
        rw [hK]
        exact h1 w1 H1 _ l1 r1 (itR_enum (.inl (.inl a1)) a2)
    · exact (show False from h1).elim) fun _ _ _ x => x⟩
def bLenA : List D → Option D := fun xs => match xs with
  | [.dct _] => none
  | _ => bLen xs
theorem bo_lenA : BOk T (rLenH T.K) bLenA := bo_len
def dBls : List D → Option (List Bool)
  | [] => some []
  | .bl b :: l => (dBls l).map (b :: ·)
  | _ :: _ => none
theorem reps_bls {w : Wd} : ∀ {l : List D} {vs : List V} {ys : List Bool}, Reps T w l vs → dBls l = some ys → vs = ys.map V.bl
  | [], _, _, .nil, h => by cases h; rfl
  | d :: l, _, _, .cons q r, h => by
    cases q with
    | bl b =>
      cases z : dBls l with
      | none => rw [dBls, z] at h; cases h
      | some ys =>
        rw [dBls, z] at h
        cases h
        rw [reps_bls r z]
        rfl
    | _ => cases h
def dInts : List D → Option (List Int)
  | [] => some []
  | .int b :: l => (dInts l).map (b :: ·)
  | _ :: _ => none
theorem reps_ints {w : Wd} : ∀ {l : List D} {vs : List V} {ys : List Int}, Reps T w l vs → dInts l = some ys → vs = ys.map V.int
  | [], _, _, .nil, h => by cases h; rfl
  | d :: l, _, _, .cons q r, h => by
    cases q with
    | int b =>
      cases z : dInts l with
      | none => rw [dInts, z] at h; cases h
      | some ys =>
        rw [dInts, z] at h
        cases h
        rw [reps_ints r z]
        rfl
    | _ => cases h
def bAll : List D → Option D
  | [.lst l] => (dBls l).map fun bs => .bl (bs.all id)
  | _ => none
def bAny : List D → Option D
  | [.lst l] => (dBls l).map fun bs => .bl (bs.any id)
  | _ => none
theorem bo_all : BOk T (rAll T.K) bAll := fun w S xs vs H d Q r p h k => by
  unfold bAll at h
  split at h
  · rename_i l
    cases z : dBls l with
    | none => rw [z] at h; cases h
    | some bs =>
      rw [z] at h
      cases h
      obtain ⟨v, rfl, p2⟩ := reps_one p
      cases p2 with
      | lst q1 q2 =>
        have e := reps_bls q2 z
        subst e
        exact ⟨_, bs, rfl, .inl (.inl (r.sub _ _ q1)), k w H _ (Wd.le.refl _) r (.bl _)⟩
  · cases h
theorem bo_any : BOk T (rAny T.K) bAny := fun w S xs vs H d Q r p h k => by
  unfold bAny at h
  split at h
  · rename_i l
    cases z : dBls l with
    | none => rw [z] at h; cases h
    | some bs =>
      rw [z] at h
      cases h
      obtain ⟨v, rfl, p2⟩ := reps_one p
      cases p2 with
      | lst q1 q2 =>
        have e := reps_bls q2 z
        subst e
        exact ⟨_, bs, rfl, .inl (.inl (r.sub _ _ q1)), k w H _ (Wd.le.refl _) r (.bl _)⟩
  · cases h
def sPar2 (i j : Nat) (fa : AX) : ES := fun env S => (fa env S).bnd fun xs S1 => match xs with
  | [x, y] => .ok (.nx ((env.set i (some x)).set j (some y))) S1
  | _ => .bad
def sPar3 (i j l : Nat) (fa : AX) : ES := fun env S => (fa env S).bnd fun xs S1 => match xs with
  | [x, y, z] => .ok (.nx (((env.set i (some x)).set j (some y)).set l (some z))) S1
  | _ => .bad
theorem is_par2 {x y : Str} {px py pt : Pos} {kt k2 : Nat} {pt2 : Pos} (i j : Nat) (hN : X.N.Nodup) (ha : IA T E X [a, b] fa) (hc : X.calm = true := by rfl) (hi : X.N[i]? = some x := by rfl) (hj : X.N[j]? = some y := by rfl) (hij : i ≠ j := by decide)
    (hx : X.env.scope.names.lookup x = some .local := by rfl) (hy : X.env.scope.names.lookup y = some .local := by rfl)
    (hw : swappedStores [.Tuple [.Name x px, .Name y py] kt pt] (.Tuple [a, b] k2 pt2) X.env = pure (some [x, y]) := by rfl)
    (hs : swapsWithSole [.Tuple [.Name x px, .Name y py] kt pt] (.Tuple [a, b] k2 pt2) pos.line X.env = pure false := by rfl) :
    IS T E X (.Assign [.Tuple [.Name x px, .Name y py] kt pt] (.Tuple [a, b] k2 pt2) pos) (sPar2 i j fa) :=
  PS.mono (ps_par hc hN hi hj hij hx hy ha hw hs) fun D σ H ⟨w, env, S, r, e, q⟩ => ⟨w, env, S, r, e, (RP.bnd q).mono (fun ds S1 h1 w1 H1 vs l1 r1 p1 => by
    split at h1
    · obtain ⟨v, u, rfl, p2, q2⟩ := reps_two p1
      exact ⟨v, u, rfl, h1 w1 H1 _ l1 r1 (((e.mono l1).set p2 i).set q2 j)⟩
    · exact (show False from h1).elim) fun _ _ _ x => x⟩
/-- r asks no more than r' -/
def RPle {α : Type} (r r' : R α) : Prop := ∀ (Pk : α → Store → Prop) (Pe : String → List D → Store → Prop), RP r Pk Pe → RP r' Pk Pe
theorem IS.eqv {s s' : ES} (h : IS T E X st s) (k : ∀ env S, RPle (s' env S) (s env S)) : IS T E X st s' := PS.mono h fun D σ H ⟨w, env, S, r, e, q⟩ => ⟨w, env, S, r, e, (k env S) _ _ q⟩
theorem is_par2u {i j : Nat} (h : IS T E X st (sUnp (pTup (pCons (pName i) (pCons (pName j) pNil))) (eTup fa))) : IS T E X st (sPar2 i j fa) := h.eqv fun env S Pk Pe q => by
  unfold sPar2 at q
  unfold sUnp eTup
  cases z : fa env S with
  | ok xs S1 =>
    rw [z] at q
    rw [bnd_ok] at q ⊢
    split at q
    · exact q
    · exact (show False from q).elim
  | err c fs S1 => rw [z] at q; exact q
  | bad => rw [z] at q; exact q
def ltA : D → D → Option D
  | .int i, .int j => some (.bl (decide (i < j)))
  | .tup l, .tup m => (dInts l).bind fun ns => (dInts m).map fun ms => .bl (HT.lexLt ns ms)
  | _, _ => none
theorem oi_ltA (hK : X.K = T.K) (hu : X.A.units < cLine) : OpR X (compareOp .Lt) (rOp T ltA) := orOp2 fun w d e r S x y H Q h1 h2 h3 h4 h5 => by
  unfold ltA at h4
  split at h4
  · cases h2; cases h3; cases h4
    exact ⟨_, op_lt, _, _, rfl, rfl, h5 w H _ (Wd.le.refl _) h1 (.bl _)⟩
  · rename_i l m
    cases z : dInts l with
    | none => rw [z] at h4; cases h4
    | some ns =>
      rw [z] at h4
      cases z2 : dInts m with
      | none => rw [z2] at h4; cases h4
      | some ms =>
        rw [z2] at h4
        cases h4
        cases h2 with
        | tup q2 r2 =>
          cases h3 with
          | tup q3 r3 =>
            have e1 := reps_ints r2 z
            have e2 := reps_ints r3 z2
            subst e1 e2
            exact ⟨_, op_ltT hu, _, _, ns, ms, rfl, rfl, by rw [hK]; exact sqt_sub h1 q2, by rw [hK]; exact sqt_sub h1 q3, h5 w H _ (Wd.le.refl _) h1 (.bl _)⟩
  · cases h4
end Ro
end
section
set_option Elab.async false
set_option linter.all false
set_option maxRecDepth 100000
set_option maxHeartbeats 4000000
namespace Ro
open PySem PySem.Spec PyProof.Rows L2
variable {T : Tb} {E : XK} {X : Cx} {a b c e : Expr} {es : List Expr} {f g h : EX} {fa ga fk : AX} {fb gb : BX} {pos : Pos} {st : Stmt} {sts rest : List Stmt} {s t : ES}
def codB : Int := 4294967296
def dTups : List D → Option (List (List Int))
  | [] => some []
  | .tup l :: r => (dInts l).bind fun ns => (dTups r).map (ns :: ·)
  | _ :: _ => none
def srtT (l : List (List Int)) : List (List Int) := l.mergeSort fun a b => decide (TS.code codB a ≤ TS.code codB b)
def tupD (ns : List Int) : D := .tup (ns.map D.int)
def tupOk (n : Nat) (m : List Int) : Bool := decide (m.length = n) && m.all fun z => decide (0 ≤ z ∧ z < codB)
def sortOk (l : List (List Int)) : Bool := decide (l.length < 64) && (match l with
  | [] => true
  | n :: r => decide (1 ≤ n.length) && (n :: r).all (tupOk n.length))
def bSortL (l : List (List Int)) : Option D := if sortOk l then some (.lst ((srtT l).map tupD)) else none
theorem dInts_map : ∀ ns : List Int, dInts (ns.map D.int) = some ns
  | [] => rfl
  | n :: ns => by rw [List.map_cons, dInts, dInts_map ns]; rfl
def bSorted : List D → Option D
  | [.lst l] => (dTups l).bind bSortL
  | [.tup l] => (dTups l).bind bSortL
  | _ => none
def eDctT : EX := fun _ S => .ok (.ref S.length) (S ++ [.dcT []])
def putL (l : List (List Int × D)) (k : List Int) (v : D) : List (List Int × D) :=
  if (l.any fun p => decide (p.1 = k)) = true then l.map (fun p => if p.1 = k then (p.1, v) else p) else l ++ [(k, v)]
def getL (l : List (List Int × D)) (k : List Int) : Option D := (l.find? fun p => decide (p.1 = k)).map (·.2)
theorem inl_inj {a b : List Int} : (a.map Sum.inl : List Key) = b.map Sum.inl ↔ a = b := by
  constructor
  · intro h
    induction a generalizing b with
    | nil => cases b with
      | nil => rfl
      | cons _ _ => cases h
    | cons x a ih => cases b with
      | nil => cases h
      | cons y b =>
        rw [List.map_cons, List.map_cons] at h
        injection h with h1 h2
        injection h1 with h1
        rw [h1, ih h2]
  · rintro rfl; rfl
theorem get_repT {w : Wd} {k : List Int} {d : D} : ∀ {l : List (List Int × D)} {kvs : List (List Key × V)}, kvs.map (·.1) = l.map (fun p => p.1.map Sum.inl) → Reps T w (l.map (·.2)) (kvs.map (·.2)) → getL l k = some d → ∃ v, valV kvs (k.map Sum.inl) = some v ∧ Rep T w d v := by
  intro l
  induction l with
  | nil => intro kvs h1 h2 h3; cases h3
  | cons p l ih =>
    intro kvs h1 h2 h3
    cases kvs with
    | nil => cases h1
    | cons kv kvs =>
      have h1' : kv.1 :: kvs.map (·.1) = p.1.map Sum.inl :: l.map (fun p => p.1.map Sum.inl) := h1
      injection h1' with a1 a2
      have h2' : Reps T w (p.2 :: l.map (·.2)) (kv.2 :: kvs.map (·.2)) := h2
      cases h2' with
      | cons b1 b2 =>
        unfold getL at h3
        unfold valV
        rw [List.find?_cons] at h3 ⊢
        by_cases hk : p.1 = k
        · have hk2 : kv.1 = k.map Sum.inl := by rw [a1, hk]
          rw [decide_eq_true hk] at h3
          rw [decide_eq_true hk2]
          cases h3
          exact ⟨kv.2, rfl, b1⟩
        · have hk2 : ¬ kv.1 = k.map Sum.inl := fun z => hk (inl_inj.mp (a1.symm.trans z))
          rw [decide_eq_false hk] at h3
          rw [decide_eq_false hk2]
          exact ih a2 b2 h3
theorem kV_inl (k : List Int) : (k.map Sum.inl : List Key).map kV = k.map V.int := by rw [List.map_map]; rfl
/-- d[k, ..] = v -/
def sPutT (o : EX) (ks : AX) (v : EX) : ES := fun env S => (v env S).bnd fun z S1 => (o env S1).bnd fun x S2 => (ks env S2).bnd fun ys S3 => match x, dInts ys with
  | .ref n, some k => (match S3[n]? with
    | some (.dcT l) => if l.length < LINE ∧ ys.length ≤ LINE then .ok (.nx env) (S3.set n (.dcT (putL l k z))) else .bad
    | _ => .bad)
  | _, _ => .bad
end Ro
end
section
set_option Elab.async false
set_option linter.all false
set_option maxRecDepth 100000
set_option maxHeartbeats 4000000
namespace Ro
open PySem PySem.Spec PyProof.Rows L2
variable {T : Tb} {E : XK} {X : Cx} {a b c e : Expr} {es : List Expr} {f g h : EX} {fa ga fk : AX} {fb gb : BX} {pos : Pos} {st : Stmt} {sts rest : List Stmt} {s t : ES}
def rIxT' (K : PySem.W.Frag) : R2 := fun x y H Q => ∃ (a b : Addr) (kvs : List (List Key × V)) (k : List Int) (v : V), x = .ref a ∧ y = .ref b ∧ H a = some (.dT kvs) ∧ SqT K H b (k.map V.int) ∧ valV kvs (k.map Sum.inl) = some v ∧ Q v H
theorem ix_dT (hu : X.A.units + 1 < cLine) : IxR X (rIxT' X.K) := by
  intro value slice pins s σ H x y v u Q I rx ry h hs
  obtain ⟨a, b, kvs, k, r, rfl, rfl, ha, hb, hv, q⟩ := h
  obtain rfl : v = Value.ref a := rx
  obtain rfl : u = Value.ref b := ry
  obtain ⟨its, rv, ⟨o, ho, hc, n, hd⟩, _⟩ := I.tuple hb
  rw [← kV_inl] at rv
  have key : (tupleKind (mixKind X.prog X.w)).is s.heap (k.map Sum.inl) b := ⟨o, its.toArray, n, ho, hc, hd, by simpa using items_are (P := X.prog) (w := X.w) rv⟩
  obtain ⟨z, hsy, xs, rel, dd⟩ := dt_of I.hok ha
  obtain ⟨w', hw, rw'⟩ := RelO.some_of (v := r) (o := (atKey xs (k.map Sum.inl)).map (·.2)) (by rw [← hv]; exact rel.val _)
  obtain ⟨p, hp, hp2⟩ := Option.map_eq_some_iff.mp hw
  have ty : s.TypeIs (.ref a) "dict" := by
    obtain ⟨o2, es2, ep2, h1, h2, _⟩ := dd
    exact ⟨o2, h1, h2.1⟩
  refine tail_any ty slot_dict_getitem.lookup (wpAny_getItem_heap (tupleKind_room_in1 hu) key dd hp ?_) hs
  rw [hp2]
  exact ⟨r, H, I.tok _, rw', q⟩
def idxT (x y : D) (S : Store) : Option D := match x, y with
  | .ref n, .tup m => (match S[n]? with
    | some (.dcT l) => (dInts m).bind (getL l)
    | _ => none)
  | _, _ => none
def eIdxT (a b : EX) : EX := fun env S => (a env S).bnd fun x S1 => (b env S1).bnd fun y S2 => lift (idxT x y S2) S2
theorem ie_idxT (hK : X.K = T.K) (hu : X.A.units + 1 < cLine) (ha : IE T E X a f) (hb : IE T E X b g) (hs : PlainIx b := by exact fun _ _ => rfl) : IE T E X (.Subscript a b pos) (eIdxT f g) :=
  PE.mono (pe_ix (ix_dT hu) ha hb hs) fun σ H Q q => by
    have q2 := tI_two (k := fun x y S => lift (idxT x y S) S) q
    obtain ⟨w, env, S, r, e, h⟩ := q2
    refine ⟨w, env, S, r, e, h.mono (fun d S1 h1 w1 H1 x l1 r1 p1 => ?_) fun _ _ _ x => x⟩
    obtain ⟨w2, env2, S2, r2, e2, h2⟩ := h1 w1 H1 x l1 r1 p1
    refine ⟨w2, env2, S2, r2, e2, h2.mono (fun d S1 h1 w1 H1 x l1 r1 p1 => ?_) fun _ _ _ x => x⟩
    obtain ⟨w3, d3, e3, S3, r3, p3, q3, h3⟩ := h1 w1 H1 x l1 r1 p1
    cases z : idxT d3 e3 S3 with
    | none => rw [z] at h3; exact (show False from h3).elim
    | some y =>
      rw [z] at h3
      unfold idxT at z
      split at z
      · rename_i n m
        split at z
        · rename_i l hS
          cases z2 : dInts m with
          | none => rw [z2] at z; cases z
          | some k =>
            rw [z2] at z
            cases p3 with
            | ref hn =>
              cases q3 with
              | tup q4 q5 =>
                obtain ⟨kvs, c1, c2, c3⟩ := r3.cell n _ _ hS hn
                obtain ⟨v, a1, a2⟩ := get_repT c2 c3 z
                have e5 := reps_ints q5 z2
                subst e5
                exact ⟨_, _, kvs, k, v, rfl, rfl, c1, by rw [hK]; exact sqt_sub r3 q4, a1, h3 w3 _ _ (Wd.le.refl _) r3 a2⟩
        · cases z
      · cases z
/-- any of them -/
def idxB (x y : D) (S : Store) : Option D := match x with
  | .ref n => (match y with
    | .tup m => idxT x y S
    | _ => idxM x y S)
  | _ => idxD x y
def eIdxB (a b : EX) : EX := fun env S => (a env S).bnd fun x S1 => (b env S1).bnd fun y S2 => lift (idxB x y S2) S2
theorem ie_idxB (hK : X.K = T.K) (hu : X.A.units + 1 < cLine) (ha : IE T E X a f) (hb : IE T E X b g) (hs : PlainIx b := by exact fun _ _ => rfl) : IE T E X (.Subscript a b pos) (eIdxB f g) :=
  PE.byOk (ie_idxA hK ha hb hs) (ie_idxT hK hu ha hb hs) fun env S => by
    unfold eIdxB eIdxA eIdxT
    cases z : f env S with
    | ok x S1 =>
      rw [bnd_ok, bnd_ok, bnd_ok]
      cases z2 : g env S1 with
      | ok y S2 =>
        rw [bnd_ok, bnd_ok, bnd_ok]
        cases x with
        | ref n => cases y with
          | tup m => exact .inr rfl
          | _ => exact .inl rfl
        | _ => exact .inl rfl
      | err c fs S2 => exact .inl rfl
      | bad => exact .inl rfl
    | err c fs S1 => exact .inl rfl
    | bad => exact .inl rfl
/-- sorted, also of such a dict -/
def eSorted (fa : AX) : EX := fun env S => (fa env S).bnd fun xs S1 => match xs with
  | [.ref n] => (match S1[n]? with
    | some (.dcT l) => lift (bSortL (l.map (·.1))) S1
    | _ => .bad)
  | _ => lift (bSorted xs) S1
end Ro
end
section
set_option Elab.async false
set_option linter.all false
set_option maxRecDepth 100000
set_option maxHeartbeats 4000000
namespace Ro
open PySem PySem.Spec PyProof.Rows L2
theorem callerG : RG 200 callerA := ⟨⟨rfl, by decide, by decide⟩, rfl⟩
/-- a number of at most 2 ^ 20 bits -/
def bits20 (n : Int) : Prop := Builtin.Int.intBits n ≤ 1048576
theorem funD_uniq {K : PySem.W.Frag} {x qual : Str} {params : Arguments} {body : List Stmt} {scope : Scope} {dvs : List V} {kws : List (Str × V)} {f : Addr} {fd fd' : FuncData} (h : FunD K x qual params body scope dvs kws f fd) (h' : FunD K x qual params body scope dvs kws f fd') : fd' = fd := by
  obtain ⟨_, _, _, _, _, _, _, _, _, _, _, e1, _⟩ := h.ex
  obtain ⟨_, _, _, _, _, _, _, _, _, _, _, e2, _⟩ := h'.ex
  rw [e1] at e2
  cases e2
  rfl
end Ro
end
section
set_option Elab.async false
set_option linter.all false
set_option maxRecDepth 100000
set_option maxHeartbeats 4000000
namespace Ro
open PySem
@[irreducible] def W {α : Type} (r : R α) (post : α → Store → Prop) : Prop := match r with
  | .ok a S => post a S
  | _ => False
@[simp] theorem W_ok {α : Type} (a : α) (S : Store) (post : α → Store → Prop) : W (.ok a S) post = post a S := by unfold W; rfl
@[simp] theorem W_err {α : Type} (c : String) (fs : List D) (S : Store) (post : α → Store → Prop) : W (.err c fs S : R α) post = False := by unfold W; rfl
@[simp] theorem W_bad {α : Type} (post : α → Store → Prop) : W (.bad : R α) post = False := by unfold W; rfl
theorem W.mono {α : Type} {r : R α} {p q : α → Store → Prop} (h : W r p) (k : ∀ a S, p a S → q a S) : W r q := by
  cases r with
  | ok a S => rw [W_ok] at h ⊢; exact k a S h
  | err c fs S => rw [W_err] at h; exact h.elim
  | bad => rw [W_bad] at h; exact h.elim
theorem W.bnd {α β : Type} {r : R α} {f : α → Store → R β} {q : β → Store → Prop} (h : W r fun a S => W (f a S) q) : W (r.bnd f) q := by
  cases r with
  | ok a S => rw [W_ok] at h; exact h
  | err c fs S => rw [W_err] at h; exact h.elim
  | bad => rw [W_bad] at h; exact h.elim
theorem W.eq {α : Type} {r : R α} {a : α} {S : Store} (h : r = .ok a S) {q : α → Store → Prop} (k : q a S) : W r q := by rw [h, W_ok]; exact k
theorem W.ex {r : R D} {d : D} (h : W r fun x _ => x = d) : ∃ S, r = .ok d S := by
  cases r with
  | ok a S => rw [W_ok] at h; exact ⟨S, by rw [show a = d from h]⟩
  | err c fs S => rw [W_err] at h; exact h.elim
  | bad => rw [W_bad] at h; exact h.elim
/-- a loop by an invariant -/
theorem W.loop {tg : Pat} {body : ES} {I : Nat → Env → Store → Prop} {q : Ctl → Store → Prop} : ∀ {xs : List D} {k : Nat} {env : Env} {S : Store}, I k env S →
    (∀ (i : Nat) x env S, k ≤ i → xs[i - k]? = some x → I i env S → ∃ env1, tg x env = some env1 ∧ W (body env1 S) fun c S1 => match c with
      | .nx e => I (i + 1) e S1
      | .ct e => I (i + 1) e S1
      | .bk e => q (.nx e) S1
      | .rt d => q (.rt d) S1) →
    (∀ env S, I (k + xs.length) env S → q (.nx env) S) → W (loop tg body xs env S) q
  | [], k, env, S, h, _, fin => by rw [Ro.loop, W_ok]; exact fin env S h
  | x :: xs, k, env, S, h, step, fin => by
    obtain ⟨env1, e1, h1⟩ := step k x env S (Nat.le_refl _) (by simp) h
    unfold Ro.loop
    rw [e1]
    refine W.bnd (h1.mono fun c S1 hc => ?_)
    have next : ∀ e, I (k + 1) e S1 → W (Ro.loop tg body xs e S1) q := fun e he => W.loop (k := k + 1) he (fun i y env S hi hy => step i y env S (by omega) (by
      have : i - k = (i - (k + 1)) + 1 := by omega
      rw [this, List.getElem?_cons_succ]
      exact hy)) (fun env S hI => fin env S (by
      have : k + (x :: xs).length = k + 1 + xs.length := by simp; omega
      rw [this]
      exact hI))
    cases c with
    | nx e => exact next e hc
    | ct e => exact next e hc
    | bk e => rw [W_ok]; exact hc
    | rt d => rw [W_ok]; exact hc
/-- a comprehension without a test, by an invariant of what is made -/
theorem W.lc {tg : Pat} {c : BX} {el : EX} {env0 : Env} {I : Nat → List D → Store → Prop} {q : List D → Store → Prop} : ∀ {xs : List D} {k : Nat} {acc : List D} {S : Store}, I k acc S → acc.length + xs.length ≤ LINE →
    (∀ (i : Nat) x acc S, k ≤ i → xs[i - k]? = some x → I i acc S → ∃ env1, tg x env0 = some env1 ∧ W (c env1 S) fun b S1 => if b then W (el env1 S1) fun y S2 => I (i + 1) (acc ++ [y]) S2 else I (i + 1) acc S1) →
    (∀ acc S, I (k + xs.length) acc S → q acc S) → W (lcLoop tg c el env0 xs acc S) q
  | [], k, acc, S, h, _, _, fin => by rw [lcLoop, W_ok]; exact fin acc S h
  | x :: xs, k, acc, S, h, hl, step, fin => by
    obtain ⟨env1, e1, h1⟩ := step k x acc S (Nat.le_refl _) (by simp) h
    unfold lcLoop
    rw [e1]
    have next : ∀ acc' S', acc'.length ≤ acc.length + 1 → I (k + 1) acc' S' → W (lcLoop tg c el env0 xs acc' S') q := fun acc' S' hl' hI => W.lc (k := k + 1) hI (by simp at hl; omega) (fun i y a S hi hy => step i y a S (by omega) (by
      have : i - k = (i - (k + 1)) + 1 := by omega
      rw [this, List.getElem?_cons_succ]
      exact hy)) (fun a S hI => fin a S (by
      have : k + (x :: xs).length = k + 1 + xs.length := by simp; omega
      rw [this]
      exact hI))
    have nox : ∀ {α : Type} {r : R α} {p : α → Store → Prop}, W r p → W r.nox p := fun {α r p} h => by
      cases r with
      | ok a S => exact h
      | err c fs S => rw [W_err] at h; exact h.elim
      | bad => exact h
    refine W.bnd ((nox h1).mono fun b S1 hb => ?_)
    cases b with
    | false => exact next acc S1 (by omega) hb
    | true =>
      rw [if_pos rfl] at hb ⊢
      refine W.bnd ((nox hb).mono fun y S2 hy => ?_)
      rw [if_pos (by simp at hl; omega)]
      exact next (acc ++ [y]) S2 (by simp) hy
end Ro
end
section
set_option Elab.async false
set_option linter.all false
set_option maxRecDepth 100000
set_option maxHeartbeats 4000000
namespace Ro
open PySem
variable {env : Env} {S : Store}
@[simp] theorem u_eVar (i : Nat) : eVar i env S = (match env[i]? with
  | some (some d) => .ok d S
  | _ => .bad) := rfl
@[simp] theorem u_eC (d : D) : eC d env S = .ok d S := rfl
@[simp] theorem u_eOp (op : D → D → Option D) (a b : EX) : eOp op a b env S = (a env S).bnd fun x S1 => (b env S1).bnd fun y S2 => lift (op x y) S2 := rfl
@[simp] theorem u_eUn (op : D → Option D) (a : EX) : eUn op a env S = (a env S).bnd fun x S1 => lift (op x) S1 := rfl
@[simp] theorem u_aNil : aNil env S = .ok [] S := rfl
@[simp] theorem u_aCons (a : EX) (r : AX) : aCons a r env S = (a env S).bnd fun x S1 => (r env S1).bnd fun xs S2 => .ok (x :: xs) S2 := rfl
@[simp] theorem u_eFn (m : List D → List D → Store → R D) (fa fk : AX) : eFn m fa fk env S = (fa env S).bnd fun xs S1 => (fk env S1).bnd fun zs S2 => m xs zs S2 := rfl
@[simp] theorem u_callM (m : Fn) (n kn pn : Nat) (pk : List (Nat × Nat)) (dfs xs ys : List D) : callM m n kn pn pk dfs xs ys S = if xs.length = n ∧ ys.length = kn ∧ (pick pk xs dfs ys).length = pn then m (pick pk xs dfs ys) S else .bad := rfl
@[simp] theorem u_pick0 {α : Type} (us its ws : List α) : pick [] us its ws = [] := rfl
@[simp] theorem u_pick1 {α : Type} (p : Nat × Nat) (pk : List (Nat × Nat)) (us its ws : List α) : pick (p :: pk) us its ws = ((if p.1 = 0 then us else if p.1 = 1 then its else ws)[p.2]?).toList ++ pick pk us its ws := rfl
@[simp] theorem u_eTup (a : AX) : eTup a env S = (a env S).bnd fun xs S1 => if xs.length ≤ LINE then .ok (.tup xs) S1 else .bad := rfl
@[simp] theorem u_eLst (a : AX) : eLst a env S = (a env S).bnd fun xs S1 => if xs.length ≤ LINE then .ok (.lst xs) S1 else .bad := rfl
@[simp] theorem u_eLstM (a : AX) : eLstM a env S = (a env S).bnd fun xs S1 => if xs.length ≤ LINE then .ok (.ref S1.length) (S1 ++ [.lst xs]) else .bad := rfl
@[simp] theorem u_bOf (a : EX) : bOf a env S = (a env S).bnd fun x S1 => lift (truth x) S1 := rfl
@[simp] theorem u_bVal (a : EX) : bVal a env S = (a env S).bnd fun x S1 => match x with
  | .bl b => .ok b S1
  | _ => .bad := rfl
@[simp] theorem u_bAnd (a b : BX) : bAnd a b env S = (a env S).bnd fun c S1 => if c then b env S1 else .ok false S1 := rfl
@[simp] theorem u_bOr (a b : BX) : bOr a b env S = (a env S).bnd fun c S1 => if c then .ok true S1 else b env S1 := rfl
@[simp] theorem u_bNot (a : BX) : bNot a env S = (a env S).bnd fun c S1 => .ok (!c) S1 := rfl
@[simp] theorem u_eAnd (a b : EX) : eAnd a b env S = (a env S).bnd fun x S1 => match x with
  | .bl c => if c then b env S1 else .ok (.bl false) S1
  | _ => .bad := rfl
@[simp] theorem u_eOr (a b : EX) : eOr a b env S = (a env S).bnd fun x S1 => match x with
  | .bl c => if c then .ok (.bl true) S1 else b env S1
  | _ => .bad := rfl
@[simp] theorem u_eNot (a : EX) : eNot a env S = (a env S).bnd fun x S1 => match x with
  | .bl c => .ok (.bl (!c)) S1
  | _ => .bad := rfl
@[simp] theorem u_eIf (c : BX) (a b : EX) : eIf c a b env S = (c env S).bnd fun k S1 => if k then a env S1 else b env S1 := rfl
def chk {α : Type} (o : Option D) (a b : R α) : R α := match o with
  | some (.bl c) => if c then a else b
  | _ => .bad
@[simp] theorem chk_bl {α : Type} (c : Bool) (a b : R α) : chk (some (.bl c)) a b = if c then a else b := rfl
@[simp] theorem u_eChain (op op' : D → D → Option D) (a b c : EX) : eChain op op' a b c env S = (a env S).bnd fun x S1 => (b env S1).bnd fun y S2 => chk (op x y) ((c env S2).bnd fun z S3 => lift (op' y z) S3) (.ok (.bl false) S2) := by
  unfold eChain
  congr 1
  funext x S1
  congr 1
  funext y S2
  unfold chk
  split
  · rename_i h; simp [h]
  · rename_i h; simp [h]
  · rename_i h1 h2
    split
    · rename_i c h
      cases c
      · exact (h2 h).elim
      · exact (h1 h).elim
    · rfl
@[simp] theorem u_eIdxB (a b : EX) : eIdxB a b env S = (a env S).bnd fun x S1 => (b env S1).bnd fun y S2 => lift (idxB x y S2) S2 := rfl
@[simp] theorem u_oNone : oNone env S = .ok none S := rfl
@[simp] theorem u_oSome (a : EX) : oSome a env S = (a env S).bnd fun x S1 => match x with
  | .int i => .ok (some i) S1
  | _ => .bad := rfl
@[simp] theorem u_eCut (a : EX) (lo hi : OX) : eCut a lo hi env S = (a env S).bnd fun x S1 => (lo env S1).bnd fun l S2 => (hi env S2).bnd fun h S3 => lift (cutD x l h) S3 := rfl
@[simp] theorem u_eIsI (tys : List Ty) (Tt : Ty) (a : EX) : eIsI tys Tt a env S = (a env S).bnd fun x S1 => match tyD x S1 with
  | some t => if tys.contains t then .ok (.bl (subTy t Tt)) S1 else .bad
  | none => .bad := rfl
@[simp] theorem u_eAttr (cf : String → List String) (cs : List String) (f : String) (a : EX) : eAttr cf cs f a env S = (a env S).bnd fun x S1 => lift (attrD cf cs f x S1) S1 := rfl
@[simp] theorem u_eB (m : List D → Option D) (fa : AX) : eB m fa env S = (fa env S).bnd fun xs S1 => lift (m xs) S1 := rfl
@[simp] theorem u_eMeth (cf : String → List String) (c mn : String) (m : List D → List D → Store → R D) (o : EX) (fa fk : AX) : eMeth cf c mn m o fa fk env S = (o env S).bnd fun x S1 => if isInst cf c mn x S1 then (fa env S1).bnd fun xs S2 => (fk env S2).bnd fun zs S3 => m (x :: xs) zs S3 else .bad := rfl
@[simp] theorem u_eFrz (cf : String → List String) (a : EX) : eFrz cf a env S = frzM cf (a env S) := rfl
@[simp] theorem u_eLC (vs : List Nat) (it : AX) (tg : Pat) (c : BX) (el : EX) : eLC vs it tg c el env S = (it env S).bnd fun xs S1 => (lcLoop tg c el (wipeE env vs) xs [] S1).bnd fun ys S2 => .ok (.lst ys) S2 := rfl
@[simp] theorem u_bYes : bYes env S = .ok true S := rfl
@[simp] theorem u_eSorted (fa : AX) : eSorted fa env S = (fa env S).bnd fun xs S1 => match xs with
  | [.ref n] => (match S1[n]? with
    | some (.dcT l) => lift (bSortL (l.map (·.1))) S1
    | _ => .bad)
  | _ => lift (bSorted xs) S1 := rfl
@[simp] theorem u_eDctT : eDctT env S = .ok (.ref S.length) (S ++ [.dcT []]) := rfl
@[simp] theorem u_sSet (i : Nat) (e : EX) : sSet i e env S = (e env S).bnd fun d S1 => .ok (.nx (env.set i (some d))) S1 := rfl
@[simp] theorem u_sSeq (s t : ES) : sSeq s t env S = (s env S).bnd fun c S1 => match c with
  | .nx e => t e S1
  | c => .ok c S1 := rfl
@[simp] theorem u_sPass : sPass env S = .ok (.nx env) S := rfl
@[simp] theorem u_sIf (c : BX) (s t : ES) : sIf c s t env S = (c env S).bnd fun k S1 => if k then s env S1 else t env S1 := rfl
@[simp] theorem u_sRet (e : EX) : sRet e env S = (e env S).bnd fun d S1 => .ok (.rt d) S1 := rfl
@[simp] theorem u_sExpr (e : EX) : sExpr e env S = (e env S).bnd fun _ S1 => .ok (.nx env) S1 := rfl
@[simp] theorem u_sUnp (p : Pat) (e : EX) : sUnp p e env S = (e env S).bnd fun d S1 => match p d env with
  | some env' => .ok (.nx env') S1
  | none => .bad := rfl
@[simp] theorem u_sPar2 (i j : Nat) (fa : AX) : sPar2 i j fa env S = (fa env S).bnd fun xs S1 => match xs with
  | [x, y] => .ok (.nx ((env.set i (some x)).set j (some y))) S1
  | _ => .bad := rfl
@[simp] theorem u_sFor (it : AX) (tg : Pat) (body : ES) : sFor it tg body env S = (it env S).bnd fun xs S1 => loop tg body xs env S1 := rfl
@[simp] theorem u_sSetIt (o i v : EX) : sSetIt o i v env S = (v env S).bnd fun z S1 => (o env S1).bnd fun x S2 => (i env S2).bnd fun y S3 => match setM x y z S3 with
  | some S4 => .ok (.nx env) S4
  | none => .bad := rfl
@[simp] theorem u_sSetAttr (cs : List String) (f : String) (o v : EX) : sSetAttr cs f o v env S = (v env S).bnd fun y S1 => (o env S1).bnd fun x S2 => match x with
  | .ref n => match S2[n]? with
    | some (.ins c fs) => if cs.contains c && decide (fs.length < 1000) then .ok (.nx env) (S2.set n (.ins c (setF f y fs))) else .bad
    | _ => .bad
  | _ => .bad := rfl
@[simp] theorem u_sPutT (o : EX) (ks : AX) (v : EX) : sPutT o ks v env S = (v env S).bnd fun z S1 => (o env S1).bnd fun x S2 => (ks env S2).bnd fun ys S3 => match x, dInts ys with
  | .ref n, some k => (match S3[n]? with
    | some (.dcT l) => if l.length < LINE ∧ ys.length ≤ LINE then .ok (.nx env) (S3.set n (.dcT (putL l k z))) else .bad
    | _ => .bad)
  | _, _ => .bad := rfl
@[simp] theorem u_itR1 (fa : AX) : itR1 fa env S = (fa env S).bnd fun ds S1 => match ds with
  | [.int j] => if small62 j then .ok (rngL 0 j.toNat) S1 else .bad
  | _ => .bad := rfl
@[simp] theorem u_itR2 (fa : AX) : itR2 fa env S = (fa env S).bnd fun ds S1 => match ds with
  | [.int i, .int j] => if small62 i && small62 j then .ok (rngL i (j - i).toNat) S1 else .bad
  | _ => .bad := rfl
@[simp] theorem u_itAny (f : EX) : itAny f env S = (f env S).bnd fun d S1 => match d with
  | .lst l => .ok l S1
  | .tup l => .ok l S1
  | .str s => .ok (s.cps.toList.map fun c => .str ⟨#[c]⟩) S1
  | _ => .bad := rfl
@[simp] theorem u_itZip (fa : AX) : itZip fa env S = (fa env S).bnd fun ds S1 => match ds with
  | [.lst l, .lst m] => .ok (zipL l m) S1
  | [.tup l, .tup m] => .ok (zipL l m) S1
  | _ => .bad := rfl
@[simp] theorem u_fnM (n : Nat) (body : ES) (ds : List D) : fnM n body ds S = (body (ds.map some ++ List.replicate (n - ds.length) none) S).bnd fun c S1 => match c with
  | .rt d => .ok d S1
  | .nx _ => .ok .non S1
  | _ => .bad := rfl
@[simp] theorem u_pName (i : Nat) (d : D) : pName i d env = some (env.set i (some d)) := rfl
@[simp] theorem u_pTup (r : List D → Env → Option Env) (l : List D) : pTup r (.tup l) env = r l env := rfl
@[simp] theorem u_pNil : pNil [] env = some env := rfl
@[simp] theorem u_pCons (p : Pat) (r : List D → Env → Option Env) (d : D) (ds : List D) : pCons p r (d :: ds) env = (p d env).bind fun e => r ds e := rfl
@[simp] theorem o_add (i j : Int) : addD (.int i) (.int j) = some (.int (i + j)) := rfl
@[simp] theorem o_sub (i j : Int) : subD (.int i) (.int j) = some (.int (i - j)) := rfl
@[simp] theorem o_mul (i j : Int) : mulD (.int i) (.int j) = if mulOk i j then some (.int (i * j)) else none := rfl
@[simp] theorem o_fdiv (i j : Int) : fdivD (.int i) (.int j) = if 0 < j ∧ j.natAbs.log2 < 9000 then some (.int (i / j)) else none := rfl
@[simp] theorem o_mod (i j : Int) : modD (.int i) (.int j) = if 0 < j then some (.int (i % j)) else none := rfl
@[simp] theorem o_lt (i j : Int) : ltA (.int i) (.int j) = some (.bl (decide (i < j))) := rfl
@[simp] theorem o_le (i j : Int) : leD (.int i) (.int j) = some (.bl (decide (i ≤ j))) := rfl
@[simp] theorem o_gt (i j : Int) : gtD (.int i) (.int j) = some (.bl (decide (j < i))) := rfl
@[simp] theorem o_eqi (i j : Int) : eqD (.int i) (.int j) = some (.bl (decide (i = j))) := rfl
@[simp] theorem o_nei (i j : Int) : neD (.int i) (.int j) = some (.bl (!decide (i = j))) := rfl
@[simp] theorem o_powi (i j : Int) : powD (.int i) (.int j) = if 0 ≤ j ∧ j ≤ 1000000 ∧ i.natAbs < 2 ^ 64 then some (.int (i ^ j.toNat)) else none := rfl
@[simp] theorem ix_nn (n j : Nat) (h : j < n) : pyIx n (j : Int) = some j := by
  unfold pyIx
  rw [if_pos (by omega), if_pos (by omega)]
  simp
@[simp] theorem ix_0 (n : Nat) : pyIx (n + 1) 0 = some 0 := ix_nn (n + 1) 0 (by omega)
@[simp] theorem idx_ref (n : Nat) (i : Int) : idxB (.ref n) (.int i) S = (match S[n]? with
    | some (.lst l) => atP l i
    | _ => none) := rfl
@[simp] theorem idx_lst (l : List D) (i : Int) : idxB (.lst l) (.int i) S = atP l i := rfl
@[simp] theorem idx_tup (l : List D) (i : Int) : idxB (.tup l) (.int i) S = atP l i := rfl
@[simp] theorem idx_scr (l : List Int) (i : Int) : idxB (.scr l) (.int i) S = (atP l i).map D.int := rfl
@[simp] theorem set_ref (n : Nat) (i : Int) (v : D) : setM (.ref n) (.int i) v S = (match S[n]? with
    | some (.lst l) => (pyIx l.length i).map fun j => S.set n (.lst (l.set j v))
    | _ => none) := rfl
@[simp] theorem W_bnd {α β : Type} (r : R α) (f : α → Store → R β) (q : β → Store → Prop) : W (r.bnd f) q = W r fun a S => W (f a S) q := by cases r <;> simp
@[simp] theorem W_lift {α : Type} (o : Option α) (q : α → Store → Prop) : W (lift o S) q = ∃ a, o = some a ∧ q a S := by cases o <;> simp [lift]
@[simp] theorem u_small (i : Int) : small62 i = decide (-(2 ^ 62) ≤ i ∧ i < 2 ^ 62) := rfl
@[simp] theorem rng_len (lo : Int) (n : Nat) : (rngL lo n).length = n := by simp [rngL]
theorem rng_get {lo : Int} {n i : Nat} {d : D} (h : (rngL lo n)[i]? = some d) : i < n ∧ d = .int (lo + (i : Int)) := by
  unfold rngL at h
  rw [List.getElem?_map] at h
  cases z : (List.range n)[i]? with
  | none => rw [z] at h; cases h
  | some k =>
    rw [z] at h
    obtain ⟨hl, e⟩ := List.getElem?_eq_some_iff.mp z
    rw [List.getElem_range] at e
    subst e
    cases h
    exact ⟨by simpa using hl, rfl⟩
@[simp] theorem at_0 (d : D) (l : List D) : atP (d :: l) 0 = some d := by simp [atP]
@[simp] theorem at_1 (d e : D) (l : List D) : atP (d :: e :: l) 1 = some e := by
  have : pyIx (d :: e :: l).length 1 = some 1 := ix_nn _ 1 (by simp)
  unfold atP
  rw [this]
  rfl
@[simp] theorem ix_1 (n : Nat) : pyIx (n + 1 + 1) 1 = some 1 := ix_nn (n + 2) 1 (by omega)
@[simp high] theorem W_liftIf {α : Type} (c : Prop) [Decidable c] (a : α) (q : α → Store → Prop) : W (lift (if c then some a else none) S) q = (c ∧ q a S) := by
  by_cases h : c <;> simp [h, lift]
@[simp] theorem log_7 : Nat.log2 7 < 9000 := by decide
@[simp] theorem log_2 : Nat.log2 2 < 9000 := by decide
@[simp] theorem LINE_eq : LINE = 16777216 := rfl
@[simp] theorem pyEq_str (a b : Str) : pyEq (.str a) (.str b) = decide (a = b) := by rw [pyEq]
@[simp] theorem pyEq_int (a b : Int) : pyEq (.int a) (.int b) = decide (a = b) := by rw [pyEq]
@[simp] theorem pyEq_tup (a b : List D) : pyEq (.tup a) (.tup b) = pyEqs a b := by rw [pyEq]
@[simp] theorem pyEq_lst (a b : List D) : pyEq (.lst a) (.lst b) = pyEqs a b := by rw [pyEq]
@[simp] theorem pyEqs_nil : pyEqs [] [] = true := by rw [pyEqs]
@[simp] theorem pyEqs_cons (x y : D) (l m : List D) : pyEqs (x :: l) (y :: m) = (pyEq x y && pyEqs l m) := by rw [pyEqs]
@[simp] theorem pyEqs_nc (y : D) (m : List D) : pyEqs [] (y :: m) = false := by rw [pyEqs] <;> simp
@[simp] theorem pyEqs_cn (x : D) (l : List D) : pyEqs (x :: l) [] = false := by rw [pyEqs] <;> simp
@[simp] theorem inL_nil (x : D) : inL x [] = false := rfl
@[simp] theorem inL_cons (x y : D) (l : List D) : inL x (y :: l) = (pyEq y x || inL x l) := rfl
@[simp] theorem pl_str (n : Nat) (a : Str) : plN n (.str a) = true := by cases n <;> rfl
@[simp] theorem pl_int (n : Nat) (a : Int) : plN n (.int a) = true := by cases n <;> rfl
@[simp] theorem pl_bl (n : Nat) (a : Bool) : plN n (.bl a) = true := by cases n <;> rfl
@[simp] theorem pl_non (n : Nat) : plN n .non = true := by cases n <;> rfl
@[simp] theorem pl_tup (n : Nat) (l : List D) : plN (n + 1) (.tup l) = l.all (plN n) := rfl
@[simp] theorem pl_lst (n : Nat) (l : List D) : plN (n + 1) (.lst l) = l.all (plN n) := rfl
@[simp] theorem pl_D (d : D) : plD d = plN 8 d := rfl
end Ro
end
section
set_option Elab.async false
set_option linter.all false
set_option maxRecDepth 100000
set_option maxHeartbeats 4000000
namespace Ro
open PySem
def b__law_cell : ES :=
  (sSeq (sIf (bVal (eOp ltA (eVar 1) (eB bLenA (aCons (eVar 0) aNil)))) (sRet (eIdxB (eVar 0) (eVar 1))) sPass)
  (sRet (eC (.int 0))))
def m__law_cell : Fn := fnM 2 b__law_cell
def b__law_mix : ES :=
  (sSeq (sSet 2 (eLst (aCons (eC (.int 48271)) (aCons (eC (.int 69621)) (aCons (eC (.int 16807)) (aCons (eC (.int 39373)) (aCons (eC (.int 30269)) (aCons (eC (.int 40014)) (aCons (eC (.int 40692)) (aCons (eC (.int 50021)) (aCons (eC (.int 61687)) (aCons (eC (.int 71993)) (aCons (eC (.int 83869)) (aCons (eC (.int 95561)) (aCons (eC (.int 30307)) aNil)))))))))))))))
  (sSeq (sSet 3 (eOp mulD (eOp addD (eOp modD (eVar 0) (eC (.int 2147483647))) (eC (.int 12345))) (eIdxB (eVar 2) (eOp modD (eVar 1) (eC (.int 13))))))
  (sSeq (sSet 3 (eOp addD (eOp addD (eVar 3) (eOp mulD (eC (.int 977)) (eVar 1))) (eOp mulD (eC (.int 7919)) (eOp fdivD (eVar 1) (eC (.int 13))))))
  (sSeq (sSet 3 (eOp modD (eVar 3) (eC (.int 1000000007))))
  (sRet (eOp fdivD (eOp modD (eOp addD (eOp mulD (eVar 3) (eVar 3)) (eOp mulD (eC (.int 48271)) (eVar 1))) (eC (.int 1000000007))) (eC (.int 7))))))))
def m__law_mix : Fn := fnM 4 b__law_mix
def b__law_box : ES :=
  (sSeq (sSet 3 (eFn (callM m__law_cell 2 0 2 [(0, 0), (0, 1)] []) (aCons (eVar 0) (aCons (eVar 1) aNil)) aNil))
  (sSeq (sIf (bAnd (bVal (eOp eqD (eOp modD (eVar 3) (eC (.int 2))) (eC (.int 0)))) (bVal (eOp eqD (eVar 2) (eC (.int 0))))) (sRet (eLstM (aCons (eOp fdivD (eB bAbs (aCons (eVar 3) aNil)) (eC (.int 2))) aNil))) sPass)
  (sSeq (sSet 4 (eC (.int 0)))
  (sSeq (sFor (itR1 (aCons (eC (.int 90)) aNil)) (pName 5) (sSet 4 (eOp addD (eOp mulD (eVar 4) (eC (.int 142857143))) (eFn (callM m__law_mix 2 0 2 [(0, 0), (0, 1)] []) (aCons (eVar 3) (aCons (eOp addD (eOp mulD (eC (.int 90)) (eVar 2)) (eVar 5)) aNil)) aNil))))
  (sRet (eLstM (aCons (eVar 4) aNil)))))))
def m__law_box : Fn := fnM 6 b__law_box
def b__law_take : ES :=
  (sSeq (sUnp (pTup (pCons (pName 2) (pCons (pName 3) pNil))) (eB bDivmod (aCons (eIdxB (eVar 0) (eC (.int 0))) (aCons (eVar 1) aNil))))
  (sSeq (sSetIt (eVar 0) (eC (.int 0)) (eVar 2))
  (sRet (eVar 3))))
def m__law_take : Fn := fnM 4 b__law_take
theorem mulOk_lt {i j : Int} {n m : Nat} (h1 : i.natAbs < 2 ^ n) (h2 : j.natAbs < 2 ^ m) (h : n + m < 1000000) (hn : 0 < n := by decide) (hm : 0 < m := by decide) : mulOk i j = true := by
  have key : ∀ {a k : Nat}, 0 < k → a < 2 ^ k → a.log2 < k := fun {a k} hk ha => by
    by_cases z : a = 0
    · subst z; simpa using hk
    · exact (Nat.log2_lt z).mpr ha
  unfold mulOk
  exact decide_eq_true (by have := key hn h1; have := key hm h2; omega)
/-- a box of digits stands at b -/
def Bx (S : Store) (b : Nat) : Prop := ∃ x y : Int, S[b]? = some (.lst [.int x]) ∧ 0 ≤ x ∧ 0 ≤ y
/-- .. and was drawn from, nothing else was turned -/
def Bs (S : Store) (b : Nat) (S' : Store) : Prop := ∃ x y : Int, 0 ≤ x ∧ 0 ≤ y ∧ S' = S.set b (.lst [.int x])
theorem Bx.lt {S : Store} {b : Nat} (h : Bx S b) : b < S.length := by
  obtain ⟨x, y, h, _⟩ := h
  exact (List.getElem?_eq_some_iff.mp h).1
theorem Bs.bx {S S' : Store} {b : Nat} (h : Bs S b S') (hb : b < S.length) : Bx S' b := by
  obtain ⟨x, y, h1, h2, rfl⟩ := h
  exact ⟨x, y, by rw [List.getElem?_set]; simp [hb], h1, h2⟩
theorem Bs.trans {S S' S'' : Store} {b : Nat} (h : Bs S b S') (h' : Bs S' b S'') : Bs S b S'' := by
  obtain ⟨x, y, h1, h2, rfl⟩ := h
  obtain ⟨x', y', h3, h4, rfl⟩ := h'
  exact ⟨x', y', h3, h4, by rw [List.set_set]⟩
theorem Bs.len {S S' : Store} {b : Nat} (h : Bs S b S') : S'.length = S.length := by
  obtain ⟨x, y, h1, h2, rfl⟩ := h
  rw [List.length_set]
theorem Bs.other {S S' : Store} {b c : Nat} (h : Bs S b S') (hc : c ≠ b) : S'[c]? = S[c]? := by
  obtain ⟨x, y, h1, h2, rfl⟩ := h
  rw [List.getElem?_set_ne (Ne.symm hc)]
theorem set_same {S : Store} {b : Nat} {c : Cell} (h : S[b]? = some c) : S.set b c = S := by
  obtain ⟨h1, h2⟩ := List.getElem?_eq_some_iff.mp h
  rw [← h2]
  exact List.set_getElem_self h1
theorem take_ok {S : Store} {b : Nat} {n : Int} (hB : Bx S b) (hn : 0 < n ∧ n < 1152921504606846976) : W (m__law_take [.ref b, .int n] S) fun d S' => (∃ i : Int, d = .int i ∧ 0 ≤ i ∧ i < n) ∧ Bs S b S' := by
  obtain ⟨x, y, hS, hx, hy⟩ := hB
  have hb : b < S.length := (List.getElem?_eq_some_iff.mp hS).1
  have hd : divOk n = true := decide_eq_true hn
  unfold m__law_take b__law_take
  simp [hS, bDivmod, hd]
  exact ⟨⟨Int.emod_nonneg _ (by omega), Int.emod_lt_of_pos _ hn.1⟩, _, 0, Int.ediv_nonneg hx (by omega), by omega, rfl⟩
theorem cell_ok {S : Store} {ns : List Int} {k : Nat} : ∃ c : Int, m__law_cell [.scr ns, .int k] S = .ok (.int c) S := by
  unfold m__law_cell b__law_cell
  by_cases c : k < ns.length
  · have hix : atP ns (k : Int) = some ns[k] := by
      unfold atP
      rw [ix_nn _ _ c]
      simp [c]
    refine ⟨ns[k], ?_⟩
    simp [bLenA, bLen, lenD, c, hix]
  · refine ⟨0, ?_⟩
    simp [bLenA, bLen, lenD, c]
def mixs : List Int := [48271, 69621, 16807, 39373, 30269, 40014, 40692, 50021, 61687, 71993, 83869, 95561, 30307]
theorem mix_ok {S : Store} {c : Int} {k : Nat} (hk : k < 2000) : ∃ r : Int, m__law_mix [.int c, .int k] S = .ok (.int r) S ∧ 0 ≤ r ∧ r < 1000000007 := by
  have hm : (k : Int) % 13 = ((k % 13 : Nat) : Int) := by omega
  have hl : k % 13 < 13 := Nat.mod_lt _ (by decide)
  obtain ⟨z, hz, z1, z2⟩ : ∃ z : Int, atP (mixs.map D.int) ((k : Int) % 13) = some (.int z) ∧ 0 ≤ z ∧ z < 100000 := by
    rw [hm]
    generalize k % 13 = j at hl
    unfold atP
    rw [ix_nn _ _ (by simpa [mixs] using hl)]
    match j, hl with
    | 0, _ => exact ⟨_, rfl, by decide, by decide⟩
    | 1, _ => exact ⟨_, rfl, by decide, by decide⟩
    | 2, _ => exact ⟨_, rfl, by decide, by decide⟩
    | 3, _ => exact ⟨_, rfl, by decide, by decide⟩
    | 4, _ => exact ⟨_, rfl, by decide, by decide⟩
    | 5, _ => exact ⟨_, rfl, by decide, by decide⟩
    | 6, _ => exact ⟨_, rfl, by decide, by decide⟩
    | 7, _ => exact ⟨_, rfl, by decide, by decide⟩
    | 8, _ => exact ⟨_, rfl, by decide, by decide⟩
    | 9, _ => exact ⟨_, rfl, by decide, by decide⟩
    | 10, _ => exact ⟨_, rfl, by decide, by decide⟩
    | 11, _ => exact ⟨_, rfl, by decide, by decide⟩
    | 12, _ => exact ⟨_, rfl, by decide, by decide⟩
  have hz' : atP [D.int 48271, D.int 69621, D.int 16807, D.int 39373, D.int 30269, D.int 40014, D.int 40692, D.int 50021, D.int 61687, D.int 71993, D.int 83869, D.int 95561, D.int 30307] ((k : Int) % 13) = some (.int z) := hz
  have b1 : ∀ x : Int, mulOk (x % 2147483647 + 12345) z = true := fun x => mulOk_lt (n := 32) (m := 17) (by omega) (by omega) (by decide)
  have b2 : mulOk 977 k = true := mulOk_lt (n := 10) (m := 11) (by decide) (by omega) (by decide)
  have b3 : mulOk 7919 (k / 13) = true := mulOk_lt (n := 13) (m := 11) (by decide) (by omega) (by decide)
  have b4 : ∀ x : Int, mulOk (x % 1000000007) (x % 1000000007) = true := fun x => mulOk_lt (n := 30) (m := 30) (by omega) (by omega) (by decide)
  have b5 : mulOk 48271 k = true := mulOk_lt (n := 16) (m := 11) (by decide) (by omega) (by decide)
  have l13 : Nat.log2 13 < 9000 := by decide
  unfold m__law_mix b__law_mix
  simp [-List.getElem?_eq_getElem, hz', b1, b2, b3, b4, b5, l13]
  omega
/-- a fresh box of the script -/
theorem box_ok {S : Store} {ns : List Int} {k lap : Nat} (hl : lap < 20) : W (m__law_box [.scr ns, .int k, .int lap] S) fun d S' => ∃ x : Int, d = .ref S.length ∧ S' = S ++ [.lst [.int x]] ∧ 0 ≤ x := by
  obtain ⟨c, hc⟩ := cell_ok (S := S) (ns := ns) (k := k)
  have l2 : Nat.log2 2 < 9000 := by decide
  unfold m__law_box b__law_box
  have key : W (loop (pName 5) (sSet 4 (eOp addD (eOp mulD (eVar 4) (eC (.int 142857143))) (eFn (callM m__law_mix 2 0 2 [(0, 0), (0, 1)] []) (aCons (eVar 3) (aCons (eOp addD (eOp mulD (eC (.int 90)) (eVar 2)) (eVar 5)) aNil)) aNil))) (rngL 0 90)
      [some (.scr ns), some (.int k), some (.int lap), some (.int c), some (.int 0), none] S) fun q S' => ∃ (x : Int) (z : Option D), q = .nx [some (.scr ns), some (.int k), some (.int lap), some (.int c), some (.int x), z] ∧ 0 ≤ x ∧ S' = S := by
    refine W.loop (I := fun i env S' => ∃ (x : Int) (z : Option D), env = [some (.scr ns), some (.int k), some (.int lap), some (.int c), some (.int x), z] ∧ 0 ≤ x ∧ x < 2 ^ (31 * i) ∧ S' = S) (k := 0)
      ⟨0, none, rfl, by omega, by decide, rfl⟩ (fun i d env S' hi hd hI => ?_) (fun env S' hI => ?_)
    · obtain ⟨x, z, rfl, x1, x2, rfl⟩ := hI
      obtain ⟨hi, rfl⟩ := rng_get hd
      simp at hi
      refine ⟨_, rfl, ?_⟩
      obtain ⟨r, hr, r1, r2⟩ := mix_ok (S := S') (c := c) (k := 90 * lap + i) (by omega)
      have e : ((90 * lap + i : Nat) : Int) = 90 * (lap : Int) + (0 + (i : Int)) := by omega
      rw [e] at hr
      have hpow : (2 : Int) ^ (31 * i) ≤ 2 ^ 2790 := by
        have : (2 : Nat) ^ (31 * i) ≤ 2 ^ 2790 := Nat.pow_le_pow_right (by decide) (by omega)
        exact_mod_cast this
      have b1 : mulOk x 142857143 = true := mulOk_lt (n := 2791) (m := 28) (by
        have h : x < 2 ^ 2790 := Int.lt_of_lt_of_le x2 hpow
        have : x.natAbs < 2 ^ 2790 := by omega
        omega) (by decide) (by decide)
      have b2 : mulOk 90 lap = true := mulOk_lt (n := 7) (m := 5) (by decide) (by omega) (by decide)
      have e7 : (2 : Int) ^ (31 * (i + 1)) = 2 ^ (31 * i) * 2147483648 := by rw [Nat.mul_add, Int.pow_add]; rfl
      simp only [Int.zero_add] at hr
      simp [b1, b2, hr]
      rw [e7]
      generalize (2 : Int) ^ (31 * i) = P at x2
      exact ⟨by omega, by omega⟩
    · obtain ⟨x, z, rfl, x1, x2, rfl⟩ := hI
      exact ⟨x, z, rfl, x1, rfl⟩
  by_cases e1 : c % 2 = 0
  · by_cases e2 : (lap : Int) = 0
    · simp [hc, e1, e2, bAbs]
      omega
    · simp [hc, e1, e2]
      have e2' : ¬ lap = 0 := by omega
      simp [e2']
      refine key.mono ?_
      rintro _ _ ⟨x, z, rfl, x1, rfl⟩
      simp
      exact x1
  · simp [hc, e1]
    refine key.mono ?_
    rintro _ _ ⟨x, z, rfl, x1, rfl⟩
    simp
    exact x1
end Ro
end
section
set_option Elab.async false
set_option linter.all false
set_option maxRecDepth 100000
set_option maxHeartbeats 4000000
namespace Ro
open PySem PySem.Spec PyProof.Rows L2
variable {T : Tb} {E : XK} {X : Cx} {a b c e : Expr} {es : List Expr} {f g h : EX} {fa ga fk : AX} {fb gb : BX} {pos : Pos} {st : Stmt} {sts rest : List Stmt} {s t : ES}
theorem ie_fnF {k n kn pn : Nat} {d : He.DefD} {x : Str} {p : Pos} {kws : List Keyword} {ps ks : List Str} {m : Fn} {pk : List (Nat × Nat)} {dfs : List D} (F : OkF T X.prog X.w X.mg X.base k d ps m) (hK : X.K = T.K) (hr : RG k X.A) (hg : Gl X x) (hm : X.mg x = some (.ref (He.fAd T.K d.at_)))
    (hb : ∀ fd, FunD T.K d.name d.qual d.params d.body d.scope (d.dvs T.K) [] (He.fAd T.K d.at_) fd → KBD T fd ps n ks pk dfs) (tk : L2N.Takes X fun c d _ H => E c d H) (ha : AK T E X es kws pos ks fa fk) (hdb : (x == ("__debug__" : Str)) = false := by decide +kernel) (h2 : ks.length = kn := by rfl) (h3 : ps.length = pn := by rfl) :
    IE T E X (.Call (.Name x p) es kws pos) (eFn (callM m n kn pn pk dfs) fa fk) := by
  subst h2 h3
  exact ie_fn F hK hr hg hm hb tk ha hdb
theorem ie_newF {k n n' kn pn : Nat} {cn : String} {d : He.DefD} {p : Pos} {kws : List Keyword} {ps ks : List Str} {m : Fn} {pk : List (Nat × Nat)} {dfs : List D} (F : OkF T X.prog X.w X.mg X.base k d ps m) (M : Mk T.K (He.ga T.K (cn : Str)) (He.fAd T.K d.at_)) (hK : X.K = T.K) (hr : RG (k + 1) X.A) (hg : Gl X (cn : Str)) (hm : X.mg (cn : Str) = some (.ref (He.ga T.K (cn : Str))))
    (hb : ∀ fd, FunD T.K d.name d.qual d.params d.body d.scope (d.dvs T.K) [] (He.fAd T.K d.at_) fd → KBD T fd ps n' ks pk dfs) (tk : L2N.Takes X fun c d _ H => E c d H) (ha : AK T E X es kws pos ks fa fk) (h1 : n' = n + 1) (hdb : ((cn : Str) == ("__debug__" : Str)) = false := by decide +kernel) (h2 : ks.length = kn := by rfl) (h3 : ps.length = pn := by rfl) :
    IE T E X (.Call (.Name (cn : Str) p) es kws pos) (eFn (newM cn (callM m n' kn pn pk dfs)) fa fk) := by
  subst h1 h2 h3
  exact ie_new F M hK hr hg hm hb tk ha hdb
theorem ie_methF {cf : String → List String} {cn mn : String} {k n n' kn pn : Nat} {d : He.DefD} {apos : Pos} {pl : Sem Bool} {kws : List Keyword} {ps ks : List Str} {m : Fn} {pk : List (Nat × Nat)} {dfs : List D} (hcf : T.cf = cf) (F : OkF T X.prog X.w X.mg X.base k d ps m) (hK : X.K = T.K) (hr : RG k X.A)
    (hc : Cls T.K (He.ga T.K (cn : Str))) (hm : Meth T.K (He.ga T.K (cn : Str)) (mn : Str) (He.fAd T.K d.at_))
    (hb : ∀ fd, FunD T.K d.name d.qual d.params d.body d.scope (d.dvs T.K) [] (He.fAd T.K d.at_) fd → KBD T fd ps n' ks pk dfs) (tk : L2N.Takes X fun c d _ H => E c d H) (ho : IE T E X a f) (ha : AK T E X es kws pos ks fa fk) (h1 : n' = n + 1)
    (ht : eval (.Call (.Attribute a (mn : Str) apos) es kws pos) X.env = (do
      let ov ← eval a X.env
      standAt apos.atName
      let (f, first) ← holding [ov] (getMethod ov (mn : Str) pl)
      callWith pos f first (backTo pos (starEach es X.env)) (backToKw pos (keywordEach kws X.env))) := by rfl) (h2 : ks.length = kn := by rfl) (h3 : ps.length = pn := by rfl) :
    IE T E X (.Call (.Attribute a (mn : Str) apos) es kws pos) (eMeth cf cn mn (callM m n' kn pn pk dfs) f fa fk) := by
  subst h1 h2 h3
  exact ie_meth hcf F hK hr hc hm hb tk ho ha ht
end Ro
end
section
set_option Elab.async false
set_option linter.all false
set_option maxRecDepth 100000
set_option maxHeartbeats 4000000
namespace Ro
open PySem PySem.Spec PyProof.Rows L2
mutual
def noThk : D → Bool
  | .non => true
  | .bl _ => true
  | .int _ => true
  | .str _ => true
  | .tup l => noThks l
  | .lst l => noThks l
  | .dct l => noThkK l
  | .obj _ l => noThks l
  | .scr _ => true
  | .ref _ => true
  | .fn _ => true
  | .thk _ _ => false
def noThks : List D → Bool
  | [] => true
  | d :: l => noThk d && noThks l
def noThkK : List (D × D) → Bool
  | [] => true
  | (_, d) :: l => noThk d && noThkK l
end
def Tb.at (T : Tb) (x : Option XC) : Tb := { T with xc := x }
mutual
theorem Rep.at {T : Tb} {w : Wd} {x y : Option XC} : ∀ {d : D} {v : V}, Ro.noThk d = true → Rep (T.at x) w d v → Rep (T.at y) w d v
  | _, _, _, .non => .non
  | _, _, _, .bl b => .bl b
  | _, _, _, .int i => .int i
  | _, _, _, .str s => .str s
  | _, _, h, .tup q r => .tup q (Reps.at (by rw [Ro.noThk] at h; exact h) r)
  | _, _, _, .scr q => .scr q
  | _, _, h, .lst q r => .lst q (Reps.at (by rw [Ro.noThk] at h; exact h) r)
  | _, _, h, .dct q r => .dct q (RepK.at (by rw [Ro.noThk] at h; exact h) r)
  | _, _, h, .obj q n r => .obj q n (Reps.at (by rw [Ro.noThk] at h; exact h) r)
  | _, _, _, .ref q => .ref q
  | _, _, _, .fn z => .fn z
  | _, _, h, .xc0 _ _ => by rw [Ro.noThk] at h; cases h
  | _, _, h, .xc1 _ _ _ _ _ => by rw [Ro.noThk] at h; cases h
theorem Reps.at {T : Tb} {w : Wd} {x y : Option XC} : ∀ {l : List D} {vs : List V}, noThks l = true → Reps (T.at x) w l vs → Reps (T.at y) w l vs
  | _, _, _, .nil => .nil
  | _, _, h, .cons q r => by
    rw [noThks, Bool.and_eq_true] at h
    exact .cons (Rep.at h.1 q) (Reps.at h.2 r)
theorem RepK.at {T : Tb} {w : Wd} {x y : Option XC} : ∀ {l : List (D × D)} {vs : List (Key × V)}, noThkK l = true → RepK (T.at x) w l vs → RepK (T.at y) w l vs
  | _, _, _, .nil => .nil
  | _, _, h, .int q r => by
    rw [noThkK, Bool.and_eq_true] at h
    exact .int (Rep.at h.1 q) (RepK.at h.2 r)
  | _, _, h, .str q r => by
    rw [noThkK, Bool.and_eq_true] at h
    exact .str (Rep.at h.1 q) (RepK.at h.2 r)
end
def noThkC : Cell → Bool
  | .dead => true
  | .lst l => noThks l
  | .dct l => noThkK l
  | .ins _ fs => noThks (fs.map (·.2))
  | .dcT l => noThks (l.map (·.2))
theorem CellR.at {T : Tb} {w : Wd} {H : Hp} {a : Addr} {x y : Option XC} : ∀ {c : Cell}, noThkC c = true → CellR (T.at x) w H a c → CellR (T.at y) w H a c
  | .dead, _, _ => trivial
  | .lst _, h, ⟨vs, e, r⟩ => ⟨vs, e, r.at h⟩
  | .dct _, h, ⟨vs, e, r⟩ => ⟨vs, e, r.at h⟩
  | .ins _ _, h, ⟨dx, gs, e, n, r⟩ => ⟨dx, gs, e, n, r.at h⟩
  | .dcT _, h, ⟨vs, e, n, r⟩ => ⟨vs, e, n, r.at h⟩
/-- a store and hidden lists that hold no exception in hand -/
def Clean (S : Store) (hid : List (Addr × List D)) : Prop := (∀ c ∈ S, noThkC c = true) ∧ ∀ p ∈ hid, noThks p.2 = true
theorem WR.at {T : Tb} {w : Wd} {S : Store} {H : Hp} {x y : Option XC} (k : Clean S w.hid) (r : WR (T.at x) w S H) : WR (T.at y) w S H :=
  ⟨r.sub, r.len, r.nd, r.has, r.out, fun n c a h1 h2 => (r.cell n c a h1 h2).at (k.1 c (List.mem_of_getElem? h1)), r.tabs, r.hn, fun p hp => (r.hd p hp).imp id fun z => ⟨z.1, z.2.elim fun vs z => ⟨vs, z.1, z.2.at (k.2 p hp)⟩⟩, r.nt⟩
theorem ER.at {T : Tb} {w : Wd} {env : Env} {σ : St} {x y : Option XC} (k : ∀ d, some d ∈ env → Ro.noThk d = true) (r : ER (T.at x) w env σ) : ER (T.at y) w env σ := ⟨r.1, fun i d e => by
  obtain ⟨v, h1, h2⟩ := r.2 i d e
  exact ⟨v, h1, h2.at (k d (List.mem_of_getElem? e))⟩⟩
end Ro
end
section
set_option Elab.async false
set_option linter.all false
set_option maxRecDepth 100000
set_option maxHeartbeats 4000000
namespace Ro
open PySem PySem.Spec PyProof.Rows L2 L2H
variable {T : Tb} {E : XK} {X : Cx} {a b c e : Expr} {es : List Expr} {f g h : EX} {fa ga fk : AX} {pos : Pos}
structure RGH (k : Nat) (A : Around) : Prop where
  rm : RoomH k A
  gd : A.guards = some []
theorem RGH.mono {j k : Nat} {A : Around} (r : RGH k A) (h : j ≤ k) : RGH j A := ⟨r.rm.mono h, r.gd⟩
theorem RGH.deeper {k : Nat} {A : Around} (r : RGH (k + 1) A) (env : PySem.Env) : RGH k (A.deeper env) := ⟨r.rm.deeper env, r.gd⟩
/-- what is known of the exception in hand: its object -/
structure XHand (T : Tb) (z : XC) (p : Addr × Obj) : Prop where
  at_ : p.1 = z.a
  zc : Zc (.ref (He.ga T.K (z.c : Str))) z.dx p.2
  fl : ∃ vs, p.2.data = .fields vs
  cx : PXN.CtxN p.2
structure FnP (P : Program) (w : World) (T : Tb) (mg : Str → Option Value) (base : Heap) (k : Nat) (fp : Addr) (fd : FuncData) (ps : List Str) (cn : String) (m : Fn) : Prop where
  run : ∀ (A : Around) (below : List PySem.Env) (s : Shared) (H : Hp) (ar : Args) (Q : VK) (p : Addr × Obj) (z : XC) (fs : List D) (w0 : Wd) (S : Store), RGH k A → PinOk below H s p → XHand T z p → A.handled = some (.ref z.a) → z.c = cn → Env0 P w T.K mg base A below s H → BindsTo s fd ar (ps.zip [.ref p.1]) →
    WR (T.at (some z)) w0 S H → Rep (T.at (some z)) w0 (.thk 0 fs) (.ref z.a) → RP (m [.thk 0 fs] S) (Pk (T.at (some z)) w0 Q) (XW (T.at (some z)) w0 E00) → codeAny (model P w) A (.call (.ref fp) ar) (CR (L2N.CX P w) below P w H s Q E00) s
/-- the context of such a def's body -/
abbrev cxP (P : Program) (w : World) (K : PySem.W.Frag) (mg : Str → Option Value) (base : Heap) (N : List Str) (qual : Str) (scope : Scope) (f : Addr) (cd : Value) (A : Around) (outer : List PySem.Env) (s : Shared) (H : Hp) (p : Addr × Obj) : Cx :=
  cxH (L2N.CX P w) P w K mg base N qual scope f cd A outer s H E00 p
structure OkP (T : Tb) (P : Program) (w : World) (mg : Str → Option Value) (base : Heap) (k : Nat) (d : He.DefD) (ps : List Str) (cn : String) (m : Fn) : Prop where
  ex : ∃ fd, FunD T.K d.name d.qual d.params d.body d.scope (d.dvs T.K) [] (He.fAd T.K d.at_) fd ∧ FnP P w T mg base k (He.fAd T.K d.at_) fd ps cn m
theorem OkP.mk' {P : Program} {w : World} {mg : Str → Option Value} {base : Heap} {k : Nat} {d : He.DefD} {x : Str} {N : List Str} {body : ES} {fd : FuncData} {cn : String}
    (F : FunD T.K d.name d.qual d.params d.body d.scope (d.dvs T.K) [] (He.fAd T.K d.at_) fd) (Sc : FnScope N [x] d.scope)
    (h : ∀ (cdv : Value) (A : Around) (outer : List PySem.Env) (s : Shared) (H : Hp) (p : Addr × Obj) (z : XC), XHand T z p → (A.deeper (envOfC d.qual d.scope s.heap.objs.size (He.fAd T.K d.at_) cdv)).handled = some (.ref z.a) → z.c = cn → RGH k (A.deeper (envOfC d.qual d.scope s.heap.objs.size (He.fAd T.K d.at_) cdv)) →
      ISs (T.at (some z)) E00 (cxP P w T.K mg base N d.qual d.scope (He.fAd T.K d.at_) cdv A outer s H p) d.body body) : OkP T P w mg base (k + 1) d [x] cn (fnM N.length body) := by
  refine ⟨fd, F, ?_⟩
  obtain ⟨oc, od, dV, kV, doc, pm, an, cdv, ct, osl, rfl, lk, hcd, _, _⟩ := F.ex
  constructor
  intro A below s H ar Q p z fs w0 S hr hp hx hA hcn env0 hbd wr hz hm
  have inK : T.K.In s.heap := env0.mod.kin.keeps fun b o q => (env0.bs b o q).1
  have noLim : s.heap.NoLimit := env0.mod.nolimit.keeps fun b o q => (env0.bs b o q).1
  have kinds : ∀ z ∈ [x].zip [Value.ref p.1], d.scope.names.lookup z.1 = some .local ∨ (d.scope.names.lookup z.1 = some .cell ∧ ((cellsFrom (s.heap.objs.size + 1) d.scope.names []).lookup z.1).isSome = true) := by
    rintro ⟨n, v⟩ hz
    rcases Sc.par n (List.of_mem_zip hz).1 with k1 | k1
    · exact Or.inl k1
    · exact Or.inr ⟨k1, PySem.W.cellsFrom_some _ _ _ (Or.inl k1)⟩
  refine codeAny_call_function hr.rm.depth (inK _ _ lk) rfl Sc.co Sc.gen rfl (PySem.W.codeRec_of inK hcd) (hbd _ _ _ _ ?_)
  refine wpAny_newFunctionEnv_cells Sc.kind kinds fun en hen st hx2 => ?_
  subst hen
  have rv : Vals [V.ref p.1] [Value.ref p.1] := .cons rfl .nil
  have J0 : Inv (cxP P w T.K mg base N d.qual d.scope (He.fAd T.K d.at_) cdv A below s H p) [] (L2.start N [V.ref p.1]) H st := inv_startH Sc hp env0 rfl rv hx2
  have ends : tIs (T.at (some z)) E00 body { nx := fun _ H' => Q .non H', rt := Q } (L2.start N [V.ref p.1]) H := by
    have px : Reps (T.at (some z)) w0 [.thk 0 fs] [V.ref p.1] := by
      rw [hx.at_]
      exact .cons hz .nil
    refine ⟨w0, _, S, wr, er_start px, (RP.bnd hm).mono (fun c S1 h1 => ?_) fun _ _ _ z => z⟩
    cases c with
    | rt d => exact h1
    | nx e => exact fun w' H' σ' l r' q' => h1 w' H' .non l r' .non
    | bk e => exact (show False from h1).elim
    | ct e => exact (show False from h1).elim
  refine ⟨noLim.keeps hx2.toInCall.keep, codeAny_func (wpAny_mono ((h cdv A below s H p z hx hA hcn (hr.deeper _)).run [] st (L2.start N [V.ref p.1]) H _ J0 ends) (fun fl st' hs => ?_) fun e st' hs => hs)⟩
  cases fl with
  | ret u =>
    obtain ⟨v, _, H', J, r1, q⟩ := hs
    exact ⟨v, H', J.os, J.bare, J.base, J.hok, r1, q⟩
  | next =>
    obtain ⟨_, H', J, q⟩ := hs
    exact ⟨V.non, H', J.os, J.bare, J.base, J.hok, rfl, q⟩
  | brk => exact hs.elim fun _ z => z.elim fun _ z => z.2.elim
  | cont => exact hs.elim fun _ z => z.elim fun _ z => z.2.elim
end Ro
end
section
set_option Elab.async false
set_option linter.all false
set_option maxRecDepth 100000
set_option maxHeartbeats 4000000
namespace Ro
open PySem PySem.Spec PyProof.Rows L2 LamX
variable {T : Tb} {E : XK} {X : Cx}
theorem takes0N {X : Cx} : L2N.Takes X (fun _ _ _ _ => False) := fun _ _ ⟨_, _, _, _, _, _, _, _, _, _, _, _, _, _, _, _, w⟩ => w.elim
end Ro
end
section
set_option Elab.async false
set_option linter.all false
set_option maxRecDepth 100000
set_option maxHeartbeats 4000000
namespace Ro
open PySem PySem.Spec PyProof.Rows L2 LamX
variable {T : Tb} {E : XK} {X : Cx}
def eSaid (told : Str) (hp : String → List D → Option D) (m : EX) : EX := fun env S => match m env S with
  | .ok d S1 => .ok (.tup [.str told, d]) S1
  | .err c fs S1 => lift (hp c fs) S1
  | .bad => .bad
/-- the tables of the code objects of the defs tf -/
def TabsB (K : PySem.W.Frag) (mg : Str → Option Value) (base : Heap) (tf : List He.Defn) : Prop := ∀ p ∈ tf, TabB base mg (He.cT K p).1 (He.cT K p).2
theorem TabsB.at_ {K : PySem.W.Frag} {mg : Str → Option Value} {base : Heap} {tf : List He.Defn} (h : TabsB K mg base tf) (p : He.Defn) (hp : p ∈ tf := by decide +kernel) : TabB base mg (He.codeOf K p) (He.tabOf K (He.codeOf K p)) := h p hp
end Ro
end
section
set_option Elab.async false
set_option linter.all false
set_option maxRecDepth 100000
set_option maxHeartbeats 4000000
namespace Ro
open PySem PySem.Spec PyProof.Rows L2 LamX
variable {T : Tb} {E : XK} {X : Cx}
theorem is_raise0 {c : String} {m : Str} {j : Nat} {p p2 p3 pos : Pos} (hK : X.K = T.K) (hc : X.calm = true) (tk : L2N.Takes X fun c d _ H => E c d H) (hf : (He.Fa.exc (c : Str)).ok T.K = true) (hg : Gl X (c : Str)) (hm : X.mg (c : Str) = some (.ref (He.ga T.K (c : Str)))) (hdb : ((c : Str) == ("__debug__" : Str)) = false := by decide +kernel) :
    IS T E X (.Raise (some (.Call (.Name (c : Str) p) [.Constant (.str m) j p2] [] p3)) none pos) (sRaise c aNil) := by
  obtain ⟨e1, e2, e3, e4⟩ := He.exc_ok hf
  rw [← hK] at e1 e2 e3 e4
  refine PS.mono (L2N.ps_raise hc tk (L2N.pmk_own PySem.F.excBase_ValueError e1 (by rw [hK]; exact hm) e2 (raises_own e3 e4) hg hdb)) fun D σ H ⟨w, env, S, r, e, q⟩ => ?_
  have q : XW T w E c [] S := q
  rw [hK]
  exact q w H _ none (Wd.le.refl _) r ⟨rfl, .inl ⟨rfl, rfl⟩⟩
end Ro
end
section
set_option Elab.async false
set_option linter.all false
set_option maxRecDepth 100000
set_option maxHeartbeats 4000000
namespace Ro
open PySem PySem.Spec PyProof.Rows L2 LamX
/-- the tables' rows that T tells -/
def tabsOf (K : PySem.W.Frag) (tf : List (He.Defn × String)) : List (Addr × Str) := tf.map fun p => ((He.cT K p.1).2, (p.2 : Str) ++ ("<lambda>" : Str))
/-- what is known of the tables at the heap h -/
structure TabF (K : PySem.W.Frag) (tf : List (He.Defn × String)) (h : Heap) : Prop where
  hd : ∀ p ∈ tf, PySem.W.codeHdIn K (He.cT K p.1).1 (He.cT K p.1).2 = true
  out : ∀ p ∈ tf, K.lookup (He.cT K p.1).2 = none
  emp : ∀ p ∈ tf, h.get? (He.cT K p.1).2 = some { cls := .none, data := .fields #[] }
/-- the law's promise at the heap behind the top, tables told -/
theorem lawGT {P : Program} {w : World} {T : Tb} {mg mb : Str → Option Value} {k : Nat} {fa a : Addr} {fd : FuncData} {x : Str} {m : Fn} {st : Shared} {vs : List Value} {ns : List Int} {tf : List (He.Defn × String)} (hT : T.tabs = tabsOf T.K tf)
    (inK : T.K.In st.heap) (hns : st.heap.Ns mainGlobals mg) (hbt : st.heap.Ns builtinsNs mb) (boot : ∀ x : Str, x ≠ "__name__" → mb x = bootBuiltins x) (lim : st.heap.NoLimit) (gens : st.gens = #[]) (tF : TabF T.K tf st.heap)
    (hbm : ∃ (bm : Addr) (ob : Obj), mg "__builtins__" = some (.ref bm) ∧ bm ≠ builtinsNs ∧ st.heap.get? bm = some ob ∧ ob.cls = .type "module" ∧ ob.dict = some builtinsNs ∧ ob.data = .plain)
    (ha : st.heap.get? a = some { cls := .type "list", data := .seq vs.toArray }) (hi : IntsAre vs ns) (hl : ns.length ≤ sizeLine) (hr : RG k callerA)
    (F : ∀ base : Heap, T.K.In base → base.Ns mainGlobals mg → TabsB T.K mg base (tf.map (·.1)) → FnG P w T.K mg base k fa fd [x] (spI T 1 m)) (bind : ∀ (s : Shared) (u : Value), BindsTo s fd ⟨[u], []⟩ [(x, u)])
    (hm : ∃ S, m [.scr ns] [] = .ok (.bl true) S) :
    codeAny (model P w) callerA (.call (.ref fa) ⟨[.ref a], []⟩) (fun r s' => r = .ok (.ret (.bool true)) ∧ OldK st.heap s'.heap ∧ s'.os = st.os ∧ AllBare s'.gens) st := by
  have rv := vals_ints hi
  have lv := hi.length
  let tl : List Addr := tf.map fun p => (He.cT T.K p.1).2
  have tMem : ∀ {b : Addr}, b ∈ tl → ∃ p ∈ tf, (He.cT T.K p.1).2 = b := fun {b} hb => by
    obtain ⟨p, hp, e⟩ := List.mem_map.mp hb
    exact ⟨p, hp, e⟩
  have tAt : ∀ {b : Addr}, b ∈ tl → st.heap.get? b = some { cls := .none, data := .fields #[] } := fun {b} hb => by
    obtain ⟨p, hp, rfl⟩ := tMem hb
    exact tF.emp p hp
  have aNot : a ∉ tl := fun z => by
    have q := tAt z
    rw [ha] at q
    exact nomatch (congrArg Obj.data (Option.some.inj q) : Data.seq vs.toArray _ = Data.fields #[])
  have from_ : ∀ Hs : Hp, Only Hs → SqL T.K Hs a (ns.map V.int) → HOk P w Hs st.heap → (∀ b, Hs b ≠ none → b = a) → (Hs a ≠ none → T.K.lookup a = none) →
      codeAny (model P w) callerA (.call (.ref fa) ⟨[.ref a], []⟩) (fun r s' => r = .ok (.ret (.bool true)) ∧ OldK st.heap s'.heap ∧ s'.os = st.os ∧ AllBare s'.gens) st := by
    intro Hs only sq okS sole away
    have hno : ∀ {b : Addr}, b ≠ a → Hs b = none := fun {b} hb => by
      cases z : Hs b with
      | none => rfl
      | some u => exact absurd (sole b (by rw [z]; simp)) hb
    obtain ⟨H, hH⟩ : ∃ H : Hp, H = fun b => if b ∈ tl then some (.tbl #[]) else Hs b := ⟨_, rfl⟩
    have inT : ∀ {b : Addr}, b ∈ tl → H b = some (.tbl #[]) := fun {b} hb => by rw [hH]; exact if_pos hb
    have offT : ∀ {b : Addr}, b ∉ tl → H b = Hs b := fun {b} hb => by rw [hH]; exact if_neg hb
    have up : ∀ {b : Addr} {u : HO}, Hs b = some u → H b = some u := fun {b u} e => by
      rw [offT fun z => ?_]
      · exact e
      · have : b = a := sole b (by rw [e]; simp)
        exact aNot (this ▸ z)
    have ok : HOk P w H st.heap := fun b u e => by
      by_cases hb : b ∈ tl
      · rw [inT hb] at e
        cases e
        exact tAt hb
      · rw [offT hb] at e
        exact (okS b u e).stay (fun _ _ _ q => q) (fun _ q => up q) fun _ _ q => up q
    have untr : ∀ {b : Addr}, b ≠ a → b ∉ tl → H b = none := fun {b} h1 h2 => by rw [offT h2]; exact hno h1
    have free_ : ∀ {b : Addr} {o : Obj}, st.heap.get? b = some o → (∀ vs n, o.data ≠ .seq vs n) → o.data ≠ .fields #[] → H b = none := fun {b o} e h1 h2 => by
      refine untr (fun z => ?_) fun z => ?_
      · rw [z, ha] at e
        cases e
        exact h1 _ _ rfl
      · rw [tAt z] at e
        cases e
        exact h2 rfl
    have nsB : ∀ {b : Addr} {f : Str → Option Value}, st.heap.Ns b f → (hidT st.heap H).Ns b f := fun {b f} ⟨o, es, ep, e, d, r⟩ => ⟨o, es, ep, hidT_get e (free_ e (fun vs n z => by rw [d] at z; cases z) fun z => by rw [d] at z; cases z), d, r⟩
    have inB : T.K.In (hidT st.heap H) := fun b o e => hidT_get (inK b o e) (by
      by_cases ht : b ∈ tl
      · obtain ⟨p, hp, rfl⟩ := tMem ht
        rw [tF.out p hp] at e
        cases e
      · rw [offT ht]
        by_cases hb : b = a
        · subst hb
          cases z : Hs b with
          | none => rfl
          | some u => rw [away (by rw [z]; simp)] at e; cases e
        · exact hno hb)
    have md : Mod T.K mg (hidT st.heap H) := ⟨inB, nsB hns, ⟨mb, nsB hbt, boot⟩, let ⟨mc, h1, h2⟩ := lim; ⟨mc, nsB h1, h2⟩⟩
    have TBs : TabsB T.K mg (hidT st.heap H) (tf.map (·.1)) := fun q hq => by
      obtain ⟨p, hp, rfl⟩ := List.mem_map.mp hq
      have hat := tF.emp p hp
      have g1 : mainGlobals ≠ (He.cT T.K p.1).2 := fun z => by
        obtain ⟨o, es, ep, e, d, _⟩ := hns
        rw [z, hat] at e
        cases e
        cases d
      refine NdefX.tabB_of_K inB (tF.hd p hp) ?_ g1
      obtain ⟨bm, ob, b1, b2, b3, b4, b5, b6⟩ := hbm
      refine ⟨bm, ob, b1, b2, fun z => ?_, fun z => ?_, hidT_get b3 (free_ b3 (fun vs n z => by rw [b6] at z; cases z) fun z => by rw [b6] at z; cases z), b4, b5, b6⟩
      · obtain ⟨o, es, ep, e, d, _⟩ := hns
        rw [z, e] at b3
        cases b3
        rw [d] at b6
        cases b6
      · rw [z, hat] at b3
        cases b3
        cases b6
    have env0 : Env0 P w T.K mg (hidT st.heap H) callerA [] st H := ⟨rfl, md, fun b o e => of_hidT e, Nat.le_of_eq (hidT_size _ _), trivial, fun b hb => (by cases hb), ok, .of_eq gens⟩
    obtain ⟨S, hS⟩ := hm
    have wr : WR T ⟨Hs, [], []⟩ [] H := by
      refine ⟨fun _ _ h => up h, rfl, List.nodup_nil, ?_, ?_, ?_, ?_, List.nodup_nil, ?_, fun b ps e => ?_⟩
      · intro b hb; cases hb
      · intro n c b h; simp at h
      · intro n c b h; simp at h
      · rw [hT]
        intro p hp
        obtain ⟨q, hq, rfl⟩ := List.mem_map.mp hp
        exact TabS.nil (inT (List.mem_map.mpr ⟨q, hq, rfl⟩))
      · intro p hp; cases hp
      · rcases only b with z | ⟨_, _, z⟩
        · rw [show Hs b = _ from e] at z; cases z
        · rw [show Hs b = _ from e] at z; cases z
    have sp : spI T 1 m [.ref a] H (fun v _ => v = .bl true) (fun _ _ _ => False) := ⟨rfl, ⟨Hs, [], []⟩, [.scr ns], [], wr, .cons (.scr sq) .nil, by
      rw [hS]
      intro w' H' v _ _ p
      cases p
      rfl⟩
    refine codeAny_mono ((F _ inB (nsB hns) TBs).run callerA [] st H ⟨[.ref a], []⟩ [.ref a] [.ref a] _ _ hr env0 (bind st (.ref a)) (.cons rfl .nil) sp) fun r s' h => ?_
    match r, h with
    | .error e, h =>
      obtain ⟨_, _, _, _, _, _, _, _, _, _, _, _, z⟩ := h
      exact z.elim
    | .ok (.ret u), h =>
      obtain ⟨v, H', os, bare, un, ok', r', q⟩ := h
      have q : v = .bl true := q
      subst q
      obtain rfl : u = Value.bool true := r'
      have key : ∀ b o, b ∉ tl → st.heap.get? b = some o → s'.heap.get? b = some o := fun b o nb e => by
        rcases only b with z | ⟨ob, xs, z⟩
        · exact un.keep b o e (by rw [offT nb]; exact z) (by intro y; cases y) (by simp)
        · have z2 := un.frzs b ob _ (up z)
          obtain ⟨e1, _⟩ := okS b _ z
          obtain ⟨e2, _⟩ := ok' b _ z2
          rw [e] at e1
          cases e1
          exact e2
      have grown : ∀ b, b ∈ tl → ∃ more : Array Value, s'.heap.get? b = some { cls := .none, data := .fields more } := fun b hb => by
        obtain ⟨more, z⟩ := un.tbls b #[] (inT hb)
        exact ⟨_, ok' b _ z⟩
      refine ⟨rfl, ⟨fun b o e => ?_, fun b o e => ?_⟩, os, bare⟩
      · by_cases hb : b ∈ tl
        · obtain ⟨more, hmo⟩ := grown b hb
          obtain ⟨p, hp, rfl⟩ := tMem hb
          rw [tF.emp p hp] at e
          cases e
          exact .inr (.inl ⟨((PySem.W.codeHd_of_K inK (tF.hd p hp)).tab (tF.emp p hp)).isCodeTable, rfl, #[], more, rfl, by rw [Array.empty_append]; exact hmo⟩)
        · exact .inl (key b o hb e)
      · by_cases hb : b ∈ tl
        · obtain ⟨more, hmo⟩ := grown b hb
          exact ⟨_, hmo⟩
        · exact ⟨o, key b o hb e⟩
  cases hk : T.K.lookup a with
  | some o =>
    have e := inK a o hk
    rw [ha] at e
    cases e
    exact from_ (fun _ => none) (fun _ => .inl rfl) (.inr ⟨_, vs.toArray, _, hk, rfl, rfl, rfl, by rw [List.size_toArray, lv]; exact hl, by simpa using rv⟩) (fun b u z => (by cases z)) (fun b z => absurd rfl z) fun z => absurd rfl z
  | none =>
    have hyes : ∀ {u : HO}, (fun b => if b = a then some u else none) a = some u := fun {u} => if_pos rfl
    have hno : ∀ {u : HO} {b : Addr}, b ≠ a → (fun b => if b = a then some u else none) b = none := fun {u b} hb => if_neg hb
    refine from_ (fun b => if b = a then some (.frz { cls := .type "list", data := .seq vs.toArray } (.lst (ns.map V.int))) else none) (fun b => ?_) (.inl (.inr ⟨_, hyes⟩)) (fun b u z => ?_) (fun b z => ?_) fun _ => hk
    · by_cases hb : b = a
      · subst hb; exact .inr ⟨_, _, hyes⟩
      · exact .inl (hno hb)
    · by_cases hb : b = a
      · subst hb
        have z := hyes.symm.trans z
        cases z
        exact ⟨ha, by rw [List.length_map]; exact hl, vs, _, rv, ha⟩
      · have z := (hno hb).symm.trans z
        cases z
    · by_cases hb : b = a
      · exact hb
      · exact absurd (hno hb) z
theorem walkGT {l : PySem.W.OpenLaw} {n k : Nat} {q : Program} {loose : List Str} {XP : (Str → Option Value) → Heap → Prop} {YP : World → Heap → Prop} {d : DefRec} {x : Str} {m : Fn} (hn : l.most = some n) (hn2 : n ≤ sizeLine) (hdf : d.params.defaults = []) (hk : k ≤ 200)
    (F : ∀ (w : World) (mg : Str → Option Value) (fa : Addr) (h : Heap), YP w h → h.Ns mainGlobals mg → mg d.name = some (.ref fa) →
      ∃ (T : Tb) (fd : FuncData) (tf : List (He.Defn × String)), T.tabs = tabsOf T.K tf ∧ T.K.In h ∧ TabF T.K tf h ∧ (∀ (s : Shared) (u : Value), BindsTo s fd ⟨[u], []⟩ [(x, u)]) ∧
        ∀ base : Heap, T.K.In base → base.Ns mainGlobals mg → TabsB T.K mg base (tf.map (·.1)) → FnG l.prog w T.K mg base k fa fd [x] (spI T 1 m))
    (hm : ∀ ns : List Int, ns.length ≤ n → (∀ z ∈ ns, bits20 z) → ∃ S, m [.scr ns] [] = .ok (.bl true) S) :
    PySem.W.WalkO q loose XP YP l.row.toRowW d [] (fun f vs => PySem.call f vs) := by
  refine Att.attach_callB hn hdf fun w s₀ st mg mb fa o pm cd doc a vs ns G Y ho hd hcd hmg hobj hints hlen hbits hg => ?_
  obtain ⟨T, fd, tf, hT, inK, tF, hb, hF⟩ := F w mg fa _ Y G.T.g hmg
  exact lawGT hT inK G.T.g G.T.b G.T.builtins G.T.nolimit hg tF G.T.bmain hobj hints (Nat.le_trans hlen hn2) (callerG.mono hk) hF hb (hm ns hlen hbits)
theorem says_fx {T : Tb} {L : Lw} {ts : List He.Tab} {w : World} {h : Heap} {mg : Str → Option Value} (X : T.K.In h) (G : h.Ns mainGlobals mg) (c : He.SaysX [] L.defs ts (L.tf.map (·.1)) L.ok w h T.K) : Fx T mg L ∧ TabF T.K L.tf h := by
  have e : He.obsD [] L.defs T.K = He.valD L.defs := c.t.d
  have e2 : (L.defs.map fun d => He.fnW T.K d.at_) = L.defs.map He.DefD.val := congrArg (fun z : He.AlD => z.2) e
  refine ⟨fx_of X G (show (L.ok T.K, L.defs.map fun d => He.fnW T.K d.at_) = _ by rw [c.more, e2]), ⟨fun p hp => c.hd p.1 (List.mem_map_of_mem hp), fun p hp => c.out p.1 (List.mem_map_of_mem hp), fun p hp => c.empty p.1 (List.mem_map_of_mem hp)⟩⟩
end Ro
end
section
set_option Elab.async false
set_option linter.all false
set_option maxRecDepth 100000
set_option maxHeartbeats 4000000
namespace Ro
open PySem PySem.Spec PyProof.Rows L2 LamX
variable {T : Tb} {E : XK} {X : Cx}
theorem hu65 {k : Nat} {A : Around} (r : RG k A) : A.units + 65 < cLine := by have := r.rm.un; omega
end Ro
end
section
set_option Elab.async false
set_option linter.all false
set_option maxRecDepth 100000
set_option maxHeartbeats 4000000
namespace PySem
namespace RoXb
open Builtin HandSPX
structure NF (bt : List Value) (B newId : String) : Prop where
  owner : newId.dropRight 8 = B
  ends : newId.endsWith ".__new__" = true
  entry : entryFor table newId = some Builtin.«BaseException.__new__»
  quiet : newId.startsWith "lifetime." = false
  noStar : (B != "*") = true
  newSplit : splitId newId = some (B, "__new__")
  newKind : builtinKind newId = some .builtinFn
  newRow : Manifest.signature? newId = some ⟨.any, B, B, .cls, [⟨"args", .varPos, false⟩, ⟨"kwargs", .varKw, false⟩]⟩
  hasB : bt.contains (.type B) = true
  hasBase : bt.contains (.type "BaseException") = true
  noAttr : bt.contains (.type "AttributeError") = false
  noName : bt.contains (.type "NameError") = false
  canon : Manifest.canonical newId = Manifest.canonical "BaseException.__new__"
structure IF (bt : List Value) (B initId : String) : Prop where
  plain : plainId initId = true
  initEntry : entryFor table initId = some Builtin.«BaseException.__init__»
  initKind : builtinKind initId = some .slot
  initSplit : splitId initId = some (B, "__init__")
  initRow : Manifest.signature? initId = some ⟨.positional, "*", B, .self, [⟨"args", .varPos, false⟩]⟩
  hasB : bt.contains (.type B) = true
  noStar : (B != "*") = true
theorem NF.of {bt : List Value} {B newId initId : String} (F : ExcBaseFacts B newId initId bt) : NF bt B newId :=
  ⟨F.owner, F.ends, F.entry, F.quiet, F.noStar, F.newSplit, F.newKind, F.newRow, F.hasB, F.hasBase, F.noAttr, F.noName, F.canon⟩
theorem IF.of {bt : List Value} {B newId initId : String} (F : ExcBaseFacts B newId initId bt) : IF bt B initId := ⟨F.init.plain, F.initEntry, F.initKind, F.initSplit, F.initRow, F.hasB, F.noStar⟩
section
variable {M : Model} {A : Around} {E : Value → Shared → Prop} {h : Heap} {g : Array GenState} {d : Drawn} {t : Nat} {os : OsState}
variable {nm q : Str} {C N : Addr} {bs bm bmB : List Value} {hdct : Bool} {sn : List Str} {sub : List Value} {ab : Bool} {col : Option Bool} {dd : Option Addr} {k0 k1 k2 k3 k5 : Option Value} {B newId initId : String}
theorem nf_check (F : NF bmB B newId) (hT : ∀ X : String, bm.contains (.type X) = bmB.contains (.type X)) {rest : List Value} {Q : Unit → Shared → Prop}
    (hC : h.get? C = some (excClassObj nm q C N bs bm hdct sn sub ab col dd k0 k1 k2 k3 k5 newId)) (hq : Q () ⟨h, g, d, t, os⟩) : wpAny M A (checkBuiltinCall newId ⟨.ref C :: rest, []⟩) Q E ⟨h, g, d, t, os⟩ := by
  have hcont : (Value.ref C :: bm).contains (.type B) = true := by rw [List.contains_cons, hT, F.hasB, Bool.or_true]
  have hstar := F.noStar
  simp only [checkBuiltinCall, F.newKind, F.newSplit, F.newRow]
  repeat (first | refine wpAny_loadPart_at hC ?_ | (refine wpAny_isSubtype_exc hC ?_; rw [hcont]) | refine wpAny_staticBase_exc hC ?_ | refine wpAny_madeBy_exc hC ?_ | simp only [bne_self_eq_false, Bool.false_eq_true, if_false] | wp_step)
  exact hq
theorem if_check (F : IF bmB B initId) (hT : ∀ X : String, bm.contains (.type X) = bmB.contains (.type X)) {e : Addr} {oe : Obj} {rest : List Value} {Q : Unit → Shared → Prop}
    (hC : h.get? C = some (excClassObj nm q C N bs bm hdct sn sub ab col dd k0 k1 k2 k3 k5 newId)) (he : h.get? e = some oe) (hcls : oe.cls = .ref C) (hq : Q () ⟨h, g, d, t, os⟩) :
    wpAny M A (checkBuiltinCall initId ⟨.ref e :: rest, []⟩) Q E ⟨h, g, d, t, os⟩ := by
  have hcB : (Value.ref C :: bm).contains (.type B) = true := by rw [List.contains_cons, hT, F.hasB, Bool.or_true]
  have hshort := F.noStar
  simp only [checkBuiltinCall, F.initKind, F.initSplit, F.initRow]
  repeat (first | (with_reducible refine wpAny_loadPart_at he ?_; rw [hcls]) | with_reducible refine wpAny_loadPart_at hC ?_ | (with_reducible refine wpAny_isSubtype_exc hC ?_; rw [hcB]) | wp_step)
  refine wpAny_onRaise ?_
  rw [show ∀ (a b : String) (n : Nat), Bind.check ⟨.positional, "*", B, .self, [⟨"args", .varPos, false⟩]⟩ a b n (List.map (fun x => x.fst) ({ pos := Value.ref e :: rest } : Args).kw) = pure () from
    fun a b n => check_star_args _ _ _ _ _ _]
  exact wpAny_pure hq
end
section
variable {prog : Program} {w : World} {A : Around} {E : Value → Shared → Prop} {R : Result → Shared → Prop} {h : Heap} {g : Array GenState} {d : Drawn} {t : Nat} {os : OsState}
variable {nm q : Str} {C N : Addr} {bs bm bmB : List Value} {hdct : Bool} {sn : List Str} {sub : List Value} {ab : Bool} {col : Option Bool} {dd : Option Addr} {k0 k1 k2 k3 k5 : Option Value} {B newId initId : String}
theorem nf_new (F : NF bmB B newId) (hT : ∀ X : String, bm.contains (.type X) = bmB.contains (.type X)) {rest : List Value}
    (hC : h.get? C = some (excClassObj nm q C N bs bm hdct sn sub ab col dd k0 k1 k2 k3 k5 newId))
    (hq : R (.ok (.ret (.ref (h.objs.size + 1)))) ⟨(h.push { cls := .type "tuple", data := .seq rest.toArray }).push
      { cls := .ref C, data := .fields #[.ref h.objs.size, .none, .none, .none, .bool false, .none] }, g, d, t, os⟩) (hrest : rest.length ≤ sizeLine) :
    codeAny (model prog w) A (.builtin newId ⟨.ref C :: rest, []⟩) R ⟨h, g, d, t, os⟩ := by
  have hends := F.ends
  have hcB : (Value.ref C :: bm).contains (.type B) = true := by rw [List.contains_cons, hT, F.hasB, Bool.or_true]
  have hcA : (Value.ref C :: bm).contains (.type "AttributeError") = false := by rw [List.contains_cons, hT, F.noAttr]; rfl
  have hcN : (Value.ref C :: bm).contains (.type "NameError") = false := by rw [List.contains_cons, hT, F.noName]; rfl
  refine codeAny_builtinAt F.entry ?_
  unfold Builtin.«BaseException.__new__»
  refine wpAt_bind ?_
  show wpAt _ _ _ (stack >>= _) _ _ _
  refine wpAt_bind (wpAt_stack fun p below => wpAt_of_wpAny ?_)
  wp_walk
  refine wpAt_of_wpAny ?_
  rw [F.owner]
  repeat (first | with_reducible refine wpAny_madeHere_exc F.canon hC ?_ | with_reducible refine wpAny_loadPart_at hC ?_ | (with_reducible refine wpAny_isSubtype_exc hC ?_; first | rw [hcB] | rw [hcA] | rw [hcN]) | wp_step)
  show R _ _
  rw [Heap.size_push]
  exact hq
theorem nf_type_call (F : NF bmB B newId) (hT : ∀ X : String, bm.contains (.type X) = bmB.contains (.type X)) {rest : List Value} {fI : Addr} {Q : Fin → Shared → Prop}
    (hC : h.get? C = some (excClassObj nm q C N bs bm hdct sn sub ab col dd k0 k1 k2 k3 k5 newId))
    (hi : W.Looks (model prog w) h (typeLookup (.ref C) "__init__") (some (.ref fI))) (hb : ∀ self, W.Looks (model prog w) h (bindSpecial (.ref fI) self) (.ref fI, [self])) (hrest : rest.length ≤ sizeLine)
    (hq : codeAny (model prog w) A (.call (.ref fI) ⟨.ref (h.objs.size + 1) :: rest, []⟩)
      (fun r s' => match r with | .ok (.ret v) => v = .none ∧ Q (.done (.ret (.ref (h.objs.size + 1)))) s' | .ok _ => False | .error e => E e s')
      ⟨(h.push (W.kdv_tup rest)).push (excO C h.objs.size), g, d, t, os⟩) :
    wpAny (model prog w) A (Builtin.«type.__call__» ⟨.ref C :: rest, []⟩) Q E ⟨h, g, d, t, os⟩ := by
  repeat (first | with_reducible refine wpAny_loadPart_at hC ?_ | with_reducible refine wpAny_madeBy_exc hC ?_ | wp_step)
  refine codeAny_call_builtin_code (Code.quiet_builtin _ F.quiet) (nf_check F hT hC ?_)
  refine nf_new F hT hC ?_ hrest
  show wpAny _ _ _ _ _ _
  have k : ∀ b o, h.get? b = some o → ((h.push (W.kdv_tup rest)).push (excO C h.objs.size)).get? b = some o := fun b o e => Heap.get?_push_of_some _ (Heap.get?_push_of_some _ e)
  have hC₁ := k _ _ hC
  have hget : ((h.push (W.kdv_tup rest)).push (excO C h.objs.size)).get? (h.objs.size + 1) = some (excO C h.objs.size) := by heap_get
  have hcC : (Value.ref C :: bm).contains (.ref C) = true := by simp
  have i1 := hi.keeps k
  have b1 := (hb (.ref (h.objs.size + 1))).keeps k
  unfold isInstance
  repeat (first | with_reducible refine wpAny_loadPart_at hget ?_ | (with_reducible refine wpAny_isSubtype_exc hC₁ ?_; rw [hcC]) | wp_step)
  show wpAny _ _ (typeLookup (.ref C) _) _ _ _
  refine i1.at ?_
  refine wpAny_holding (wpAny_bind (b1.at ?_))
  refine wpAny_bind (wpAny_call (codeAny_mono hq fun r s' z => ?_))
  rcases r with e | (v | _ | _ | _) <;> first | exact z | exact z.elim | skip
  obtain ⟨rfl, z⟩ := z
  first
    | exact wpAny_pure (wpAny_pure z)
    | (wp_walk; exact z)
theorem nf_call (F : NF bmB B newId) (hT : ∀ X : String, bm.contains (.type X) = bmB.contains (.type X)) {rest : List Value} {fI : Addr}
    (hC : h.get? C = some (excClassObj nm q C N bs bm hdct sn sub ab col dd k0 k1 k2 k3 k5 newId))
    (hi : W.Looks (model prog w) h (typeLookup (.ref C) "__init__") (some (.ref fI))) (hb : ∀ self, W.Looks (model prog w) h (bindSpecial (.ref fI) self) (.ref fI, [self])) (hrest : rest.length ≤ sizeLine)
    (hq : codeAny (model prog w) (A.under (.builtin "type.__call__" ⟨.ref C :: rest, []⟩)) (.call (.ref fI) ⟨.ref (h.objs.size + 1) :: rest, []⟩) (W.InitBack (h.objs.size + 1) R)
      ⟨(h.push (W.kdv_tup rest)).push (excO C h.objs.size), g, d, t, os⟩) :
    codeAny (model prog w) A (.call (.ref C) ⟨rest, []⟩) R ⟨h, g, d, t, os⟩ := by
  have f1 := tc_lookup
  have f2 := tc_bind (.ref C)
  have hTy : (⟨h, g, d, t, os⟩ : Shared).TypeIs (.ref C) "type" := ⟨_, hC, rfl⟩
  refine codeAny_of_tree ?_
  show wpAny _ _ (callAny (.ref C) _) _ _ _
  repeat (any_goals (first | assumption | with_reducible refine wpAny_loadPart_at hC ?_ | wp_step))
  refine ⟨rfl, ?_⟩
  refine codeAny_call_builtin_at (Code.quiet_builtin _ (by decide +kernel)) entry_typeCall (wpAny_check_type_call_sub hC (nf_type_call F hT hC hi hb hrest ?_))
  refine codeAny_mono hq fun r s' z => ?_
  rcases r with e | (v | _ | _ | _) <;> exact z
theorem if_init (F : IF bmB B initId) (hT : ∀ X : String, bm.contains (.type X) = bmB.contains (.type X)) {e t0 : Addr} {rest : List Value}
    (hC : h.get? C = some (excClassObj nm q C N bs bm hdct sn sub ab col dd k0 k1 k2 k3 k5 newId)) (he : h.get? e = some (excO C t0)) (hrest : rest.length ≤ sizeLine)
    (hq : ∀ h' t1, (∀ b o, b ≠ e → h.get? b = some o → h'.get? b = some o) → h'.get? e = some (excO C t1) → R (.ok (.ret .none)) ⟨h', g, d, t, os⟩) :
    codeAny (model prog w) A (.call (.builtin initId) ⟨.ref e :: rest, []⟩) R ⟨h, g, d, t, os⟩ := by
  refine codeAny_call_builtin F.plain F.initEntry (if_check F hT hC he rfl ?_)
  wp_walk
  refine hq _ h.objs.size (fun b o hb ho => ?_) ?_
  · rw [Heap.get?_update_other _ _ (Ne.symm hb)]
    exact Heap.get?_push_of_some _ ho
  · rw [Heap.get?_update_self _ (Heap.get?_push_of_some _ he) rfl]
    rfl
end
end RoXb
end PySem
end
section
set_option Elab.async false
set_option linter.all false
set_option maxRecDepth 100000
set_option maxHeartbeats 4000000
namespace PySem
namespace RoXb
open Builtin Builtin.ObjectAttr
/-- own classes, then the built-in class and what is above it -/
def Tail (bt l : List Value) : Prop := ∃ cs : List Addr, l = cs.map Value.ref ++ bt
def tailB (bt : List Value) : List Value → Bool
  | .ref _ :: r => tailB bt r
  | l => l == bt
theorem tail_of {bt l : List Value} (h : tailB bt l = true) : Tail bt l := by
  fun_induction tailB bt l with
  | case1 a r ih =>
    obtain ⟨cs, rfl⟩ := ih h
    exact ⟨a :: cs, rfl⟩
  | case2 l _ => exact ⟨[], beq_iff_eq.mp h⟩
structure XB (bt : List Value) (B newId initId : String) : Prop where
  N : ∃ B0, NF bt B0 newId
  I : IF bt B initId
  pass : ∀ self : Value, refuseLoop self "__setattr__" bt = pure ()
  obj : bt.contains (.type "object") = true
  ne : bt.isEmpty = false
  hand : W.handedIn (.builtin initId) = true
section
variable {bt l : List Value} {B newId initId : String}
theorem Tail.pass (X : XB bt B newId initId) (self : Value) (h : Tail bt l) : refuseLoop self "__setattr__" l = pure () := by
  obtain ⟨cs, rfl⟩ := h
  induction cs with
  | nil => exact X.pass self
  | cons c cs ih =>
    show refuseLoop self "__setattr__" (Value.ref c :: (cs.map Value.ref ++ bt)) = _
    rw [refuseLoop_ref]
    exact ih
theorem Tail.has (h : Tail bt l) (X : String) : l.contains (.type X) = bt.contains (.type X) := by
  obtain ⟨cs, rfl⟩ := h
  induction cs with
  | nil => rfl
  | cons c cs ih =>
    show (Value.ref c :: (cs.map Value.ref ++ bt)).contains (.type X) = _
    rw [List.contains_cons, ih]
    rfl
theorem Tail.cons (h : Tail bt l) (C : Addr) : Tail bt (.ref C :: l) := by
  obtain ⟨cs, rfl⟩ := h
  exact ⟨C :: cs, rfl⟩
theorem Tail.ne (X : XB bt B newId initId) (h : Tail bt l) : l.isEmpty = false := by
  obtain ⟨cs, rfl⟩ := h
  cases cs with
  | nil => exact X.ne
  | cons => rfl
end
section
variable {prog : Program} {w : World} {A : Around} {R : Result → Shared → Prop} {hp : Heap} {g : Array GenState} {d : Drawn} {t : Nat} {os : OsState}
variable {K : W.Frag} {name : Str} {tk : Tok} {v : Value} {x C dx : Addr} {fv : Array Value} {cd : ClassData} {bt : List Value} {B newId initId : String}
/-- self.name = v up to the own dict -/
theorem sa_to {ox : Obj} {od : Option Obj} (XX : XB bt B newId initId) (X : K.In hp) (I : W.InstAt hp x ox C od) (hcd : W.clsIn K C = some cd) (hm : Tail bt cd.mro) (ha : W.findIn K (.ref C) name = some none)
    (hq : wpAny (model prog w) A.in1 (storeInOwnDict (.ref x) (.ref C) (.str name tk) name v false)
      (fun fin s' => match fin with | .done f => R (.ok f) s' | .again c' => c'.quiet = true ∧ codeAny (model prog w) A c' R s') (fun e s' => R (.error e) s') ⟨hp, g, d, t, os⟩) :
    codeAny (model prog w) A (.call (.builtin "object.__setattr__") ⟨[.ref x, .str name tk, v], []⟩) R ⟨hp, g, d, t, os⟩ := by
  have S0 := F.store_object
  have isObj : W.Looks (model prog w) hp (isInstance (.ref x) (.type "object")) true := I.type.andThen (W.looks_mroIn X (by
    unfold W.mroIn
    rw [hcd, Option.bind_some, if_neg (by rw [hm.ne XX]; decide), hm.has "object", XX.obj]))
  refine codeAny_call_builtin S0.slot.plain S0.entry (@W.check_slot (model prog w) _ _ ⟨hp, g, d, t, os⟩ "object.__setattr__" "object" "__setattr__" (.ref x) [.str name tk, v] [] _ S0.kind S0.split isObj (S0.args (.ref x) (.str name tk) v) ?_)
  have theMro : W.Looks (model prog w) hp (mroOf (.ref C)) cd.mro := (W.looks_clsIn X hcd).andThen .now
  have noTaker : W.Looks (model prog w) hp (storeTaker? none) none := .now
  rw [W.osa_eq, refuse_eq]
  refine wpAny_bind (wpAny_bind (I.type.at (wpAny_bind (theMro.at ?_))))
  rw [hm.pass XX]
  exact wpAny_pure (wpAny_bind (I.type.at (wpAny_bind ((W.looks_findIn X ha).at (wpAny_bind (noTaker.at hq))))))
/-- .. the first one: a dict is made -/
theorem sa_first (XX : XB bt B newId initId) (X : K.In hp) (hx : hp.get? x = some { cls := .ref C, data := .fields fv }) (hcd : W.clsIn K C = some cd) (hm : Tail bt cd.mro) (hh : cd.hasDict = true) (ha : W.findIn K (.ref C) name = some none)
    (hq : ∀ h' tk' dx, (∀ b o, b ≠ x → hp.get? b = some o → h'.get? b = some o) → hp.objs.size ≤ dx → dx ≠ x → h'.get? x = some { cls := .ref C, dict := some dx, data := .fields fv } →
      h'.Ns1 dx (fun y => if y = name then some v else none) → R (.ok (.ret .none)) ⟨h', g, d, tk', os⟩) :
    codeAny (model prog w) A (.call (.builtin "object.__setattr__") ⟨[.ref x, .str name tk, v], []⟩) R ⟨hp, g, d, t, os⟩ := by
  have I : W.InstAt hp x { cls := .ref C, data := .fields fv } C none := ⟨hx, rfl, rfl, trivial⟩
  have apart : x ≠ hp.objs.size := Nat.ne_of_lt (Heap.lt_size hx)
  refine sa_to XX X I hcd hm ha ?_
  have theCls : W.Looks (model prog w) hp (classData C) cd := W.looks_clsIn X hcd
  obtain ⟨nm, bs, mro, ns, qn, hd, sn, sb, ab, col, del⟩ := cd
  dsimp only at hh
  subst hh
  unfold storeInOwnDict ownDictForStores
  repeat (first | with_reducible refine HandSPX.store_in_new ?_ ?_ | with_reducible refine wpAny_loadPart_at hx ?_ | with_reducible refine theCls.at ?_ | wp_step)
  · exact ⟨_, #[], _, (Heap.get?_update_ne _ _ _ _ apart.symm).trans (Heap.get?_push_at rfl rfl), rfl, fun e he => absurd he (by simp), fun _ => rfl⟩
  · intro h' tk' hn' hs
    have there : (hp.push { cls := .type "dict", data := .dict #[] }).get? x = some { cls := .ref C, data := .fields fv } := Heap.get?_push_of_some _ hx
    refine hq h' tk' hp.objs.size (fun b o hb ho => ?_) (Nat.le_refl _) apart.symm ?_ hn'
    · exact (hs.2 b (Nat.ne_of_lt (Heap.lt_size ho))).trans ((Heap.get?_update_ne _ _ _ _ hb).trans (Heap.get?_push_of_some _ ho))
    · exact (hs.2 x apart).trans (Heap.get?_update_self _ there rfl)
/-- .. a further one -/
theorem sa_next {m0 : Str → Option Value} {nl : List Str} (XX : XB bt B newId initId) (X : K.In hp) (hx : hp.get? x = some { cls := .ref C, dict := some dx, data := .fields fv }) (hns : hp.Ns1 dx m0) (hw : Within m0 nl) (hz : nl.length ≤ 1000)
    (hcd : W.clsIn K C = some cd) (hm : Tail bt cd.mro) (hh : cd.hasDict = true) (ha : W.findIn K (.ref C) name = some none)
    (hq : ∀ h' tk', (∀ b o, b ≠ dx → hp.get? b = some o → h'.get? b = some o) → h'.Ns1 dx (fun y => if y = name then some v else m0 y) → R (.ok (.ret .none)) ⟨h', g, d, tk', os⟩) :
    codeAny (model prog w) A (.call (.builtin "object.__setattr__") ⟨[.ref x, .str name tk, v], []⟩) R ⟨hp, g, d, t, os⟩ := by
  obtain ⟨oD, _, _, hoD, _, _⟩ := hns.count hw
  have I : W.InstAt hp x { cls := .ref C, dict := some dx, data := .fields fv } C (some oD) := ⟨hx, rfl, rfl, hoD⟩
  refine sa_to XX X I hcd hm ha ?_
  have theCls : W.Looks (model prog w) hp (classData C) cd := W.looks_clsIn X hcd
  obtain ⟨nm, bs, mro, ns, qn, hd, sn, sb, ab, col, del⟩ := cd
  dsimp only at hh
  subst hh
  unfold storeInOwnDict ownDictForStores
  repeat (first | with_reducible refine OEX.store_in_old hns hw hz ?_ | with_reducible refine wpAny_loadPart_at hx ?_ | with_reducible refine theCls.at ?_ | wp_step)
  intro h' tk' hn' hs
  exact hq h' tk' (fun b o hb ho => (hs.2 b hb).trans ho) hn'
end
end RoXb
end PySem
namespace Ro
open PySem PySem.Spec PyProof.Rows L2 PySem.RoXb
/-- what the written part says of such a class -/
structure XCl (K : PySem.W.Frag) (C : Addr) (bt : List Value) (newId : String) : Prop where
  cls : ∃ nm q N bs bm sn sub ab col dd k0 k1 k2 k3 k5, K.lookup C = some (excClassObj nm q C N bs bm true sn sub ab col dd k0 k1 k2 k3 k5 newId) ∧ Tail bt bm
  sa : PySem.W.findIn K (.ref C) "__setattr__" = some (some (.builtin "object.__setattr__"))
  exC : PySem.W.subIn K (.ref C) (.type "BaseException") = some true
  tyC : PySem.W.typeIn K (.ref C) = some (.type "type")
  kC : PySem.W.keepIn K (.ref C) = true
section
variable {X : Cx} {pins : List (Addr × Obj)} {σ : L2.St} {H : Hp} {s : Shared} {a C dx : Addr} {f : Str} {y : V} {u : Value} {fs : List (Str × V)} {Q : Unit → Shared → Prop} {E : Value → Shared → Prop} {A : Around} {bt : List Value} {B newId initId : String}
/-- self.f = y, the first field -/
theorem xst_first (XX : XB bt B newId initId) (T : XCl X.K C bt newId) (I : Inv X pins σ H s) (e : H a = some (exo a C none)) (hno : PySem.W.findIn X.K (.ref C) f = some none) (ry : RelV y u)
    (h : ∀ dx s', H dx = none → dx ≠ a → Inv X pins σ (upd (upd H dx (exd dx [(f, y)])) a (exo a C (some dx))) s' → Q () s') : wpAny (model X.prog X.w) A (setAttr (.ref a) f u) Q E s := by
  obtain ⟨nm, q, N, bs, bm, sn, sub, ab, col, dd, k0, k1, k2, k3, k5, hC, hbm⟩ := T.cls
  have hcl : PySem.W.clsIn X.K C = some { name := nm, bases := bs, mro := .ref C :: bm, ns := N, qualname := q, hasDict := true, slotNames := sn, subclasses := sub, abstract := ab, collection := col, hasDel := false } := by unfold PySem.W.clsIn; rw [hC] <;> rfl
  obtain ⟨t1, ho⟩ := exo_at I.hok e
  obtain ⟨hp, g, d, t, os⟩ := s
  refine PySem.W.set_plain I.kIn (ox := { cls := .ref C, dict := none, data := .fields #[.ref t1, .none, .none, .none, .bool false, .none] }) (od := none) ⟨ho, rfl, rfl, trivial⟩ T.sa ?_
  refine sa_first XX I.kIn ho hcl (hbm.cons C) rfl hno (fun h' tk' dx k dn dne hx hn => ?_)
  have free : H dx = none := I.hok.fresh dn
  have nd : ∀ {b : Addr} {o : Obj}, hp.get? b = some o → b ≠ dx := fun {b o} z => Nat.ne_of_lt (Nat.lt_of_lt_of_le (Heap.lt_size z) dn)
  have na : ∀ {b : Addr}, H b = none → b ≠ a := fun {b} n z => by
    rw [z, e] at n
    cases n
  have U : Un X.fs [] H (upd (upd H dx (exd dx [(f, y)])) a (exo a C (some dx))) hp h' := ⟨fun b o z n _ _ => k b o (na n) z, fun b o z n _ _ => ⟨o.slots, k b o (na n) z⟩, fun b o z n _ => by rw [upd_ne (na n), upd_ne (nd z)]; exact n, fun b o z _ => by
      by_cases hb : b = a
      · exact ⟨_, by rw [hb]; exact hx⟩
      · exact ⟨o, k b o hb z⟩, fun b xs z => by rw [upd_ne (at_ne e z exo_tup), upd_ne (ne_of_none z free)]; exact z, fun b o v z => by rw [upd_ne (at_ne e z exo_frz), upd_ne (ne_of_none z free)]; exact z, fun b ps z => ⟨#[], by rw [upd_ne (at_ne e z exo_tbl), upd_ne (ne_of_none z free), z]; simp⟩⟩
  refine h dx _ free dne (I.un (t' := tk') U fun b o z => ?_)
  by_cases hb : b = a
  · subst hb
    rw [upd_same] at z
    cases z
    exact exo_ok hx
  · rw [upd_ne hb] at z
    by_cases hd : b = dx
    · subst hd
      rw [upd_same] at z
      cases z
      exact exd_ok hn (relO_put (fs := []) ry fun g => True.intro)
    · rw [upd_ne hd] at z
      exact (I.hok b o z).stay (fun c v hc z => k c v (hc.elim (fun hc => by rw [hc]; exact hb) fun hc => at_ne e hc exo_own) z)
        (fun c hc => by rw [upd_ne (at_ne e hc exo_own), upd_ne (ne_of_none hc free)]; exact hc) (fun c xs hc => by rw [upd_ne (at_ne e hc exo_tup), upd_ne (ne_of_none hc free)]; exact hc)
/-- self.f = y, a further field -/
theorem xst_next (XX : XB bt B newId initId) (T : XCl X.K C bt newId) (I : Inv X pins σ H s) (e : H a = some (exo a C (some dx))) (ed : H dx = some (exd dx fs)) (hl : fs.length ≤ 900) (hno : PySem.W.findIn X.K (.ref C) f = some none) (ry : RelV y u)
    (h : ∀ s', Inv X pins σ (upd H dx (exd dx ((f, y) :: fs))) s' → Q () s') : wpAny (model X.prog X.w) A (setAttr (.ref a) f u) Q E s := by
  obtain ⟨nm, q, N, bs, bm, sn, sub, ab, col, dd, k0, k1, k2, k3, k5, hC, hbm⟩ := T.cls
  have hcl : PySem.W.clsIn X.K C = some { name := nm, bases := bs, mro := .ref C :: bm, ns := N, qualname := q, hasDict := true, slotNames := sn, subclasses := sub, abstract := ab, collection := col, hasDel := false } := by unfold PySem.W.clsIn; rw [hC] <;> rfl
  obtain ⟨t1, ho⟩ := exo_at I.hok e
  obtain ⟨mA, hns, rel⟩ := exd_at I.hok ed
  have hw := within_of rel
  obtain ⟨hp, g, d, t, os⟩ := s
  obtain ⟨oD, _, _, hoD, _, _⟩ := hns.count hw
  refine PySem.W.set_plain I.kIn (ox := { cls := .ref C, dict := some dx, data := .fields #[.ref t1, .none, .none, .none, .bool false, .none] }) (od := some oD) ⟨ho, rfl, rfl, hoD⟩ T.sa ?_
  refine sa_next XX I.kIn ho hns hw (by rw [List.length_map]; omega) hcl (hbm.cons C) rfl hno (fun h' tk' k hn => ?_)
  have stays : ∃ o, h'.get? dx = some o := by
    obtain ⟨o, _, _, e', _⟩ := hn
    exact ⟨o, e'⟩
  exact h _ (I.write (t' := tk') (x := dx) (e := dx) (o := exd dx ((f, y) :: fs)) (by rw [ed]; exact True.intro) (.inl rfl) k stays (exd_ok hn (relO_put ry rel)))
/-- the built-in class's __init__ of it -/
theorem xinit_ok {us : List Value} {Q : Value → Shared → Prop} (XX : XB bt B newId initId) (T : XCl X.K C bt newId) (I : Inv X pins σ H s) (e : H a = some (exo a C none)) (hl : us.length ≤ sizeLine) (h : ∀ s', Inv X pins σ H s' → Q .none s') :
    wpAny (model X.prog X.w) A (call (.builtin initId) (.ref a :: us)) Q E s := by
  obtain ⟨nm, q, N, bs, bm, sn, sub, ab, col, dd, k0, k1, k2, k3, k5, hC, hbm⟩ := T.cls
  obtain ⟨t1, ho⟩ := exo_at I.hok e
  obtain ⟨hp, g, d, t, os⟩ := s
  refine wpAny_call (PySem.RoXb.if_init XX.I (fun Y => hbm.has Y) (I.kIn _ _ hC) ho hl fun h' t2 k hx => ?_)
  have J := I.write (t' := t) (x := a) (e := a) (o := exo a C none) (by rw [e]; exact True.intro) (.inl rfl) k ⟨_, hx⟩ (exo_ok hx)
  have same : upd H a (exo a C none) = H := by
    funext b
    by_cases hb : b = a
    · rw [hb, upd_same, e]
    · rw [upd_ne hb]
  rw [same] at J
  exact h _ J
end
end Ro
end
section
set_option Elab.async false
set_option linter.all false
set_option maxRecDepth 100000
set_option maxHeartbeats 4000000
namespace Ro
open PySem PySem.Spec PyProof.Rows L2 PySem.RoXb
def tXin (K : PySem.W.Frag) (bt : List Value) (newId : String) (ta : TA) : TE := fun σ H Q => ta σ H fun vs H1 => ∃ (a C : Addr) (ws : List V), vs = .ref a :: ws ∧ ws.length ≤ 1000 ∧ XCl K C bt newId ∧ H1 a = some (exo a C none) ∧ Q .non H1
def tXst (K : PySem.W.Frag) (bt : List Value) (newId : String) (f : Str) (to te : TE) : TS := fun D σ H => te σ H fun y H1 => to σ H1 fun x H2 => ∃ a C : Addr, x = .ref a ∧ XCl K C bt newId ∧ PySem.W.findIn K (.ref C) f = some none ∧
  ((H2 a = some (exo a C none) ∧ ∀ dx, H2 dx = none → dx ≠ a → D.nx σ (upd (upd H2 dx (exd dx [(f, y)])) a (exo a C (some dx)))) ∨
    ∃ (dx : Addr) (fs : List (Str × V)), H2 a = some (exo a C (some dx)) ∧ H2 dx = some (exd dx fs) ∧ fs.length ≤ 900 ∧ D.nx σ (upd H2 dx (exd dx ((f, y) :: fs))))
section
variable {X : Cx} {o e : Expr} {es : List Expr} {to te : TE} {ta : TA} {f : Str} {p p' p1 p2 pos : Pos} {bt : List Value} {B newId initId : String}
theorem xin_run (XX : XB bt B newId initId) (ha : PA X (e :: es) ta) {pins : List (Addr × Obj)} {σ : L2.St} {H : Hp} {s : Shared} {Q : VK} (I : Inv X pins σ H s) (h : tXin X.K bt newId ta σ H Q)
    (he : starEach (e :: es) X.env = (false, eval e X.env) :: starEach es X.env) (hpl : (backTo pos (starEach es X.env)).any (·.1) = false) :
    wpAny (model X.prog X.w) X.A (callWith pos (Value.builtin initId) [] (backTo pos (starEach (e :: es) X.env)) []) (EP X pins σ Q) X.xe s := by
  refine PyProof.Rows.callWith_method1 (thn (ha.run pos pins s σ H _ I h) fun us s1 ⟨vs, H1, I1, r1, a, C, ws, ev, hl, T, ea, q⟩ => ?_) he hpl
  subst ev
  cases r1 with
  | @cons _ u0 _ ur ra rw' =>
    obtain rfl : u0 = Value.ref a := ra
    have few : ur.length ≤ sizeLine := by
      rw [← Paired.length rw', sizeLine_eq]
      omega
    exact xinit_ok XX T I1 ea few fun s' J => ⟨.non, H1, J, rfl, q⟩
/-- .. Base an own class -/
theorem pe_xin_own {pl : Sem Bool} {P : Addr} {x : Str} (XX : XB bt B newId initId) (hg : Gl X x) (hm : X.mg x = some (.ref P)) (sp : PySem.W.specialIn X.K (.ref P) "__getattribute__" = some (some (.builtin "type.__getattribute__"))) (rd : PySem.W.readsIn X.K P (.type "type") = true)
    (fi : PySem.W.findCls X.K (.ref P) (.type "type") "__init__" = some (.val (.builtin initId))) (ha : PA X (e :: es) ta)
    (hc : eval (.Call (.Attribute (.Name x p1) "__init__" p2) (e :: es) [] pos) X.env = (do
      let ov ← eval (.Name x p1) X.env
      standAt p2.atName
      let (f, first) ← holding [ov] (getMethod ov "__init__" pl)
      callWith pos f first (backTo pos (starEach (e :: es) X.env)) (backToKw pos (keywordEach [] X.env))) := by rfl)
    (he : starEach (e :: es) X.env = (false, eval e X.env) :: starEach es X.env := by rfl) (hpl : (backTo pos (starEach es X.env)).any (·.1) = false := by rfl) (hdb : (x == ("__debug__" : Str)) = false := by decide +kernel) :
    PE X (.Call (.Attribute (.Name x p1) "__init__" p2) (e :: es) [] pos) (tXin X.K bt newId ta) := by
  refine ⟨fun pins s σ H Q I h => ?_⟩
  refine PySem.W.methodCall_KW (ld_glob I hg hm ?_ hdb) hc
  refine PySem.W.method_cls I.kIn sp (PySem.W.cls_value I.kIn rd fi XX.hand ?_)
  exact xin_run XX ha (I.tok _) h he hpl
/-- .. Base a built-in class -/
theorem pe_xin_blt {pl : Sem Bool} (XX : XB bt B newId initId) (hg : Gl X (B : Str)) (hm : X.mg (B : Str) = none) (hv : bootBuiltins (B : Str) = some (.type B)) (ty : typeOf (.type B) = pure (.type "type")) (st : Manifest.isStub B = false)
    (fi : PySem.W.findCls X.K (.type B) (.type "type") "__init__" = some (.val (.builtin initId))) (ha : PA X (e :: es) ta)
    (hc : eval (.Call (.Attribute (.Name (B : Str) p1) "__init__" p2) (e :: es) [] pos) X.env = (do
      let ov ← eval (.Name (B : Str) p1) X.env
      standAt p2.atName
      let (f, first) ← holding [ov] (getMethod ov "__init__" pl)
      callWith pos f first (backTo pos (starEach (e :: es) X.env)) (backToKw pos (keywordEach [] X.env))) := by rfl)
    (he : starEach (e :: es) X.env = (false, eval e X.env) :: starEach es X.env := by rfl) (hpl : (backTo pos (starEach es X.env)).any (·.1) = false := by rfl) (hdb : ((B : Str) == ("__debug__" : Str)) = false := by decide +kernel) (hn : (B : Str) ≠ "__name__" := by decide +kernel) :
    PE X (.Call (.Attribute (.Name (B : Str) p1) "__init__" p2) (e :: es) [] pos) (tXin X.K bt newId ta) := by
  refine ⟨fun pins s σ H Q I h => ?_⟩
  refine PySem.W.methodCall_KW (ld_blt I hg hm hv ?_ hn hdb) hc
  obtain ⟨m, fr⟩ := I.fr
  refine PySem.W.method_type fr I.ok.mod.kin ty st fi XX.hand ?_
  exact xin_run XX ha (I.tok _) h he hpl
theorem ps_xst (XX : XB bt B newId initId) (ho : PE X o to) (he : PE X e te) (hs : swapsWith e (some (.Attribute o f p')) pos.line X.env = pure false := by rfl) : PS X (.Assign [.Attribute o f p'] e pos) (tXst X.K bt newId f to te) := by
  refine ⟨fun pins s σ H D I h => ?_⟩
  refine plainObj_wpAny_Assign_Attribute (thn (he.run pins s σ H _ I h) fun v s1 ⟨y, H1, I1, r1, q1⟩ => thn (ho.run pins s1 σ H1 _ I1 q1) fun u s2 ⟨x, H2, I2, r2, a, C, ex, T, hno, q⟩ => ?_) hs
  subst ex
  obtain rfl : u = Value.ref a := r2
  rcases q with ⟨ea, q⟩ | ⟨dx, fs, ea, ed, hl, q⟩
  · exact xst_first XX T I2 ea hno r1 fun dx s' n ne J => ⟨σ, _, J, q dx n ne⟩
  · exact xst_next XX T I2 ea ed hl hno r1 fun s' J => ⟨σ, _, J, q⟩
end
def spX (C : Addr) (flds : List Str) : Sp := fun vs H Q _ => vs.length = flds.length + 1 ∧ ∃ a ws, vs = .ref a :: ws ∧ H a = some (exo a C none) ∧
  ∀ d H', H d = none → d ≠ a → H' a = some (exo a C (some d)) → H' d = some (exd d (flds.zip ws).reverse) → (∀ b, b ≠ a → b ≠ d → H' b = H b) → Q .non H'
structure InitOk (T : Tb) (P : Program) (w : World) (mg : Str → Option Value) (base : Heap) (k : Nat) (d : He.DefD) (ps : List Str) (c : String) (flds : List Str) (bt : List Value) (B newId initId : String) : Prop where
  ex : ∃ fd, FunD T.K d.name d.qual d.params d.body d.scope (d.dvs T.K) [] (He.fAd T.K d.at_) fd ∧ FnG P w T.K mg base k (He.fAd T.K d.at_) fd ps (spX (He.ga T.K (c : Str)) flds)
  xb : XB bt B newId initId
  xc : XCl T.K (He.ga T.K (c : Str)) bt newId
theorem InitOk.mono {T : Tb} {P : Program} {w : World} {mg : Str → Option Value} {base : Heap} {j k : Nat} {d : He.DefD} {ps : List Str} {c : String} {flds : List Str} {bt : List Value} {B newId initId : String} (F : InitOk T P w mg base j d ps c flds bt B newId initId) (h : j ≤ k) : InitOk T P w mg base k d ps c flds bt B newId initId := by
  obtain ⟨fd, F1, F2⟩ := F.ex
  exact ⟨⟨fd, F1, F2.mono h⟩, F.xb, F.xc⟩
section
variable {T : Tb} {P : Program} {w : World} {mg : Str → Option Value} {base : Heap} {k : Nat} {d : He.DefD} {c : String} {bt : List Value} {B newId initId : String} {fd : FuncData}
/-- one field -/
theorem InitOk.of1 {s1 x1 f1 m : Str} {bx : Expr} {j : Nat} {q1 q2 q3 q4 q5 q6 q7 q8 : Pos} (XX : XB bt B newId initId) (XC : XCl T.K (He.ga T.K (c : Str)) bt newId) (F : FunD T.K d.name d.qual d.params d.body d.scope (d.dvs T.K) [] (He.fAd T.K d.at_) fd) (Sc : FnScope [s1, x1] [s1, x1] d.scope)
    (hb : d.body = [.Expr (.Call bx [.Name s1 q1, .Constant (.str m) j q2] [] q3) q4, .Assign [.Attribute (.Name s1 q5) f1 q6] (.Name x1 q7) q8])
    (no1 : PySem.W.findIn T.K (.ref (He.ga T.K (c : Str))) f1 = some none)
    (hd1 : (s1 == ("__debug__" : Str)) = false := by decide +kernel) (hd2 : (x1 == ("__debug__" : Str)) = false := by decide +kernel) (hl1 : d.scope.names.lookup s1 = some .local := by rfl) (hl2 : d.scope.names.lookup x1 = some .local := by rfl)
    (hc1 : (s1 == ("__classdict__" : Str)) = false := by decide +kernel) (hc2 : (x1 == ("__classdict__" : Str)) = false := by decide +kernel)
    (hcall : ∀ (cdv : Value) (A : Around) (outer : List PySem.Env) (s : Shared) (H : Hp) (E : XK) (ta : TA), PA (cxOf (L2N.CX P w) P w T.K mg base [s1, x1] d.qual d.scope (He.fAd T.K d.at_) cdv A outer s H E) [.Name s1 q1, .Constant (.str m) j q2] ta →
      PE (cxOf (L2N.CX P w) P w T.K mg base [s1, x1] d.qual d.scope (He.fAd T.K d.at_) cdv A outer s H E) (.Call bx [.Name s1 q1, .Constant (.str m) j q2] [] q3) (tXin T.K bt newId ta)) :
    InitOk T P w mg base (k + 1) d [s1, x1] c [f1] bt B newId initId := by
  refine ⟨⟨fd, F, ?_⟩, XX, XC⟩
  obtain ⟨oc, od, dV, kV, doc, pm, an, cdv, ct, osl, rfl, lk, hcd, _, _⟩ := F.ex
  refine fnG_of lk hcd Sc (fun vs H Q E h => h.1) fun A outer s H vs Q E hr hsp => ?_
  obtain ⟨hl, a, ws, rfl, ea, hq⟩ := hsp
  rw [hb]
  obtain ⟨v, rfl⟩ : ∃ v, ws = [v] := by
    match ws, hl with
    | [v], _ => exact ⟨v, rfl⟩
  refine ⟨_, pss_cons (ps_expr (hcall cdv A outer s H E _ (pa_cons (pe_var (i := 0) rfl (.inl hl1) hd1 hc1) (pa_cons pe_str pa_nil)))) (pss_one (ps_xst XX (pe_var (i := 0) rfl (.inl hl1) hd1 hc1) (pe_var (i := 1) rfl (.inl hl2) hd2 hc2))), ?_⟩
  refine ⟨.ref a, rfl, a, He.ga T.K (c : Str), [.str m], rfl, by simp, XC, ea, ?_⟩
  refine ⟨v, rfl, .ref a, rfl, a, He.ga T.K (c : Str), rfl, XC, no1, .inl ⟨ea, fun dx hdx hne => ?_⟩⟩
  exact hq dx _ hdx hne upd_same (by rw [upd_ne hne]; exact upd_same) fun b h1 h2 => by rw [upd_ne h1, upd_ne h2]
/-- two fields -/
theorem InitOk.of2 {s1 x1 x2 f1 f2 m : Str} {bx : Expr} {j : Nat} {q1 q2 q3 q4 q5 q6 q7 q8 q9 r1 r2 r3 : Pos} (XX : XB bt B newId initId) (XC : XCl T.K (He.ga T.K (c : Str)) bt newId) (F : FunD T.K d.name d.qual d.params d.body d.scope (d.dvs T.K) [] (He.fAd T.K d.at_) fd) (Sc : FnScope [s1, x1, x2] [s1, x1, x2] d.scope)
    (hb : d.body = [.Expr (.Call bx [.Name s1 q1, .Constant (.str m) j q2] [] q3) q4, .Assign [.Attribute (.Name s1 q5) f1 q6] (.Name x1 q7) q8, .Assign [.Attribute (.Name s1 q9) f2 r1] (.Name x2 r2) r3])
    (no1 : PySem.W.findIn T.K (.ref (He.ga T.K (c : Str))) f1 = some none) (no2 : PySem.W.findIn T.K (.ref (He.ga T.K (c : Str))) f2 = some none)
    (hd1 : (s1 == ("__debug__" : Str)) = false := by decide +kernel) (hd2 : (x1 == ("__debug__" : Str)) = false := by decide +kernel) (hd3 : (x2 == ("__debug__" : Str)) = false := by decide +kernel)
    (hl1 : d.scope.names.lookup s1 = some .local := by rfl) (hl2 : d.scope.names.lookup x1 = some .local := by rfl) (hl3 : d.scope.names.lookup x2 = some .local := by rfl)
    (hc1 : (s1 == ("__classdict__" : Str)) = false := by decide +kernel) (hc2 : (x1 == ("__classdict__" : Str)) = false := by decide +kernel) (hc3 : (x2 == ("__classdict__" : Str)) = false := by decide +kernel)
    (hcall : ∀ (cdv : Value) (A : Around) (outer : List PySem.Env) (s : Shared) (H : Hp) (E : XK) (ta : TA), PA (cxOf (L2N.CX P w) P w T.K mg base [s1, x1, x2] d.qual d.scope (He.fAd T.K d.at_) cdv A outer s H E) [.Name s1 q1, .Constant (.str m) j q2] ta →
      PE (cxOf (L2N.CX P w) P w T.K mg base [s1, x1, x2] d.qual d.scope (He.fAd T.K d.at_) cdv A outer s H E) (.Call bx [.Name s1 q1, .Constant (.str m) j q2] [] q3) (tXin T.K bt newId ta)) :
    InitOk T P w mg base (k + 1) d [s1, x1, x2] c [f1, f2] bt B newId initId := by
  refine ⟨⟨fd, F, ?_⟩, XX, XC⟩
  obtain ⟨oc, od, dV, kV, doc, pm, an, cdv, ct, osl, rfl, lk, hcd, _, _⟩ := F.ex
  refine fnG_of lk hcd Sc (fun vs H Q E h => h.1) fun A outer s H vs Q E hr hsp => ?_
  obtain ⟨hl, a, ws, rfl, ea, hq⟩ := hsp
  rw [hb]
  obtain ⟨v, u, rfl⟩ : ∃ v u, ws = [v, u] := by
    match ws, hl with
    | [v, u], _ => exact ⟨v, u, rfl⟩
  refine ⟨_, pss_cons (ps_expr (hcall cdv A outer s H E _ (pa_cons (pe_var (i := 0) rfl (.inl hl1) hd1 hc1) (pa_cons pe_str pa_nil)))) (pss_cons (ps_xst XX (pe_var (i := 0) rfl (.inl hl1) hd1 hc1) (pe_var (i := 1) rfl (.inl hl2) hd2 hc2)) (pss_one (ps_xst XX (pe_var (i := 0) rfl (.inl hl1) hd1 hc1) (pe_var (i := 2) rfl (.inl hl3) hd3 hc3)))), ?_⟩
  refine ⟨.ref a, rfl, a, He.ga T.K (c : Str), [.str m], rfl, by simp, XC, ea, ?_⟩
  refine ⟨v, rfl, .ref a, rfl, a, He.ga T.K (c : Str), rfl, XC, no1, .inl ⟨ea, fun dx hdx hne => ?_⟩⟩
  refine ⟨u, rfl, .ref a, rfl, a, He.ga T.K (c : Str), rfl, XC, no2, .inr ⟨dx, [(f1, v)], upd_same, by rw [upd_ne hne]; exact upd_same, by simp, ?_⟩⟩
  exact hq dx _ hdx hne (by rw [upd_ne (Ne.symm hne)]; exact upd_same) upd_same fun b h1 h2 => by rw [upd_ne h2, upd_ne h1, upd_ne h2]
end
def tMkX (C : Addr) (flds : List Str) (ta : TA) : L2.St → Hp → XK → Prop := fun σ H Q => ta σ H fun vs H1 => vs.length = flds.length ∧ vs.length ≤ 1000 ∧ ∀ d, H1 d = none → Q (.ref C) (some d) (upd H1 d (.xd (flds.zip vs).reverse))
section
variable {X : Cx} {T : Tb} {E : XK} {e : Expr} {es : List Expr} {p pos : Pos} {k : Nat} {d : He.DefD} {ps : List Str} {c : String} {flds : List Str} {bt : List Value} {B newId initId : String} {ta : TA}
theorem pmk_xi (hK : X.K = T.K) (F : InitOk T X.prog X.w X.mg X.base k d ps c flds bt B newId initId) (iC : PySem.W.findIn T.K (.ref (He.ga T.K (c : Str))) "__init__" = some (some (.ref (He.fAd T.K d.at_)))) (tI : PySem.W.typeIn T.K (.ref (He.fAd T.K d.at_)) = some (.type "function"))
    (hr : RG (k + 1) X.A) (hb : ∀ fd, FunD T.K d.name d.qual d.params d.body d.scope (d.dvs T.K) [] (He.fAd T.K d.at_) fd → L2.Binds T.K fd ps []) (hps : ps.length = flds.length + 1) (hx : L2N.Takes X fun _ _ _ _ => False) (hg : Gl X (c : Str)) (hm : X.mg (c : Str) = some (.ref (He.ga T.K (c : Str)))) (ha : PA X (e :: es) ta)
    (hdb : ((c : Str) == ("__debug__" : Str)) = false := by decide +kernel) (he : starEach (e :: es) X.env = (false, eval e X.env) :: starEach es X.env := by rfl) (hpl : (backTo pos (starEach es X.env)).any (·.1) = false := by rfl) :
    L2N.PMk X (.Call (.Name (c : Str) p) (e :: es) [] pos) (tMkX (He.ga T.K (c : Str)) flds ta) := by
  obtain ⟨⟨fd, FD, FO⟩, XX, XC⟩ := F
  rw [← hK] at FO iC tI XC
  have bn := hb fd FD
  rw [← hK] at bn
  generalize hC' : He.ga T.K (c : Str) = C at *
  have eC : He.ga X.K (c : Str) = C := by rw [hK]; exact hC'
  rw [eC] at FO iC XC
  intro pins s σ H Q I h
  obtain ⟨nm, q, N, bs, bm, sn, sub, ab, col, dd, k0, k1, k2, k3, k5, hC, hbm⟩ := XC.cls
  refine wpAny_Call_Name_kw (ld_glob I hg hm ?_ hdb)
  refine PySem.W.callWith_K (h₀ := X.base) I.ok.mod.kin XC.kC (thn (ha.run pos pins s σ H _ I h) fun us s1 ⟨vs, H1, I1, r1, hvl, hz, q1⟩ => ⟨I1.kIn, ?_⟩) he hpl
  show wpAny _ _ (call (.ref C) us) _ _ _
  obtain ⟨hp, g, dr, tk, os⟩ := s1
  have above : hp.objs.size ≤ hp.objs.size + 1 := Nat.le_succ _
  have hn : H1 (hp.objs.size + 1) = none := I1.hok.fresh above
  have grow : ∀ b o, hp.get? b = some o → ((hp.push (PySem.W.kdv_tup us)).push (PySem.HandSPX.excO C hp.objs.size)).get? b = some o := fun b o e => Heap.get?_push_of_some _ (Heap.get?_push_of_some _ e)
  have hget : ((hp.push (PySem.W.kdv_tup us)).push (PySem.HandSPX.excO C hp.objs.size)).get? (hp.objs.size + 1) = some (PySem.HandSPX.excO C hp.objs.size) := by heap_get
  have I2 : Inv X pins σ (upd H1 (hp.objs.size + 1) (exo (hp.objs.size + 1) C none)) ⟨(hp.push (PySem.W.kdv_tup us)).push (PySem.HandSPX.excO C hp.objs.size), g, dr, tk, os⟩ :=
    I1.laid (t' := tk) (a := hp.objs.size + 1) (o := exo (hp.objs.size + 1) C none) (h' := (hp.push (PySem.W.kdv_tup us)).push (PySem.HandSPX.excO C hp.objs.size)) grow above (exo_ok hget)
  have r2 : Vals (V.ref (hp.objs.size + 1) :: vs) (Value.ref (hp.objs.size + 1) :: us) := .cons rfl r1
  have hl : (Value.ref (hp.objs.size + 1) :: us).length = ps.length := by
    rw [← r2.length, hps, List.length_cons, hvl]
  have few : us.length ≤ sizeLine := by
    rw [← Paired.length r1, sizeLine_eq]
    omega
  have start : spX C flds (V.ref (hp.objs.size + 1) :: vs) (upd H1 (hp.objs.size + 1) (exo (hp.objs.size + 1) C none)) (fun v H2 => v = .non ∧ ∃ (d : Addr) (fs : List (Str × V)), H2 (hp.objs.size + 1) = some (exo (hp.objs.size + 1) C (some d)) ∧ H2 d = some (exd d fs) ∧ H1 d = none ∧ Q (.ref C) (some d) (upd (del H2 (hp.objs.size + 1)) d (.xd fs))) E00 := by
    refine ⟨by rw [List.length_cons, hvl], _, vs, rfl, upd_same, fun d0 H' h1 h2 h3 h4 h5 => ⟨rfl, d0, _, h3, h4, ?_, ?_⟩⟩
    · rw [upd_ne h2] at h1; exact h1
    · have hd0 : H1 d0 = none := by rw [upd_ne h2] at h1; exact h1
      have same : upd (del H' (hp.objs.size + 1)) d0 (.xd (flds.zip vs).reverse) = upd H1 d0 (.xd (flds.zip vs).reverse) := by
        funext b
        by_cases hbd : b = d0
        · rw [hbd, upd_same, upd_same]
        · rw [upd_ne hbd, upd_ne hbd]
          by_cases hba : b = hp.objs.size + 1
          · rw [hba, del_same, hn]
          · rw [del_ne hba, h5 b hba hbd, upd_ne hba]
      rw [same]
      exact q1 d0 hd0
  have bto := bn ⟨(hp.push (PySem.W.kdv_tup us)).push (PySem.HandSPX.excO C hp.objs.size), g, dr, tk, os⟩ (Value.ref (hp.objs.size + 1) :: us) I2.kIn (by rw [List.append_nil]; exact hl)
  rw [List.append_nil] at bto
  refine wpAny_call (PySem.RoXb.nf_call XX.N.choose_spec (fun Y => hbm.has Y) (I1.kIn _ _ hC) (PySem.W.looks_findIn I1.kIn iC) (fun self => PySem.W.bind_fn I1.kIn self tI) few
    (codeAny_mono (FO.run _ X.stack _ _ ⟨Value.ref (hp.objs.size + 1) :: us, []⟩ (Value.ref (hp.objs.size + 1) :: us) _ _ E00 (hr.make C us []) (I2.env0.make C us []) bto r2 start) fun r s' hq' => ?_))
  match r, hq' with
  | .error er, hq' => exact L2N.passes_call hx (fun _ _ _ _ h => h) pins σ _ _ er s' I2 hq'
  | .ok (.ret u), hq' =>
    obtain ⟨v, H2, os2, bare2, un2, hok2, rv, ev, d0, fs, ea, ed, hd1, q2⟩ := hq'
    subst ev
    obtain ⟨h2, g2, d2, t2, os'⟩ := s'
    obtain ⟨t0, G, J, kG, ge, hoe, na⟩ := mk_end0 (d2 := d2) (t2 := t2) I1 above grow un2 hok2 os2 bare2 ea ed hd1
    exact ⟨rv, _, _, _, ⟨G, g2, d2, t2, os'⟩, _, .ref C, some d0, rfl, J, kG, ge, hoe, ⟨rfl, rfl, fun vs e => by cases e; rfl⟩, rfl, rfl, na, rfl, bare2, raises_own XC.exC XC.tyC, q2⟩
/-- raise C(..), C with an own __init__ that sets the fields flds -/
theorem is_raiseI {fa : AX} {pos' : Pos} (hK : X.K = T.K) (hc : X.calm = true) (tk : L2N.Takes X fun c d _ H => E c d H) (hx : L2N.Takes X fun _ _ _ _ => False) (F : InitOk T X.prog X.w X.mg X.base k d ps c flds bt B newId initId) (iC : PySem.W.findIn T.K (.ref (He.ga T.K (c : Str))) "__init__" = some (some (.ref (He.fAd T.K d.at_)))) (tI : PySem.W.typeIn T.K (.ref (He.fAd T.K d.at_)) = some (.type "function"))
    (hr : RG (k + 1) X.A) (hb : ∀ fd, FunD T.K d.name d.qual d.params d.body d.scope (d.dvs T.K) [] (He.fAd T.K d.at_) fd → L2.Binds T.K fd ps []) (hps : ps.length = flds.length + 1) (hg : Gl X (c : Str)) (hm : X.mg (c : Str) = some (.ref (He.ga T.K (c : Str)))) (ha : IA T E X (e :: es) fa)
    (hlk : ∀ vs : List V, vs.length = flds.length → ∃ gs, gs = (flds.zip vs).reverse ∧ (∀ f ∈ T.cf c, ∃ v, gs.lookup (Str.ofString f) = some v) ∧ (T.cf c).map (fun f : String => (gs.lookup (Str.ofString f)).getD .non) = vs)
    (hdb : ((c : Str) == ("__debug__" : Str)) = false := by decide +kernel) (he : starEach (e :: es) X.env = (false, eval e X.env) :: starEach es X.env := by rfl) (hpl : (backTo pos (starEach es X.env)).any (·.1) = false := by rfl) :
    IS T E X (.Raise (some (.Call (.Name (c : Str) p) (e :: es) [] pos)) none pos') (sRaise c fun env S => (fa env S).bnd fun ds S1 => if ds.length = flds.length ∧ ds.length ≤ 1000 then .ok ds S1 else .bad) := by
  refine PS.mono (L2N.ps_raise hc tk (pmk_xi hK F iC tI hr hb hps hx hg hm ha hdb he hpl)) fun De σ H ⟨w, env, S, r, e, q⟩ => ?_
  refine ⟨w, env, S, r, e, ?_⟩
  have q : RP (((fa env S).bnd fun ds S1 => if ds.length = flds.length ∧ ds.length ≤ 1000 then (.ok ds S1 : R (List D)) else .bad).bnd fun fs S1 => (.err c fs S1 : R Ctl)) (CP T w De) (XW T w E) := q
  cases z : fa env S with
  | ok ds S1 =>
    rw [z, bnd_ok] at q
    by_cases hl : ds.length = flds.length ∧ ds.length ≤ 1000
    · rw [if_pos hl, bnd_ok] at q
      have q : XW T w E c ds S1 := q
      show ∀ w' H' vs, w.le w' → WR T w' S1 H' → Reps T w' ds vs → _
      intro w' H' vs l r' px
      refine ⟨by rw [← px.length]; exact hl.1, by rw [← px.length]; exact hl.2, fun d0 hd0 => ?_⟩
      obtain ⟨gs, hgs, g1, g2⟩ := hlk vs (by rw [← px.length]; exact hl.1)
      rw [← hgs]
      refine q w' _ _ _ l (r'.grow fun a u e => by rw [upd_ne (ne_of_none e hd0)]; exact e) ⟨rfl, .inr ⟨d0, gs, rfl, upd_same, g1, ?_⟩⟩
      rw [g2]
      exact px
    · rw [if_neg hl] at q
      exact (show False from q).elim
  | err c2 fs S1 => rw [z] at q; exact q
  | bad => rw [z] at q; exact (show False from q).elim
end
end Ro
end
section
set_option Elab.async false
set_option linter.all false
set_option maxRecDepth 100000
set_option maxHeartbeats 4000000
namespace Ro
open PySem PySem.Spec PyProof.Rows L2 PySem.RoXb
def xclB (K : PySem.W.Frag) (C : Addr) (bt : List Value) (newId : String) : Bool := (match K.lookup C with
  | some ⟨.type t, _, .cls cd, sl⟩ => decide (t = "type") && (match cd.mro, sl.toList with
    | .ref C' :: bm, [_, _, _, _, some (.builtin n), _] => decide (C' = C) && (decide (n = newId) && (!cd.hasDel && (cd.hasDict && tailB bt bm)))
    | _, _ => false)
  | _ => false) && (decide (PySem.W.findIn K (.ref C) "__setattr__" = some (some (.builtin "object.__setattr__"))) && (decide (PySem.W.subIn K (.ref C) (.type "BaseException") = some true) && (decide (PySem.W.typeIn K (.ref C) = some (.type "type")) && PySem.W.keepIn K (.ref C))))
theorem xcl_of {K : PySem.W.Frag} {C : Addr} {bt : List Value} {newId : String} (h : xclB K C bt newId = true) : XCl K C bt newId := by
  unfold xclB at h
  simp only [Bool.and_eq_true, decide_eq_true_eq] at h
  obtain ⟨h0, h1, h2, h3, h4⟩ := h
  refine ⟨?_, h1, h2, h3, h4⟩
  split at h0
  · rename_i t dd cd sl ho
    simp only [Bool.and_eq_true, decide_eq_true_eq] at h0
    obtain ⟨rfl, h0⟩ := h0
    split at h0
    · rename_i C' bm k0 k1 k2 k3 n k5 hm hs
      simp only [Bool.and_eq_true, decide_eq_true_eq, Bool.not_eq_true'] at h0
      obtain ⟨rfl, rfl, hdel, hdct, ht⟩ := h0
      obtain ⟨nm, bs, mro, ns, qn, hd, sn, sub, ab, col, del⟩ := cd
      dsimp only at hm hdel hdct
      subst hm hdel hdct
      have hsl : sl = #[k0, k1, k2, k3, some (.builtin n), k5] := by
        obtain ⟨l⟩ := sl
        simp only at hs
        rw [hs]
      subst hsl
      exact ⟨nm, qn, ns, bs, bm, sn, sub, ab, col, dd, k0, k1, k2, k3, k5, ho, tail_of ht⟩
    · cases h0
  · cases h0
def xiB (c : String) (bt : List Value) (newId : String) (flds : List Str) (K : PySem.W.Frag) : Bool := xclB K (He.ga K (c : Str)) bt newId && (decide (PySem.W.findIn K (.ref (He.ga K (c : Str))) "__init__" = some (some (.ref (He.fAd K ((c : Str), some ("__init__" : Str)))))) &&
  (decide (PySem.W.typeIn K (.ref (He.fAd K ((c : Str), some ("__init__" : Str)))) = some (.type "function")) && flds.all fun f => decide (PySem.W.findIn K (.ref (He.ga K (c : Str))) f = some none)))
structure XI (K : PySem.W.Frag) (c : String) (bt : List Value) (newId : String) (flds : List Str) : Prop where
  xc : XCl K (He.ga K (c : Str)) bt newId
  ini : PySem.W.findIn K (.ref (He.ga K (c : Str))) "__init__" = some (some (.ref (He.fAd K ((c : Str), some ("__init__" : Str)))))
  fn : PySem.W.typeIn K (.ref (He.fAd K ((c : Str), some ("__init__" : Str)))) = some (.type "function")
  no : ∀ f ∈ flds, PySem.W.findIn K (.ref (He.ga K (c : Str))) f = some none
theorem xi_of {c : String} {bt : List Value} {newId : String} {flds : List Str} {K : PySem.W.Frag} (h : xiB c bt newId flds K = true) : XI K c bt newId flds := by
  unfold xiB at h
  simp only [Bool.and_eq_true, decide_eq_true_eq, List.all_eq_true] at h
  exact ⟨xcl_of h.1, h.2.1, h.2.2.1, h.2.2.2⟩
def initIsB (c : Value) (initId : String) (K : PySem.W.Frag) : Bool := match PySem.W.findCls K c (.type "type") "__init__" with
  | some (.val (.builtin n)) => decide (n = initId)
  | _ => false
theorem initIs_of {c : Value} {initId : String} {K : PySem.W.Frag} (h : initIsB c initId K = true) : PySem.W.findCls K c (.type "type") "__init__" = some (.val (.builtin initId)) := by
  unfold initIsB at h
  split at h
  · rename_i n e
    rw [e, of_decide_eq_true h]
  · cases h
def ownBaseB (x : String) (initId : String) (K : PySem.W.Frag) : Bool := decide (PySem.W.specialIn K (.ref (He.ga K (x : Str))) "__getattribute__" = some (some (.builtin "type.__getattribute__"))) && (PySem.W.readsIn K (He.ga K (x : Str)) (.type "type") && initIsB (.ref (He.ga K (x : Str))) initId K)
theorem ownBase_of {x initId : String} {K : PySem.W.Frag} (h : ownBaseB x initId K = true) : PySem.W.specialIn K (.ref (He.ga K (x : Str))) "__getattribute__" = some (some (.builtin "type.__getattribute__")) ∧ PySem.W.readsIn K (He.ga K (x : Str)) (.type "type") = true ∧ PySem.W.findCls K (.ref (He.ga K (x : Str))) (.type "type") "__init__" = some (.val (.builtin initId)) := by
  unfold ownBaseB at h
  simp only [Bool.and_eq_true, decide_eq_true_eq] at h
  exact ⟨h.1, h.2.1, initIs_of h.2.2⟩
abbrev btVE : List Value := [.type "ValueError", .type "Exception", .type "BaseException", .type "object"]
abbrev btIE : List Value := [.type "IndexError", .type "LookupError", .type "Exception", .type "BaseException", .type "object"]
abbrev btZE : List Value := [.type "ZeroDivisionError", .type "ArithmeticError", .type "Exception", .type "BaseException", .type "object"]
theorem xbVE : XB btVE "ValueError" "ValueError.__new__" "ValueError.__init__" := ⟨⟨_, NF.of PySem.F.excBase_ValueError⟩, .of PySem.F.excBase_ValueError, PySem.F.store_ValueError.passes, by decide +kernel, rfl, by decide +kernel⟩
theorem xbIE : XB btIE "IndexError" "IndexError.__new__" "IndexError.__init__" := ⟨⟨_, NF.of PySem.F.excBase_IndexError⟩, .of PySem.F.excBase_IndexError, PySem.F.store_IndexError.passes, by decide +kernel, rfl, by decide +kernel⟩
theorem xbZE : XB btZE "ZeroDivisionError" "ZeroDivisionError.__new__" "ZeroDivisionError.__init__" := ⟨⟨_, NF.of PySem.F.excBase_ZeroDivisionError⟩, .of PySem.F.excBase_ZeroDivisionError, PySem.F.store_ZeroDivisionError.passes, by decide +kernel, rfl, by decide +kernel⟩
theorem tyIE : typeOf (.type "IndexError") = pure (.type "type") := by kernel_rfl
theorem tyZE : typeOf (.type "ZeroDivisionError") = pure (.type "type") := by kernel_rfl
/-- fields found again -/
theorem hlk1 {T : Tb} {c f1 : String} (h : T.cf c = [f1]) : ∀ vs : List V, vs.length = [(f1 : Str)].length → ∃ gs, gs = ([(f1 : Str)].zip vs).reverse ∧ (∀ f ∈ T.cf c, ∃ v, gs.lookup (Str.ofString f) = some v) ∧ (T.cf c).map (fun f : String => (gs.lookup (Str.ofString f)).getD .non) = vs := by
  intro vs hv
  match vs, hv with
  | [v], _ =>
    have e : List.lookup (Str.ofString f1) [((f1 : Str), v)] = some v := by simp [List.lookup]
    refine ⟨_, rfl, fun f hf => ?_, ?_⟩
    · rw [h] at hf
      obtain rfl : f = f1 := by simpa using hf
      exact ⟨v, e⟩
    · rw [h]
      show [(List.lookup (Str.ofString f1) [((f1 : Str), v)]).getD .non] = [v]
      rw [e]
      rfl
theorem hlk2 {T : Tb} {c f1 f2 : String} (h : T.cf c = [f1, f2]) (hne : (Str.ofString f1 == Str.ofString f2) = false) : ∀ vs : List V, vs.length = [(f1 : Str), (f2 : Str)].length → ∃ gs, gs = ([(f1 : Str), (f2 : Str)].zip vs).reverse ∧ (∀ f ∈ T.cf c, ∃ v, gs.lookup (Str.ofString f) = some v) ∧ (T.cf c).map (fun f : String => (gs.lookup (Str.ofString f)).getD .non) = vs := by
  intro vs hv
  match vs, hv with
  | [v, u], _ =>
    have e1 : List.lookup (Str.ofString f1) [((f2 : Str), u), ((f1 : Str), v)] = some v := by
      show (match Str.ofString f1 == Str.ofString f2 with | true => some u | false => List.lookup (Str.ofString f1) [((f1 : Str), v)]) = some v
      rw [hne]
      simp [List.lookup]
    have e2 : List.lookup (Str.ofString f2) [((f2 : Str), u), ((f1 : Str), v)] = some u := by simp [List.lookup]
    refine ⟨_, rfl, fun f hf => ?_, ?_⟩
    · rw [h] at hf
      rcases List.mem_cons.mp hf with rfl | hf
      · exact ⟨v, e1⟩
      · obtain rfl : f = f2 := by simpa using hf
        exact ⟨u, e2⟩
    · rw [h]
      show [(List.lookup (Str.ofString f1) [((f2 : Str), u), ((f1 : Str), v)]).getD .non, (List.lookup (Str.ofString f2) [((f2 : Str), u), ((f1 : Str), v)]).getD .non] = [v, u]
      rw [e1, e2]
      rfl
end Ro
end
section
set_option Elab.async false
set_option linter.all false
set_option maxRecDepth 100000
set_option maxHeartbeats 4000000
namespace Ro
open PySem PySem.Spec PyProof.Rows L2 PySem.RoXb
/-- as many as asked -/
def aChk (n : Nat) (fa : AX) : AX := fun env S => (fa env S).bnd fun ds S1 => if ds.length = n ∧ ds.length ≤ 1000 then .ok ds S1 else .bad
section
variable {X : Cx} {T : Tb} {E : XK} {e : Expr} {es : List Expr} {p pos : Pos} {k : Nat} {d : He.DefD} {ps : List Str} {c : String} {flds : List Str} {bt : List Value} {B newId initId : String}
theorem is_raiseF {n : Nat} {fa : AX} {pos' : Pos} (hK : X.K = T.K) (hc : X.calm = true) (tk : L2N.Takes X fun c d _ H => E c d H) (F : InitOk T X.prog X.w X.mg X.base k d ps c flds bt B newId initId) (hat : d.at_ = ((c : Str), some ("__init__" : Str))) (XI' : XI T.K c bt newId flds)
    (hr : RG (k + 1) X.A) (hb : ∀ fd, FunD T.K d.name d.qual d.params d.body d.scope (d.dvs T.K) [] (He.fAd T.K d.at_) fd → L2.Binds T.K fd ps []) (hps : ps.length = flds.length + 1) (hg : Gl X (c : Str)) (hm : X.mg (c : Str) = some (.ref (He.ga T.K (c : Str)))) (ha : IA T E X (e :: es) fa)
    (hlk : ∀ vs : List V, vs.length = flds.length → ∃ gs, gs = (flds.zip vs).reverse ∧ (∀ f ∈ T.cf c, ∃ v, gs.lookup (Str.ofString f) = some v) ∧ (T.cf c).map (fun f : String => (gs.lookup (Str.ofString f)).getD .non) = vs)
    (hdb : ((c : Str) == ("__debug__" : Str)) = false := by decide +kernel) (he : starEach (e :: es) X.env = (false, eval e X.env) :: starEach es X.env := by rfl) (hpl : (backTo pos (starEach es X.env)).any (·.1) = false := by rfl) (hn : flds.length = n := by rfl) :
    IS T E X (.Raise (some (.Call (.Name (c : Str) p) (e :: es) [] pos)) none pos') (sRaise c (aChk n fa)) := by
  subst hn
  exact is_raiseI hK hc tk takes0N F (by rw [hat]; exact XI'.ini) (by rw [hat]; exact XI'.fn) hr hb hps hg hm ha hlk hdb he hpl
end
end Ro
end
section
set_option Elab.async false
set_option linter.all false
set_option maxRecDepth 100000
set_option maxHeartbeats 4000000
namespace Ro
open PySem PySem.Spec PyProof.Rows L2
section
variable {X : Cx} {T : Tb} {E : XK} {a b : Expr} {f g : EX} {pos : Pos}
def seeD (d : D) (S : Store) : D := match d with
  | .ref n => match S[n]? with
    | some (.lst l) => .lst l
    | _ => d
  | _ => d
def eOpS (op : D → D → Option D) (f g : EX) : EX := fun env S => (f env S).bnd fun x S1 => (g env S1).bnd fun y S2 => lift (op (seeD x S2) (seeD y S2)) S2
def rOpS (T : Tb) (op : D → D → Option D) : R2 := fun x y H Q => ∃ w d e r S, WR T w S H ∧ Rep T w d x ∧ Rep T w e y ∧ op (seeD d S) (seeD e S) = some r ∧ ∀ w' H' z, w.le w' → WR T w' S H' → Rep T w' r z → Q z H'
theorem rOpS_of {op : D → D → Option D} {w : Wd} {d e : D} {S : Store} {x y : V} {H : Hp} {Q : VK} (r : WR T w S H) (p : Rep T w d x) (q : Rep T w e y) (h : RP (lift (op (seeD d S) (seeD e S)) S) (fun d S' => ∀ w' H' v, w.le w' → WR T w' S' H' → Rep T w' d v → Q v H') (XW T w E)) : rOpS T op x y H Q := by
  cases z : op (seeD d S) (seeD e S) with
  | none => rw [z] at h; exact h.elim
  | some k => rw [z] at h; exact ⟨w, d, e, k, S, r, p, q, z, fun w' H' v l r' p' => h w' H' v l r' p'⟩
theorem ib_cmpS {o : CmpOp} {op : D → D → Option D} (ho : OpR X (compareOp o) (rOpS T op)) (ha : IE T E X a f) (hb : IE T E X b g) (hm : behindInMarks o b = false) : IB T E X (.Compare a [o] [b] pos) (bVal (eOpS op f g)) :=
  PT.mono (pt_cmpR ho ha hb hm) fun σ H Q q => by
    have q2 := tI_two (k := fun x y S => lift (op (seeD x S) (seeD y S)) S) (tI_bVal q)
    obtain ⟨w, env, S, r, e, h⟩ := q2
    refine ⟨w, env, S, r, e, h.mono (fun d S1 h1 w1 H1 x l1 r1 p1 => ?_) fun _ _ _ x => x⟩
    obtain ⟨w2, env2, S2, r2, e2, h2⟩ := h1 w1 H1 x l1 r1 p1
    refine ⟨w2, env2, S2, r2, e2, h2.mono (fun d S1 h1 w1 H1 x l1 r1 p1 => ?_) fun _ _ _ x => x⟩
    obtain ⟨w3, d3, e3, S3, r3, p3, q3, h3⟩ := h1 w1 H1 x l1 r1 p1
    exact rOpS_of r3 p3 q3 h3
theorem dp_see {w : Wd} {S : Store} {H : Hp} (r : WR T w S H) {d : D} {x : V} (h : plN 8 (seeD d S) = true) (q : Rep T w d x) : Dp T.K H x (toPy (seeD d S)) := by
  cases d with
  | ref n =>
    cases q with
    | ref hn =>
    unfold seeD at h ⊢
    dsimp only at h ⊢
    cases z : S[n]? with
    | none => rw [z] at h; simp [plN] at h
    | some c =>
      rw [z] at h
      cases c with
      | lst l =>
        obtain ⟨vs, h1, h2⟩ := r.cell n _ _ z hn
        exact .lst (.inl (.inl h1)) (dpAll_of r 7 l vs h h2)
      | _ => simp [plN] at h
  | _ => exact dp_of r 8 _ x h q
theorem os_neP (hK : X.K = T.K) (hu : X.A.units + 64 < cLine) : OpR X (compareOp .NotEq) (rOpS T neD) := fun pins s σ H x y v u Q I rx ry q => by
  obtain ⟨w, d, e, r, S, h1, h2, h3, h4, h5⟩ := q
  unfold neD at h4
  split at h4
  · rename_i hp
    cases h4
    obtain ⟨p1, p2⟩ := Bool.and_eq_true_iff.mp hp
    obtain ⟨as, r1⟩ := Dp.reads I _ x v (by rw [hK]; exact dp_see h1 p1 h2) rx
    obtain ⟨bs, r2⟩ := Dp.reads I _ y u (by rw [hK]; exact dp_see h1 p2 h3) ry
    obtain ⟨k1, k2⟩ := toPy_ok 8 _ p1
    obtain ⟨k3, k4⟩ := toPy_ok 8 _ p2
    refine SeqAt.ne_plain r1 r2 k1 k3 (by omega) ⟨.bl _, H, I, rfl, ?_⟩
    rw [eqv_py 8 _ _ p1 p2]
    exact h5 w H _ (Wd.le.refl _) h1 (.bl _)
  · cases h4
end
end Ro
end
section
set_option Elab.async false
set_option linter.all false
set_option maxRecDepth 100000
set_option maxHeartbeats 4000000
namespace Ro
open PySem PySem.Spec PyProof.Rows L2
variable {T : Tb} {E : XK} {X : Cx} {a b : Expr} {f g : EX} {pos : Pos}
def BOkS (T : Tb) (r : List V → Hp → VK → Prop) (m : List D → Option D) : Prop :=
  ∀ w S xs vs H d Q, WR T w S H → Reps T w xs vs → m (xs.map fun x => seeD x S) = some d → (∀ w' H' v, w.le w' → WR T w' S H' → Rep T w' d v → Q v H') → r vs H Q
def eBS (m : List D → Option D) (fa : AX) : EX := fun env S => (fa env S).bnd fun xs S1 => lift (m (xs.map fun x => seeD x S1)) S1
theorem tI_bS {r : List V → Hp → VK → Prop} {m : List D → Option D} {fa : AX} (h : BOkS T r m) {σ : L2.St} {H : Hp} {Q : VK} (q : tI T E (eBS m fa) σ H Q) : tCB r (tIa T E fa) σ H Q := by
  obtain ⟨w, env, S, r0, e, q⟩ := q
  refine ⟨w, env, S, r0, e, (RP.bnd q).mono (fun xs S1 h1 w1 H1 vs l1 r1 p1 => ?_) fun _ _ _ x => x⟩
  cases z : m (xs.map fun x => seeD x S1) with
  | none => rw [z] at h1; exact (show False from h1).elim
  | some d =>
    rw [z] at h1
    exact h w1 S1 xs vs H1 d Q r1 p1 z fun w' H' v l => h1 w' H' v (l1.trans l)
theorem ie_bS {es : List Expr} {fa : AX} {x : Str} {p : Pos} {id : String} {r : List V → Hp → VK → Prop} {m : List D → Option D} (hc : CallR X (.builtin id) r) (hm : BOkS T r m) (hg : Gl X x) (hn : X.mg x = none) (hv : bootBuiltins x = some (.builtin id)) (ha : IA T E X (a :: es) fa) (hx : x ≠ "__name__" := by decide +kernel) (hdb : (x == ("__debug__" : Str)) = false := by decide +kernel)
    (he : starEach (a :: es) X.env = (false, eval a X.env) :: starEach es X.env := by rfl) (hpl : (backTo pos (starEach es X.env)).any (·.1) = false := by rfl) : IE T E X (.Call (.Name x p) (a :: es) [] pos) (eBS m fa) :=
  PE.mono (pe_callB hc hg hn hv ha hx hdb he hpl) fun σ H Q q => tI_bS hm q
end Ro
end
section
set_option Elab.async false
set_option linter.all false
set_option maxRecDepth 100000
set_option maxHeartbeats 4000000
namespace Ro
open PySem PySem.Spec PyProof.Rows L2
variable {T : Tb} {E : XK} {X : Cx} {a b : Expr} {f g : EX} {pos : Pos}
def frzL (d : D) (S : Store) : R D := match d with
  | .ref n => (match S[n]? with
    | some (.lst l) => .ok (.lst l) (S.set n .dead)
    | _ => .bad)
  | d => .ok d S
def eFrzL (f : EX) : EX := fun env S => (f env S).bnd frzL
theorem ie_frzL (ha : IE T E X a f) : IE T E X a (eFrzL f) :=
  PE.mono ha fun σ H Q ⟨w, env, S, r, e, q⟩ => ⟨w, env, S, r, e, (RP.bnd q).mono (fun d S1 h1 w1 H1 x l1 r1 p1 => by
    unfold frzL at h1
    split at h1
    · rename_i n
      split at h1
      · rename_i l hn
        cases p1 with
        | ref ha =>
          obtain ⟨vs, k1, k2⟩ := r1.cell n _ _ hn ha
          obtain ⟨l2, r2⟩ := r1.freeze hn ha (by simp) k1
          exact h1 _ _ _ (l1.trans l2) r2 (.lst upd_same (k2.mono l2))
      · exact (show False from h1).elim
    · exact h1 w1 H1 x l1 r1 p1) fun _ _ _ x => x⟩
def catS (x y : D) (S : Store) : Option (List D) := match seeD x S, seeD y S with
  | .lst l, .lst m => if l.length + m.length ≤ LINE then some (l ++ m) else none
  | _, _ => none
/-- the new list stands still -/
def eAddS (f g : EX) : EX := fun env S => (f env S).bnd fun x S1 => (g env S1).bnd fun y S2 => match catS x y S2 with
  | some k => .ok (.lst k) S2
  | none => .bad
/-- the new list will be changed -/
def eAddM (f g : EX) : EX := fun env S => (f env S).bnd fun x S1 => (g env S1).bnd fun y S2 => match catS x y S2 with
  | some k => .ok (.ref S2.length) (S2 ++ [.lst k])
  | none => .bad
end Ro
end
section
set_option Elab.async false
set_option linter.all false
set_option maxRecDepth 100000
set_option maxHeartbeats 4000000
namespace Ro
open PySem PySem.Spec PyProof.Rows L2
abbrev tfL (L : Lw) : List He.Defn := L.tf.map (·.1)
def asE (g : Addr → Option Obj) (n : Nat) : List Addr := cStatics :: He.asD g n
def obN (n : Nat) (L : Lw) (ts : List He.Tab) (g : Addr → Option Obj) : He.AlX := (He.obsT [] L.defs ts (He.frT g (asE g n)), L.ok (He.frT g (asE g n)) && He.tabsB g (tfL L) (He.frT g (asE g n)))
theorem saysN_of {n : Nat} {L : Lw} {ts : List He.Tab} {w : World} {h : Heap} (e : obN n L ts h.get? = He.valX L.defs ts w) : He.SaysX [] L.defs ts (tfL L) L.ok w h (He.frT h.get? (asE h.get? n)) := by
  have e1 : He.obsT [] L.defs ts (He.frT h.get? (asE h.get? n)) = He.valT L.defs ts w := congrArg (fun z : He.AlX => z.1) e
  have e2 : (L.ok (He.frT h.get? (asE h.get? n)) && He.tabsB h.get? (tfL L) (He.frT h.get? (asE h.get? n))) = true := congrArg (fun z : He.AlX => z.2) e
  obtain ⟨h1, h2⟩ := He.ba e2
  have key : ∀ p ∈ tfL L, PySem.W.codeHdIn (He.frT h.get? (asE h.get? n)) (He.cT (He.frT h.get? (asE h.get? n)) p).1 (He.cT (He.frT h.get? (asE h.get? n)) p).2 = true ∧ ∃ o, h.get? (He.cT (He.frT h.get? (asE h.get? n)) p).2 = some o ∧ He.emptyTab o = true := fun p hp => by
    obtain ⟨h3, h4⟩ := He.ba (List.all_eq_true.mp h2 p hp)
    refine ⟨h3, ?_⟩
    cases q : h.get? (He.cT (He.frT h.get? (asE h.get? n)) p).2 with
    | none =>
      rw [q] at h4
      cases h4
    | some o =>
      rw [q] at h4
      exact ⟨o, rfl, h4⟩
  exact ⟨e1, h1, fun p hp => (key p hp).1, fun p hp => by
    obtain ⟨_, o, q, z⟩ := key p hp
    exact He.frT_none q z, fun p hp => by
    obtain ⟨_, o, q, z⟩ := key p hp
    rw [q, He.emptyTab_eq z]⟩
def hookN (n : Nat) (L : Lw) (ts : List He.Tab) : PySem.W.Hook where
  α := He.AlX
  obs := fun s => obN n L ts s.heap.get?
  val := fun w => He.valX L.defs ts w
  says := fun w h => ∃ K : PySem.W.Frag, K.In h ∧ He.SaysX [] L.defs ts (tfL L) L.ok w h K
  of := fun _ _ e => ⟨_, He.frT_in, saysN_of e⟩
  keeps := fun _ _ _ ⟨K, hK, c⟩ k => ⟨K, PySem.W.Frag.In.keeps hK k, ⟨c.t, c.more, c.hd, c.out, fun p hp => k _ _ (c.empty p hp)⟩⟩
theorem obN_eq {n : Nat} {L : Lw} {ts : List He.Tab} {g : Addr → Option Obj} {s : Shared} (h : ∀ a, g a = s.heap.get? a) : obN n L ts g = (hookN n L ts).obs s := by
  have e : g = s.heap.get? := funext h
  rw [e]
  rfl
end Ro
end
section
set_option Elab.async false
set_option linter.all false
set_option maxRecDepth 100000
set_option maxHeartbeats 4000000
namespace Ro
open PySem PySem.Spec PyProof.Rows L2
section
variable {prog : Program} {w : World} {A : Around} {E : Value → Shared → Prop} {s : Shared} {K : PySem.W.Frag} {x C L f : Addr} {h₀ : Heap} {m : Str → Option Value} {ox : Obj} {od : Option Obj} {b tb : Value}
theorem ifBound_B {M : Model} {name : Str} {id : String} {args : List Value} {Q : Option Value → Shared → Prop} (X : K.In s.heap) (I : PySem.W.InstAt s.heap x ox C od) (hs : PySem.W.findIn K (.ref C) name = some (some (.builtin id)))
    (hb : ∀ self, bindSpecial (.builtin id) self = pure (.builtin id, [self])) (h : wpAny M A (call (.builtin id) (.ref x :: args)) (fun v => Q (some v)) E s) : wpAny M A (callSpecialIfBound? (.ref x) name args) Q E s := by
  simp only [callSpecialIfBound?, bindSpecialIfBound?]
  refine wpAny_holding (wpAny_bind (wpAny_bind (wpAny_bind (I.type.here ((PySem.W.looks_findIn X hs).here ?_)))))
  refine wpAny_bind (wpAny_askSetting (wpAny_ite ?_))
  have fin : wpAny M A (call (.builtin id) ([.ref x] ++ args) >>= fun v => pure (some v)) Q E s := wpAny_bind (wpAny_mono h (fun v s' h' => wpAny_pure h') fun _ _ h' => h')
  split
  · exact wpAny_bind ((PySem.W.Looks.of_pure (hb _)).here (wpAny_pure (by exact fin)))
  · exact wpAny_tryCatch (wpAny_bind ((PySem.W.Looks.of_pure (hb _)).here (wpAny_pure (by exact fin))))
open Builtin in
theorem objNe_K {Q : Value → Shared → Prop} (hu : A.in1.units < cLine) (X : K.In s.heap) (I : PySem.W.InstAt s.heap x ox C od) (hm : PySem.W.mroIn K C (.type "object") = some true) (he : PySem.W.findIn K (.ref C) "__eq__" = some (some (.ref f))) (hf : PySem.W.isFn K (.ref f) = true)
    (h : wpAny (model prog w) A.in1 (call (.ref f) [.ref x, b]) (fun v s' => ∃ c, v = .bool c ∧ Q (.bool (!c)) s') E s) : wpAny (model prog w) A (call (.builtin "object.__ne__") [.ref x, b]) Q E s := by
  refine wpAny_call (codeAny_call_builtin (by decide +kernel) F.cmpEntry_ne (PySem.W.check_slot (i := "object.__ne__") (owner := "object") (n := "__ne__") F.cmpKind_ne F.cmpSplit_ne (I.type.andThen (PySem.W.looks_mroIn X hm)) (F.cmpArgs_ne _ _) ?_))
  unfold Builtin.«object.__ne__»
  refine wpAny_bind (m := slotArgs "__ne__" 1 _) (wpAny_pure ?_)
  refine wpAny_bind (m := cRoomFor _ _) (wpAny_cRoomFor hu ?_)
  refine wpAny_bind (m := callSpecialIfBound? (.ref x) (Str.ofString "__eq__") [b]) (PySem.W.ifBound_K X I he hf (wpAny_mono h (fun r s' hr => ?_) fun _ _ e => e))
  obtain ⟨c, rfl, hq⟩ := hr
  refine wpAny_bind (m := truthy (.bool c)) (wpAny_truthy_bool ?_)
  exact wpAny_pure hq
theorem cmpNe_K {Q : Value → Shared → Prop} (hu : A.in1.units + 1 < cLine) (F : Fr h₀ L s.heap m) (X₀ : K.In h₀) (I : PySem.W.InstAt s.heap x ox C od) (hb : PySem.W.Looks (model prog w) s.heap (typeOf b) tb) (hn : PySem.W.notFirst K C tb = true)
    (hs : PySem.W.findIn K (.ref C) "__ne__" = some (some (.builtin "object.__ne__"))) (hm : PySem.W.mroIn K C (.type "object") = some true) (he : PySem.W.findIn K (.ref C) "__eq__" = some (some (.ref f))) (hf : PySem.W.isFn K (.ref f) = true)
    (hbd : ∀ self, bindSpecial (.builtin "object.__ne__") self = pure (.builtin "object.__ne__", [self]))
    (h : wpAny (model prog w) A.in1 (call (.ref f) [.ref x, b]) (fun v s' => ∃ c, v = .bool c ∧ Q (.bool (!c)) s') E s) : wpAny (model prog w) A (richCompare .NotEq (.ref x) b) Q E s := by
  have hu0 : A.units < cLine := by
    have : A.in1.units = A.units + 1 := rfl
    omega
  have X := X₀.keeps F.keep
  have one : wpAny (model prog w) A (tryCompare (.ref x) (cmpInfo .NotEq).2.1 b) (fun r s' => ∃ v, r = some v ∧ Q v s') E s := by
    unfold tryCompare
    refine wpAny_bind (ifBound_B X I hs hbd (objNe_K (by omega) X I hm he hf (wpAny_mono h (fun v s' hv => ?_) fun _ _ e => e)))
    obtain ⟨c, rfl, hq⟩ := hv
    exact ⟨c, rfl, wpAny_pure ⟨_, rfl, hq⟩⟩
  unfold richCompare
  simp only [oneThing_ref]
  refine wpAny_holding (wpAny_bind (wpAny_cRoomFor hu0 ?_))
  refine wpAny_bind (I.type.here (wpAny_bind (hb.here ?_)))
  split
  · rename_i q
    have e : PySem.W.subIn K tb (.ref C) = some false := by
      rcases Bool.or_eq_true_iff.mp hn with e | e
      · rw [beq_iff_eq.mp e] at q; simp at q
      · exact beq_iff_eq.mp e
    refine wpAny_bind ((PySem.W.looks_subIn X e).here ?_)
    simp only [Bool.false_eq_true, if_false]
    refine wpAny_bind (wpAny_mono one (fun r s' z => ?_) fun _ _ e => e)
    obtain ⟨v, rfl, hq⟩ := z
    exact wpAny_pure hq
  · refine wpAny_bind (wpAny_pure ?_)
    simp only [Bool.false_eq_true, if_false]
    refine wpAny_bind (wpAny_mono one (fun r s' z => ?_) fun _ _ e => e)
    obtain ⟨v, rfl, hq⟩ := z
    exact wpAny_pure hq
end
section
variable {T : Tb} {E : XK} {X : Cx} {a b : Expr} {f g : EX} {pos : Pos}
/-- the mirror -/
def eqM (cn : String) (m : Fn) (op : Bool → Bool) (x y : D) (S : Store) : R D := match x, y with
  | .obj c l, .obj c' l' => if c = cn ∧ c' = cn then (match m [.obj c l, .obj c' l'] S with
    | .ok (.bl b) S2 => .ok (.bl (op b)) S2
    | _ => .bad) else .bad
  | _, _ => .bad
def eEqO (cn : String) (m : Fn) (op : Bool → Bool) (f g : EX) : EX := fun env S => (f env S).bnd fun x S1 => (g env S1).bnd fun y S2 => eqM cn m op x y S2
end
end Ro
end
section
set_option Elab.async false
set_option linter.all false
set_option maxRecDepth 100000
set_option maxHeartbeats 4000000
namespace Ro
open PySem PySem.Spec PyProof.Rows L2
variable {T : Tb} {E : XK} {X : Cx} {a b c : Expr} {fa : AX}
def seqL : D → Option (List D)
  | .lst l => some l
  | .tup l => some l
  | _ => none
def zip3L : List D → List D → List D → List D
  | x :: l, y :: m, z :: n => .tup [x, y, z] :: zip3L l m n
  | _, _, _ => []
def itZipM2 (fa : AX) : AX := fun env S => (fa env S).bnd fun ds S1 => match ds with
  | [x, y] => (match seqL x, seqL y with
    | some l, some m => .ok (zipL l m) S1
    | _, _ => .bad)
  | _ => .bad
def itZipM3 (fa : AX) : AX := fun env S => (fa env S).bnd fun ds S1 => match ds with
  | [x, y, z] => (match seqL x, seqL y, seqL z with
    | some l, some m, some n => .ok (zip3L l m n) S1
    | _, _, _ => .bad)
  | _ => .bad
@[simp] theorem u_itZipM2 (fa : AX) {env : Env} {S : Store} : itZipM2 fa env S = (fa env S).bnd fun ds S1 => match ds with
  | [x, y] => (match seqL x, seqL y with
    | some l, some m => .ok (zipL l m) S1
    | _, _ => .bad)
  | _ => .bad := rfl
@[simp] theorem u_itZipM3 (fa : AX) {env : Env} {S : Store} : itZipM3 fa env S = (fa env S).bnd fun ds S1 => match ds with
  | [x, y, z] => (match seqL x, seqL y, seqL z with
    | some l, some m, some n => .ok (zip3L l m n) S1
    | _, _, _ => .bad)
  | _ => .bad := rfl
@[simp] theorem seqL_lst (l : List D) : seqL (.lst l) = some l := rfl
@[simp] theorem seqL_tup (l : List D) : seqL (.tup l) = some l := rfl
end Ro
end
section
set_option Elab.async false
set_option linter.all false
set_option maxRecDepth 100000
set_option maxHeartbeats 4000000
namespace Ro
open PySem PySem.Spec PyProof.Rows L2
variable {T : Tb} {E : XK} {X : Cx} {a b : Expr} {f g : EX} {pos : Pos}
def lenM (cn : String) (m : Fn) (x : D) (S1 : Store) : R D := match x with
  | .obj c l => if c = cn then (match m [.obj c l] S1 with
    | .ok (.int n) S2 => if 0 ≤ n ∧ n < 1000000000 then .ok (.int n) S2 else .bad
    | _ => .bad) else .bad
  | _ => .bad
def eLenO (cn : String) (m : Fn) (f : EX) : EX := fun env S => (f env S).bnd (lenM cn m)
end Ro
end
section
set_option Elab.async false
set_option linter.all false
set_option maxRecDepth 100000
set_option maxHeartbeats 4000000
namespace GQ
open PySem PySem.SeqAt
open AutoSeq1 (wpAny_loadPart')
open MeetsSeq MeetsSeq2 MeetsSeq3 SeqRoads2
section
variable {prog : Program} {w : World} {A : Around} {R : Result → Shared → Prop} {E : Value → Shared → Prop}
/-- two lists of N items lie there -/
def TwoL (l b : Addr) (N : Nat) (s : Shared) (items items2 : Array Value) : Prop := ∃ n n2 : Nat, s.heap.get? l = some { cls := .type "list", data := .seq items n } ∧ s.heap.get? b = some { cls := .type "list", data := .seq items2 n2 } ∧ items.size = N ∧ items2.size = N
def ListJ (prog : Program) (w : World) (A : Around) (E : Value → Shared → Prop) (l b : Addr) (N : Nat) (I : Nat → Shared → Prop) (Fl : Shared → Prop) : Prop :=
  ∀ i s, I i s → ∃ (items items2 : Array Value), TwoL l b N s items items2 ∧
    ∀ (h1 : i < items.size) (h2 : i < items2.size), wpAny (model prog w) A.in1 (eqBool items[i] items2[i]) (fun r s' => (r = true ∧ I (i + 1) s') ∨ (r = false ∧ Fl s' ∧ ∃ xs ys, TwoL l b N s' xs ys)) E s
theorem eq_loopJ (l b : Addr) (N : Nat) (I : Nat → Shared → Prop) (Fl : Shared → Prop) (hl : ListJ prog w A (fun e s' => R (.error e) s') l b N I Fl)
    (fin : ∀ s, I N s → R (.ok (.ret (.bool true))) s) (finF : ∀ s, Fl s → R (.ok (.ret (.bool false))) s) (k : Nat) :
    ∀ i : Nat, N - i = k → i ≤ N → ∀ s, I i s →
      wpAny (model prog w) A.in1 (Builtin.«list.__eq__.loop» ⟨[.ref l, .ref b, rawInt i, rawInt 2], []⟩) (FinOf prog w A R) (fun e s' => R (.error e) s') s := by
  induction k with
  | zero =>
    intro i hk hi s h
    obtain ⟨items, items2, ⟨n, n2, hl1, hb1, hs1, hs2⟩, _⟩ := hl _ _ h
    have hi' : i = N := by omega
    have hR : R (.ok (.ret (.bool true))) s := fin s (hi' ▸ h)
    obtain ⟨hp, g, d, tk, os⟩ := s
    wp_walk using wpAny_loadPart' hl1, wpAny_loadPart' hb1
    have hi1 : items[((i : Nat) : Int).toNat]? = none := by simp; omega
    have hi2 : items2[((i : Nat) : Int).toNat]? = none := by simp; omega
    rw [hi1, hi2]
    wp_walk using wpAny_loadPart' hl1, wpAny_loadPart' hb1
    show R (.ok (.ret (.bool (items.size == items2.size)))) _
    rw [hs1, hs2]
    simpa using hR
  | succ k ih =>
    intro i hk hi s h
    obtain ⟨items, items2, ⟨n, n2, hl1, hb1, hs1, hs2⟩, turn⟩ := hl _ _ h
    have hlt : i < items.size := by omega
    have hlt2 : i < items2.size := by omega
    have ht := turn hlt hlt2
    obtain ⟨hp, g, d, tk, os⟩ := s
    wp_walk using wpAny_loadPart' hl1, wpAny_loadPart' hb1
    have hi1 : items[((i : Nat) : Int).toNat]? = some items[i] := by simp [hlt]
    have hi2 : items2[((i : Nat) : Int).toNat]? = some items2[i] := by simp [hlt2]
    have hc : ((i : Int) + 1) = ((i + 1 : Nat) : Int) := by omega
    rw [hi1, hi2]
    refine wpAny_bind (wpAny_mono ht (fun r s2 h2 => ?_) fun _ _ x => x)
    rcases h2 with ⟨hr, h2⟩ | ⟨hr, hF, xs, ys, m, m2, hl2, hb2, hs3, hs4⟩
    · subst hr
      have hrec := ih (i + 1) (by omega) (by omega) s2 h2
      obtain ⟨hp2, g2, d2, tk2, os2⟩ := s2
      wp_walk
      rw [hc]
      exact ⟨plainId_quiet plain_eq_loop _, codeAny_builtin entry_eq_loop (by
        rw [Around.under_plainId plain_eq_loop _]
        exact hrec)⟩
    · subst hr
      have hR : R (.ok (.ret (.bool false))) s2 := finF s2 hF
      obtain ⟨hp2, g2, d2, tk2, os2⟩ := s2
      have hj : i < xs.size := by omega
      have hj2 : i < ys.size := by omega
      have hi3 : xs[((i : Nat) : Int).toNat]? = some xs[i] := by simp [hj]
      have hi4 : ys[((i : Nat) : Int).toNat]? = some ys[i] := by simp [hj2]
      wp_walk using wpAny_loadPart' hl2, wpAny_loadPart' hb2
      rw [hi3, hi4]
      wp_walk
      exact hR
theorem list_eqJ (l b : Addr) (N : Nat) (I : Nat → Shared → Prop) (Fl : Shared → Prop) (hl : ListJ prog w A (fun e s' => R (.error e) s') l b N I Fl)
    (fin : ∀ s, I N s → R (.ok (.ret (.bool true))) s) (finF : ∀ s, Fl s → R (.ok (.ret (.bool false))) s) {s : Shared} (h : I 0 s) :
    wpAny (model prog w) A.in1 (Builtin.«list.__eq__» ⟨[.ref l, .ref b], []⟩) (FinOf prog w A R) (fun e s' => R (.error e) s') s := by
  obtain ⟨items, items2, ⟨n, n2, hl1, hb1, hs1, hs2⟩, _⟩ := hl _ _ h
  have hrec := eq_loopJ (A := A) (R := R) l b N I Fl hl fin finF _ 0 rfl (Nat.zero_le _) s h
  obtain ⟨hp, g, d, tk, os⟩ := s
  have f3 := AutoSeq1.sub_list_list
  have hne : ¬ (items.size != items2.size) = true := by simp [hs1, hs2]
  wp_walk using wpAny_loadPart' hl1, wpAny_loadPart' hb1
  exact ⟨plainId_quiet plain_eq_loop _, codeAny_builtin entry_eq_loop (by
    rw [Around.under_plainId plain_eq_loop _]
    exact hrec)⟩
theorem rc_list_eqJ {l b : Addr} {N : Nat} {Q : Value → Shared → Prop} {s : Shared} (hu : A.units < cLine) (I : Nat → Shared → Prop) (Fl : Shared → Prop) (hl : ListJ prog w A E l b N I Fl)
    (fin : ∀ s, I N s → Q (.bool true) s) (finF : ∀ s, Fl s → Q (.bool false) s) (h : I 0 s) : wpAny (model prog w) A (richCompare .Eq (.ref l) (.ref b)) Q E s := by
  obtain ⟨items, items2, ⟨n, n2, hl1, hb1, _, _⟩, _⟩ := hl _ _ h
  refine wpAny_richCompare_same_room (op := .Eq) ⟨_, hl1, rfl⟩ ⟨_, hb1, rfl⟩ F.slot_list_eq (call_here F.slot_list_eq ⟨_, hl1, rfl⟩ F.entry_list_eq (F.args_list_eq_2 _ _) ?_) hu
  exact list_eqJ (R := wants (fun v s' => v ≠ .notImplemented ∧ Q v s') E) l b N I Fl hl (fun s' q => ⟨(fun x => nomatch x), fin s' q⟩) (fun s' q => ⟨(fun x => nomatch x), finF s' q⟩) h
theorem ne_loopJ (l b : Addr) (N : Nat) (I : Nat → Shared → Prop) (Fl : Shared → Prop) (hl : ListJ prog w A (fun e s' => R (.error e) s') l b N I Fl)
    (fin : ∀ s, I N s → R (.ok (.ret (.bool false))) s) (finF : ∀ s, Fl s → R (.ok (.ret (.bool true))) s) (k : Nat) :
    ∀ i : Nat, N - i = k → i ≤ N → ∀ s, I i s →
      wpAny (model prog w) A.in1 (Builtin.«list.__eq__.loop» ⟨[.ref l, .ref b, rawInt i, rawInt 3], []⟩) (FinOf prog w A R) (fun e s' => R (.error e) s') s := by
  induction k with
  | zero =>
    intro i hk hi s h
    obtain ⟨items, items2, ⟨n, n2, hl1, hb1, hs1, hs2⟩, _⟩ := hl _ _ h
    have hi' : i = N := by omega
    have hR : R (.ok (.ret (.bool false))) s := fin s (hi' ▸ h)
    obtain ⟨hp, g, d, tk, os⟩ := s
    wp_walk using wpAny_loadPart' hl1, wpAny_loadPart' hb1
    have hi1 : items[((i : Nat) : Int).toNat]? = none := by simp; omega
    have hi2 : items2[((i : Nat) : Int).toNat]? = none := by simp; omega
    rw [hi1, hi2]
    wp_walk using wpAny_loadPart' hl1, wpAny_loadPart' hb1
    show R (.ok (.ret (.bool (items.size != items2.size)))) _
    rw [hs1, hs2]
    simpa using hR
  | succ k ih =>
    intro i hk hi s h
    obtain ⟨items, items2, ⟨n, n2, hl1, hb1, hs1, hs2⟩, turn⟩ := hl _ _ h
    have hlt : i < items.size := by omega
    have hlt2 : i < items2.size := by omega
    have ht := turn hlt hlt2
    obtain ⟨hp, g, d, tk, os⟩ := s
    wp_walk using wpAny_loadPart' hl1, wpAny_loadPart' hb1
    have hi1 : items[((i : Nat) : Int).toNat]? = some items[i] := by simp [hlt]
    have hi2 : items2[((i : Nat) : Int).toNat]? = some items2[i] := by simp [hlt2]
    have hc : ((i : Int) + 1) = ((i + 1 : Nat) : Int) := by omega
    rw [hi1, hi2]
    refine wpAny_bind (wpAny_mono ht (fun r s2 h2 => ?_) fun _ _ x => x)
    rcases h2 with ⟨hr, h2⟩ | ⟨hr, hF, xs, ys, m, m2, hl2, hb2, hs3, hs4⟩
    · subst hr
      have hrec := ih (i + 1) (by omega) (by omega) s2 h2
      obtain ⟨hp2, g2, d2, tk2, os2⟩ := s2
      wp_walk
      rw [hc]
      exact ⟨plainId_quiet plain_eq_loop _, codeAny_builtin entry_eq_loop (by
        rw [Around.under_plainId plain_eq_loop _]
        exact hrec)⟩
    · subst hr
      have hR : R (.ok (.ret (.bool true))) s2 := finF s2 hF
      obtain ⟨hp2, g2, d2, tk2, os2⟩ := s2
      have hj : i < xs.size := by omega
      have hj2 : i < ys.size := by omega
      have hi3 : xs[((i : Nat) : Int).toNat]? = some xs[i] := by simp [hj]
      have hi4 : ys[((i : Nat) : Int).toNat]? = some ys[i] := by simp [hj2]
      wp_walk using wpAny_loadPart' hl2, wpAny_loadPart' hb2
      rw [hi3, hi4]
      wp_walk
      exact hR
theorem list_neJ (l b : Addr) (N : Nat) (I : Nat → Shared → Prop) (Fl : Shared → Prop) (hl : ListJ prog w A (fun e s' => R (.error e) s') l b N I Fl)
    (fin : ∀ s, I N s → R (.ok (.ret (.bool false))) s) (finF : ∀ s, Fl s → R (.ok (.ret (.bool true))) s) {s : Shared} (h : I 0 s) :
    wpAny (model prog w) A.in1 (Builtin.«list.__ne__» ⟨[.ref l, .ref b], []⟩) (FinOf prog w A R) (fun e s' => R (.error e) s') s := by
  obtain ⟨items, items2, ⟨n, n2, hl1, hb1, hs1, hs2⟩, _⟩ := hl _ _ h
  have hrec := ne_loopJ (A := A) (R := R) l b N I Fl hl fin finF _ 0 rfl (Nat.zero_le _) s h
  obtain ⟨hp, g, d, tk, os⟩ := s
  have f3 := AutoSeq1.sub_list_list
  have hne : ¬ (items.size != items2.size) = true := by simp [hs1, hs2]
  wp_walk using wpAny_loadPart' hl1, wpAny_loadPart' hb1
  exact ⟨plainId_quiet plain_eq_loop _, codeAny_builtin entry_eq_loop (by
    rw [Around.under_plainId plain_eq_loop _]
    exact hrec)⟩
theorem rc_list_neJ {l b : Addr} {N : Nat} {Q : Value → Shared → Prop} {s : Shared} (hu : A.units < cLine) (I : Nat → Shared → Prop) (Fl : Shared → Prop) (hl : ListJ prog w A E l b N I Fl)
    (fin : ∀ s, I N s → Q (.bool false) s) (finF : ∀ s, Fl s → Q (.bool true) s) (h : I 0 s) : wpAny (model prog w) A (richCompare .NotEq (.ref l) (.ref b)) Q E s := by
  obtain ⟨items, items2, ⟨n, n2, hl1, hb1, _, _⟩, _⟩ := hl _ _ h
  refine wpAny_richCompare_same_room (op := .NotEq) ⟨_, hl1, rfl⟩ ⟨_, hb1, rfl⟩ F.slot_list_ne (call_here F.slot_list_ne ⟨_, hl1, rfl⟩ F.entry_list_ne (F.args_list_ne_2 _ _) ?_) hu
  exact list_neJ (R := wants (fun v s' => v ≠ .notImplemented ∧ Q v s') E) l b N I Fl hl (fun s' q => ⟨(fun x => nomatch x), fin s' q⟩) (fun s' q => ⟨(fun x => nomatch x), finF s' q⟩) h
theorem tuple_eqJ (l b : Addr) (items items2 : Array Value) (n n2 : Nat) (dd dd2 : Option Addr) (sl sl2 : Array (Option Value)) (I : Nat → Shared → Prop) (Fl : Shared → Prop)
    (turn : ∀ i (h1 : i < items.size) (h2 : i < items2.size) s, I i s → wpAny (model prog w) A.in1 (eqBool items[i] items2[i]) (fun r s' => (r = true ∧ I (i + 1) s') ∨ (r = false ∧ Fl s')) (fun e s' => R (.error e) s') s)
    (fin : ∀ s, I (min items.size items2.size) s → R (.ok (.ret (.bool (items.size == items2.size)))) s) (finF : ∀ s, Fl s → R (.ok (.ret (.bool false))) s) {s : Shared} (hl1 : s.heap.get? l = some { cls := .type "tuple", dict := dd, data := .seq items n, slots := sl }) (hb1 : s.heap.get? b = some { cls := .type "tuple", dict := dd2, data := .seq items2 n2, slots := sl2 }) (h : I 0 s) :
    wpAny (model prog w) A.in1 (Builtin.«tuple.__eq__» ⟨[.ref l, .ref b], []⟩) (FinOf prog w A R) (fun e s' => R (.error e) s') s := by
  have f2 := AutoSeq1.sub_tuple_tuple
  have hZ : (items.toList.zip items2.toList).length = min items.size items2.size := by simp
  have h0 := h
  obtain ⟨hp, g, d, tk, os⟩ := s
  wp_walk using wpAny_loadPart' hl1, wpAny_loadPart' hb1, wpAny_forIn_list _ (fun rest b s' => b.1 = none ∧ ∃ i, rest = (items.toList.zip items2.toList).drop i ∧ i ≤ min items.size items2.size ∧ I i s') _
  case turn =>
    rintro ⟨y, x⟩ rest b s' ⟨hb', i, hz, hi, hI⟩
    have hlt : i < (items.toList.zip items2.toList).length := by
      rcases Nat.lt_or_ge i (items.toList.zip items2.toList).length with h' | h'
      · exact h'
      · rw [List.drop_of_length_le h'] at hz; cases hz
    have h1 : i < items.size := by omega
    have h2 : i < items2.size := by omega
    rw [List.drop_eq_getElem_cons hlt] at hz
    injection hz with hyx hrest
    have hy : y = items[i] := by have := congrArg Prod.fst hyx; simpa using this
    have hx : x = items2[i] := by have := congrArg Prod.snd hyx; simpa using this
    subst hy hx
    refine wpAny_bind (wpAny_mono (turn i h1 h2 s' hI) (fun r s2 q2 => ?_) fun _ _ x => x)
    rcases q2 with ⟨hr, q2⟩ | ⟨hr, q2⟩
    · subst hr
      wp_walk
      exact ⟨rfl, i + 1, hrest, by omega, q2⟩
    · subst hr
      wp_walk
      exact finF s2 q2
  case fin =>
    rintro ⟨b1, b2⟩ s' ⟨hb', i, hz, hi, hI⟩
    simp only at hb'
    subst hb'
    have hge : min items.size items2.size ≤ i := by
      rcases Nat.lt_or_ge i (items.toList.zip items2.toList).length with h' | h'
      · rw [List.drop_eq_getElem_cons h'] at hz; cases hz
      · exact hZ ▸ h'
    have hi' : i = min items.size items2.size := by omega
    have hR : R (.ok (.ret (.bool (items.size == items2.size)))) s' := fin s' (hi' ▸ hI)
    wp_walk
    simpa [Builtin.Tuple.tupleCompareSizes] using hR
  case h =>
    exact ⟨rfl, 0, rfl, Nat.zero_le _, h0⟩
theorem rc_tup_eqJ {l b : Addr} {items items2 : Array Value} {Q : Value → Shared → Prop} {s : Shared} (hu : A.units < cLine) (I : Nat → Shared → Prop) (Fl : Shared → Prop)
    (hl : s.heap.IsTuple l items) (hb : s.heap.IsTuple b items2)
    (turn : ∀ i (h1 : i < items.size) (h2 : i < items2.size) s, I i s → wpAny (model prog w) A.in1 (eqBool items[i] items2[i]) (fun r s' => (r = true ∧ I (i + 1) s') ∨ (r = false ∧ Fl s')) E s)
    (fin : ∀ s, I (min items.size items2.size) s → Q (.bool (items.size == items2.size)) s) (finF : ∀ s, Fl s → Q (.bool false) s) (h : I 0 s) : wpAny (model prog w) A (richCompare .Eq (.ref l) (.ref b)) Q E s := by
  obtain ⟨⟨cls, dd, data, sl⟩, ho, hc, n, hd⟩ := id hl
  obtain ⟨⟨cls2, dd2, data2, sl2⟩, ho2, hc2, n2, hd2⟩ := id hb
  simp only at hc hd hc2 hd2
  subst hc hd hc2 hd2
  refine wpAny_richCompare_same_room (op := .Eq) ⟨_, ho, rfl⟩ ⟨_, ho2, rfl⟩ F.slot_tuple_eq (call_here F.slot_tuple_eq ⟨_, ho, rfl⟩ F.entry_tuple_eq (F.args_tuple_eq_2 _ _) ?_) hu
  exact tuple_eqJ (R := wants (fun v s' => v ≠ .notImplemented ∧ Q v s') E) l b items items2 n n2 dd dd2 sl sl2 I Fl turn (fun s' q => ⟨(fun x => nomatch x), fin s' q⟩) (fun s' q => ⟨(fun x => nomatch x), finF s' q⟩) ho ho2 h
theorem tuple_neJ (l b : Addr) (items items2 : Array Value) (n n2 : Nat) (dd dd2 : Option Addr) (sl sl2 : Array (Option Value)) (I : Nat → Shared → Prop) (Fl : Shared → Prop)
    (turn : ∀ i (h1 : i < items.size) (h2 : i < items2.size) s, I i s → wpAny (model prog w) A.in1 (eqBool items[i] items2[i]) (fun r s' => (r = true ∧ I (i + 1) s') ∨ (r = false ∧ Fl s')) (fun e s' => R (.error e) s') s)
    (fin : ∀ s, I (min items.size items2.size) s → R (.ok (.ret (.bool (items.size != items2.size)))) s) (finF : ∀ s, Fl s → R (.ok (.ret (.bool true))) s) {s : Shared} (hl1 : s.heap.get? l = some { cls := .type "tuple", dict := dd, data := .seq items n, slots := sl }) (hb1 : s.heap.get? b = some { cls := .type "tuple", dict := dd2, data := .seq items2 n2, slots := sl2 }) (h : I 0 s) :
    wpAny (model prog w) A.in1 (Builtin.«tuple.__ne__» ⟨[.ref l, .ref b], []⟩) (FinOf prog w A R) (fun e s' => R (.error e) s') s := by
  have f2 := AutoSeq1.sub_tuple_tuple
  have hZ : (items.toList.zip items2.toList).length = min items.size items2.size := by simp
  have h0 := h
  obtain ⟨hp, g, d, tk, os⟩ := s
  wp_walk using wpAny_loadPart' hl1, wpAny_loadPart' hb1, wpAny_forIn_list _ (fun rest b s' => b.1 = none ∧ ∃ i, rest = (items.toList.zip items2.toList).drop i ∧ i ≤ min items.size items2.size ∧ I i s') _
  case turn =>
    rintro ⟨y, x⟩ rest b s' ⟨hb', i, hz, hi, hI⟩
    have hlt : i < (items.toList.zip items2.toList).length := by
      rcases Nat.lt_or_ge i (items.toList.zip items2.toList).length with h' | h'
      · exact h'
      · rw [List.drop_of_length_le h'] at hz; cases hz
    have h1 : i < items.size := by omega
    have h2 : i < items2.size := by omega
    rw [List.drop_eq_getElem_cons hlt] at hz
    injection hz with hyx hrest
    have hy : y = items[i] := by have := congrArg Prod.fst hyx; simpa using this
    have hx : x = items2[i] := by have := congrArg Prod.snd hyx; simpa using this
    subst hy hx
    refine wpAny_bind (wpAny_mono (turn i h1 h2 s' hI) (fun r s2 q2 => ?_) fun _ _ x => x)
    rcases q2 with ⟨hr, q2⟩ | ⟨hr, q2⟩
    · subst hr
      wp_walk
      exact ⟨rfl, i + 1, hrest, by omega, q2⟩
    · subst hr
      wp_walk
      exact finF s2 q2
  case fin =>
    rintro ⟨b1, b2⟩ s' ⟨hb', i, hz, hi, hI⟩
    simp only at hb'
    subst hb'
    have hge : min items.size items2.size ≤ i := by
      rcases Nat.lt_or_ge i (items.toList.zip items2.toList).length with h' | h'
      · rw [List.drop_eq_getElem_cons h'] at hz; cases hz
      · exact hZ ▸ h'
    have hi' : i = min items.size items2.size := by omega
    have hR : R (.ok (.ret (.bool (items.size != items2.size)))) s' := fin s' (hi' ▸ hI)
    wp_walk
    simpa [Builtin.Tuple.tupleCompareSizes] using hR
  case h =>
    exact ⟨rfl, 0, rfl, Nat.zero_le _, h0⟩
theorem rc_tup_neJ {l b : Addr} {items items2 : Array Value} {Q : Value → Shared → Prop} {s : Shared} (hu : A.units < cLine) (I : Nat → Shared → Prop) (Fl : Shared → Prop)
    (hl : s.heap.IsTuple l items) (hb : s.heap.IsTuple b items2)
    (turn : ∀ i (h1 : i < items.size) (h2 : i < items2.size) s, I i s → wpAny (model prog w) A.in1 (eqBool items[i] items2[i]) (fun r s' => (r = true ∧ I (i + 1) s') ∨ (r = false ∧ Fl s')) E s)
    (fin : ∀ s, I (min items.size items2.size) s → Q (.bool (items.size != items2.size)) s) (finF : ∀ s, Fl s → Q (.bool true) s) (h : I 0 s) : wpAny (model prog w) A (richCompare .NotEq (.ref l) (.ref b)) Q E s := by
  obtain ⟨⟨cls, dd, data, sl⟩, ho, hc, n, hd⟩ := id hl
  obtain ⟨⟨cls2, dd2, data2, sl2⟩, ho2, hc2, n2, hd2⟩ := id hb
  simp only at hc hd hc2 hd2
  subst hc hd hc2 hd2
  refine wpAny_richCompare_same_room (op := .NotEq) ⟨_, ho, rfl⟩ ⟨_, ho2, rfl⟩ F.slot_tuple_ne (call_here F.slot_tuple_ne ⟨_, ho, rfl⟩ F.entry_tuple_ne (F.args_tuple_ne_2 _ _) ?_) hu
  exact tuple_neJ (R := wants (fun v s' => v ≠ .notImplemented ∧ Q v s') E) l b items items2 n n2 dd dd2 sl sl2 I Fl turn (fun s' q => ⟨(fun x => nomatch x), fin s' q⟩) (fun s' q => ⟨(fun x => nomatch x), finF s' q⟩) ho ho2 h
end
end GQ
end
section
set_option Elab.async false
set_option linter.all false
set_option maxRecDepth 100000
set_option maxHeartbeats 4000000
namespace Ro
open PySem PySem.Spec PyProof.Rows L2
def atomB : D → Bool
  | .non => true
  | .bl _ => true
  | .int _ => true
  | .str _ => true
  | _ => false
def datN (cls : List String) : Nat → D → Bool
  | n + 1, .tup l => l.all (datN cls n)
  | n + 1, .lst l => l.all (datN cls n)
  | n + 1, .obj c l => cls.contains c && l.all (datN cls n)
  | _, d => atomB d
/-- what may stand behind an own == -/
def rhsB (cls : List String) : D → Bool
  | .non => true
  | .bl _ => true
  | .int _ => true
  | .str _ => true
  | .tup _ => true
  | .lst _ => true
  | .dct _ => true
  | .obj c _ => cls.contains c
  | _ => false
def zipA (e : D → D → Option Bool) : List D → List D → Option Bool
  | x :: l, y :: l' => match e x y with
    | some true => zipA e l l'
    | some false => some false
    | none => none
  | _, _ => some true
open Classical in
noncomputable def idA (cls : List String) (x y : D) (r : Option Bool) : Option Bool := match r with
  | some false => if datN cls 8 x = true ∧ datN cls 8 y = true ∧ x ≠ y then some false else none
  | r => r
open Classical in
noncomputable def methB (m : Fn) (x y : D) (S : Store) : Option Bool := match m [x, y] S with
  | .ok (.bl b) S' => if S' = S then some b else none
  | _ => none
abbrev ETab := String → Option Fn
open Classical in
noncomputable def shapeA (e : D → D → Option Bool) (tab : ETab) (cls : List String) (S : Store) (x y : D) : Option Bool := match x, y with
  | .lst l, .lst l' => if l.length = l'.length then zipA e l l' else some false
  | .tup l, .tup l' => (zipA e l l').map fun b => b && decide (l.length = l'.length)
  | .dct l, .dct l' => if l = l' ∧ l.length ≤ 1 ∧ (l.all fun p => atomB p.2) = true then some true else none
  | .obj c fx, y => if rhsB cls y then (match tab c with
    | some m => methB m (.obj c fx) y S
    | none => none) else none
  | x, .obj c fy => if rhsB cls x then (match tab c with
    | some m => methB m (.obj c fy) x S
    | none => none) else none
  | _, _ => none
mutual
noncomputable def eqA (tab : ETab) (cls : List String) (S : Store) : Nat → D → D → Option Bool
  | 0, _, _ => none
  | n + 1, x, y => if plN 8 x && plN 8 y then some (pyEq x y) else shapeA (eqE tab cls S n) tab cls S x y
noncomputable def eqE (tab : ETab) (cls : List String) (S : Store) : Nat → D → D → Option Bool
  | n, x, y => if plN 8 x && plN 8 y then some (pyEq x y) else match n with
    | 0 => none
    | n + 1 => idA cls x y (eqA tab cls S n x y)
end
structure SubG (X : Cx) (k : Nat) (A : Around) : Prop where
  rg : RG k A
  fr : ∀ s H, Env0 X.prog X.w X.K X.mg X.base X.A X.stack s H → Env0 X.prog X.w X.K X.mg X.base A X.stack s H
theorem SubG.in1 {X : Cx} {k : Nat} {A : Around} (h : SubG X (k + 1) A) : SubG X k A.in1 := ⟨h.rg.in1, fun s H e0 => by
  have e := h.fr s H e0
  exact ⟨e.frames, e.mod, e.bs, e.bsz, e.funs, e.frf, e.hok, e.bare⟩⟩
theorem SubG.mono {X : Cx} {k j : Nat} {A : Around} (h : SubG X k A) (l : j ≤ k) : SubG X j A := ⟨h.rg.mono l, h.fr⟩
theorem SubG.here {X : Cx} {k : Nat} (h : RG k X.A) : SubG X k X.A := ⟨h, fun _ _ e => e⟩
def tyNs : List String := ["NoneType", "bool", "int", "str", "tuple", "list", "dict"]
structure EqCl (T : Tb) (X : Cx) (kk : Nat) (cn : String) (m : Fn) : Prop where
  ex : ∃ (k : Nat) (d : He.DefD), k ≤ kk ∧ OkF T X.prog X.w X.mg X.base k d ["self", "other"] m ∧ Meth T.K (He.ga T.K (cn : Str)) "__eq__" (He.fAd T.K d.at_) ∧
    ∀ fd, FunD T.K d.name d.qual d.params d.body d.scope (d.dvs T.K) [] (He.fAd T.K d.at_) fd → Binds T.K fd ["self", "other"] []
  ne : PySem.W.findIn T.K (.ref (He.ga T.K (cn : Str))) "__ne__" = some (some (.builtin "object.__ne__"))
  mo : PySem.W.mroIn T.K (He.ga T.K (cn : Str)) (.type "object") = some true
structure EqH (T : Tb) (X : Cx) (tab : ETab) (cls : List String) (kk : Nat) : Prop where
  K : X.K = T.K
  cl : ∀ c m, tab c = some m → EqCl T X kk c m
  inj : ∀ c ∈ cls, ∀ c' ∈ cls, He.ga T.K (c : Str) = He.ga T.K (c' : Str) → c = c'
  nf : ∀ c m, tab c = some m → ∀ t ∈ tyNs, PySem.W.notFirst T.K (He.ga T.K (c : Str)) (.type t) = true
  sub : ∀ c m, tab c = some m → ∀ t ∈ tyNs, PySem.W.subIn T.K (.ref (He.ga T.K (c : Str))) (.type t) = some false
  nfo : ∀ c m, tab c = some m → ∀ c' ∈ cls, PySem.W.notFirst T.K (He.ga T.K (c : Str)) (.ref (He.ga T.K (c' : Str))) = true
def Post (X : Cx) (T : Tb) (pins : List (Addr × Obj)) (σ : L2.St) (w : Wd) (S : Store) (s' : Shared) : Prop := ∃ H' w', Inv X pins σ H' s' ∧ w.le w' ∧ WR T w' S H'
section
variable {T : Tb} {X : Cx} {tab : ETab} {cls : List String} {kk : Nat} {pins : List (Addr × Obj)} {σ : L2.St} {s : Shared} {H : Hp} {w : Wd} {S : Store}
theorem Post.le {w1 : Wd} {s' : Shared} (l : w.le w1) (h : Post X T pins σ w1 S s') : Post X T pins σ w S s' := by
  obtain ⟨H', w', I, l', r⟩ := h
  exact ⟨H', w', I, l.trans l', r⟩
theorem tup_cls (hK : X.K = T.K) (I : Inv X pins σ H s) (wr : WR T w S H) {a : Addr} {vs : List V} (h : SqT T.K w.G a vs) : ∃ o : Obj, s.heap.get? a = some o ∧ o.cls = .type "tuple" := by
  obtain ⟨its, r, ⟨o, e, c, _⟩, _⟩ := I.tuple (by rw [hK]; exact sqt_sub wr h)
  exact ⟨o, e, c⟩
theorem lst_cls (I : Inv X pins σ H s) (wr : WR T w S H) {a : Addr} {vs : List V} (h : w.G a = some (.lst vs)) : ∃ o : Obj, s.heap.get? a = some o ∧ o.cls = .type "list" := by
  obtain ⟨z, its, k, r, e⟩ := I.hok a _ (wr.sub _ _ h)
  exact ⟨_, e, rfl⟩
theorem ins_cls (I : Inv X pins σ H s) (wr : WR T w S H) {a C dx : Addr} {fs : List (Str × V)} (h : w.G a = some (.ins C dx fs)) : ∃ o : Obj, s.heap.get? a = some o ∧ o.cls = .ref C := by
  obtain ⟨mA, J, _⟩ := ins_get I.hok (wr.sub _ _ h)
  obtain ⟨od, J, _⟩ := J.look
  exact ⟨_, J.at_, J.cls⟩
theorem reps_inj {l l' : List D} {vs : List V} (h : ∀ x ∈ l, ∀ y ∈ l', ∀ v, Rep T w x v → Rep T w y v → x = y) (r : Reps T w l vs) (r' : Reps T w l' vs) : l = l' := by
  induction l generalizing l' vs with
  | nil => cases r; cases r'; rfl
  | cons x l ih =>
    cases r with
    | cons a b =>
      cases r' with
      | cons a' b' =>
        rw [h _ (by simp) _ (by simp) _ a a', ih (fun x hx y hy => h x (by simp [hx]) y (by simp [hy])) b b']
theorem rep_inj (h : EqH T X tab cls kk) (I : Inv X pins σ H s) (wr : WR T w S H) : ∀ (n : Nat) (x y : D) (v : V), datN cls n x = true → datN cls n y = true → Rep T w x v → Rep T w y v → x = y := by
  intro n
  induction n with
  | zero =>
    intro x y v hx hy rx ry
    cases x <;> simp [datN, atomB] at hx <;> cases rx <;> cases y <;> simp [datN, atomB] at hy <;> cases ry <;> rfl
  | succ n ih =>
    intro x y v hx hy rx ry
    cases rx with
    | non => cases ry; rfl
    | bl b => cases ry; rfl
    | int i => cases ry; rfl
    | str z => cases ry; rfl
    | scr => simp [datN, atomB] at hx
    | dct => simp [datN, atomB] at hx
    | ref => simp [datN, atomB] at hx
    | fn => simp [datN, atomB] at hx
    | xc0 => simp [datN, atomB] at hx
    | xc1 => simp [datN, atomB] at hx
    | tup q r =>
      obtain ⟨o, e, c⟩ := tup_cls h.K I wr q
      cases ry with
      | scr => simp [datN, atomB] at hy
      | dct => simp [datN, atomB] at hy
      | ref => simp [datN, atomB] at hy
      | fn => simp [datN, atomB] at hy
      | xc0 => simp [datN, atomB] at hy
      | xc1 => simp [datN, atomB] at hy
      | tup q' r' =>
        have e2 := I.tuple_inj (by rw [h.K]; exact sqt_sub wr q) (by rw [h.K]; exact sqt_sub wr q')
        subst e2
        simp only [datN, List.all_eq_true] at hx hy
        rw [reps_inj (fun x hx' y hy' v => ih x y v (hx x hx') (hy y hy')) r r']
      | lst q' r' =>
        obtain ⟨o', e', c'⟩ := lst_cls I wr q'
        rw [e] at e'
        cases e'
        rw [c] at c'
        exact absurd c' (by decide)
      | obj q' _ r' =>
        obtain ⟨o', e', c'⟩ := ins_cls I wr q'
        rw [e] at e'
        cases e'
        rw [c] at c'
        cases c'
    | lst q r =>
      obtain ⟨o, e, c⟩ := lst_cls I wr q
      cases ry with
      | scr => simp [datN, atomB] at hy
      | dct => simp [datN, atomB] at hy
      | ref => simp [datN, atomB] at hy
      | fn => simp [datN, atomB] at hy
      | xc0 => simp [datN, atomB] at hy
      | xc1 => simp [datN, atomB] at hy
      | lst q' r' =>
        rw [q] at q'
        cases q'
        simp only [datN, List.all_eq_true] at hx hy
        rw [reps_inj (fun x hx' y hy' v => ih x y v (hx x hx') (hy y hy')) r r']
      | tup q' r' =>
        obtain ⟨o', e', c'⟩ := tup_cls h.K I wr q'
        rw [e] at e'
        cases e'
        rw [c] at c'
        exact absurd c' (by decide)
      | obj q' _ r' =>
        rw [q] at q'
        cases q'
    | obj q nm r =>
      obtain ⟨o, e, c⟩ := ins_cls I wr q
      cases ry with
      | scr => simp [datN, atomB] at hy
      | dct => simp [datN, atomB] at hy
      | ref => simp [datN, atomB] at hy
      | fn => simp [datN, atomB] at hy
      | xc0 => simp [datN, atomB] at hy
      | xc1 => simp [datN, atomB] at hy
      | lst q' r' =>
        rw [q] at q'
        cases q'
      | tup q' r' =>
        obtain ⟨o', e', c'⟩ := tup_cls h.K I wr q'
        rw [e] at e'
        cases e'
        rw [c] at c'
        cases c'
      | obj q' nm' r' =>
        rw [q] at q'
        simp only [datN, Bool.and_eq_true, List.all_eq_true, List.contains_iff_mem] at hx hy
        simp only [Option.some.injEq, HO.ins.injEq] at q'
        obtain ⟨h1, h2, h3⟩ := q'
        subst h3
        rw [h.inj _ hx.1 _ hy.1 h1, reps_inj (fun x hx' y hy' v => ih x y v (hx.2 x hx') (hy.2 y hy')) r r']
end
end Ro
end
section
set_option Elab.async false
set_option linter.all false
set_option maxRecDepth 100000
set_option maxHeartbeats 4000000
namespace GQ
open PySem PySem.SeqAt
open AutoSeq1 (wpAny_loadPart')
open MeetsSeq MeetsSeq2 MeetsSeq3 SeqRoads2
section
variable {prog : Program} {w : World} {A : Around} {R : Result → Shared → Prop} {E : Value → Shared → Prop}
theorem int_eq_own (b : Int) (u : Tok) (l C dx : Addr) :
    Meets (Builtin.«int.__eq__» ⟨[.int b u, .ref l], []⟩) (fun _ R s => s.heap.get? l = some (PySem.W.instObj C dx) ∧ R (.ok (.ret .notImplemented)) s) :=
  .of_wp fun prog w A R s h => by obtain ⟨hp, g, d, tk, os⟩ := s; obtain ⟨hl, h⟩ := h; wp_walk using wpAny_loadPart' hl, wpAny_load hl; exact ⟨_, rfl, h⟩
theorem bool_eq_own (b : Bool) (l C dx : Addr) :
    Meets (Builtin.«int.__eq__» ⟨[.bool b, .ref l], []⟩) (fun _ R s => s.heap.get? l = some (PySem.W.instObj C dx) ∧ R (.ok (.ret .notImplemented)) s) :=
  .of_wp fun prog w A R s h => by obtain ⟨hp, g, d, tk, os⟩ := s; obtain ⟨hl, h⟩ := h; wp_walk using wpAny_loadPart' hl, wpAny_load hl; exact ⟨_, rfl, h⟩
theorem str_eq_own (b : Str) (u : Tok) (l C dx : Addr) :
    Meets (Builtin.«str.__eq__» ⟨[.str b u, .ref l], []⟩) (fun _ R s => s.heap.get? l = some (PySem.W.instObj C dx) ∧ R (.ok (.ret .notImplemented)) s) :=
  .of_wp fun prog w A R s h => by obtain ⟨hp, g, d, tk, os⟩ := s; obtain ⟨hl, h⟩ := h; wp_walk using wpAny_loadPart' hl, wpAny_load hl; exact ⟨_, rfl, h⟩
theorem list_eq_own (l p C dx : Addr) (items : Array Value) (n : Nat) (dd : Option Addr) (sl : Array (Option Value)) {s : Shared} (hl : s.heap.get? l = some { cls := .type "list", dict := dd, data := .seq items n, slots := sl }) (hp : s.heap.get? p = some (PySem.W.instObj C dx))
    (hs : PySem.W.Looks (model prog w) s.heap (isSubtype (.ref C) (.type "list")) false) (h : R (.ok (.ret .notImplemented)) s) :
    wpAny (model prog w) A.in1 (Builtin.«list.__eq__» ⟨[.ref l, .ref p], []⟩) (FinOf prog w A R) (fun e s' => R (.error e) s') s := by
  have hi : PySem.W.Looks (model prog w) s.heap (isInstance (.ref p) (.type "list")) false := (PySem.W.Looks.ld hp).andThen hs
  obtain ⟨hp', g, d, tk, os⟩ := s
  wp_walk using wpAny_loadPart' hl
  refine hs.here ?_
  wp_walk
  exact h
theorem tup_eq_own (l p C dx : Addr) (items : Array Value) (n : Nat) (dd : Option Addr) (sl : Array (Option Value)) {s : Shared} (hl : s.heap.get? l = some { cls := .type "tuple", dict := dd, data := .seq items n, slots := sl }) (hp : s.heap.get? p = some (PySem.W.instObj C dx))
    (hs : PySem.W.Looks (model prog w) s.heap (isSubtype (.ref C) (.type "tuple")) false) (h : R (.ok (.ret .notImplemented)) s) :
    wpAny (model prog w) A.in1 (Builtin.«tuple.__eq__» ⟨[.ref l, .ref p], []⟩) (FinOf prog w A R) (fun e s' => R (.error e) s') s := by
  have hi : PySem.W.Looks (model prog w) s.heap (isInstance (.ref p) (.type "tuple")) false := (PySem.W.Looks.ld hp).andThen hs
  obtain ⟨hp', g, d, tk, os⟩ := s
  wp_walk using wpAny_loadPart' hl
  refine hs.here ?_
  wp_walk
  exact h
theorem dict_eq_own (l p C dx : Addr) (o : Obj) (ho : o.cls = .type "dict") {s : Shared} (hl : s.heap.get? l = some o) (hd : ∃ es ep, o.data = .dict es ep) (hp : s.heap.get? p = some (PySem.W.instObj C dx))
    (hs : PySem.W.Looks (model prog w) s.heap (isSubtype (.ref C) (.type "dict")) false) (h : R (.ok (.ret .notImplemented)) s) :
    wpAny (model prog w) A.in1 (Builtin.«dict.__eq__» ⟨[.ref l, .ref p], []⟩) (FinOf prog w A R) (fun e s' => R (.error e) s') s := by
  have hi : PySem.W.Looks (model prog w) s.heap (isInstance (.ref p) (.type "dict")) false := (PySem.W.Looks.ld hp).andThen hs
  obtain ⟨es, ep, hd⟩ := hd
  obtain ⟨cls, dd, data, sl⟩ := o
  simp only at ho hd
  subst ho hd
  obtain ⟨hp', g, d, tk, os⟩ := s
  wp_walk using wpAny_loadPart' hl
  refine hs.here ?_
  wp_walk
  exact h
end
end GQ
namespace Ro
open PySem PySem.Spec PyProof.Rows L2
section
variable {prog : Program} {w : World} {A : Around} {E : Value → Shared → Prop}
theorem rc_right {a : Value} {Ta ida : String} {C p dx L f : Addr} {K : PySem.W.Frag} {h₀ : Heap} {m : Str → Option Value} {od : Option Obj} {s : Shared} {Q : Value → Shared → Prop} (hu : A.units < cLine) (F : Fr h₀ L s.heap m) (X₀ : K.In h₀) (I : PySem.W.InstAt s.heap p (PySem.W.instObj C dx) C od)
    (ha : s.TypeIs a Ta) (hsub : PySem.W.subIn K (.ref C) (.type Ta) = some false) (h1 : Slot Ta "__eq__" ida)
    (hc : ∀ Q' : Value → Shared → Prop, Q' .notImplemented s → wpAny (model prog w) A (call (.builtin ida) [a, .ref p]) Q' E s)
    (hs : PySem.W.findIn K (.ref C) "__eq__" = some (some (.ref f))) (hf : PySem.W.isFn K (.ref f) = true)
    (h : wpAny (model prog w) A (call (.ref f) [.ref p, a]) (PySem.W.CmpBack Q) E s) : wpAny (model prog w) A (richCompare .Eq a (.ref p)) Q E s := by
  have X := X₀.keeps F.keep
  have one : wpAny (model prog w) A (tryCompare (.ref p) (cmpInfo .Eq).2.2 a) (fun r s' => ∃ v, r = some v ∧ Q v s') E s := by
    unfold tryCompare
    refine wpAny_bind (PySem.W.ifBound_K X I hs hf (wpAny_mono h (fun v s' hv => ?_) fun _ _ e => e))
    cases v <;> first | exact hv.elim | exact wpAny_pure ⟨_, rfl, hv⟩
  simp only [richCompare, ha.oneThing_none]
  refine wpAny_holding (wpAny_bind (wpAny_cRoomFor hu ?_))
  refine wpAny_bind (wpAny_typeOf ha (wpAny_bind (I.type.here ?_)))
  have hne : (Value.type Ta != Value.ref C) = true := rfl
  simp only [hne, if_true]
  refine wpAny_bind ((PySem.W.looks_subIn X hsub).here ?_)
  simp only [Bool.false_eq_true, if_false, Bool.not_false, if_true]
  refine wpAny_bind (m := tryCompare a _ (.ref p)) (wpAny_tryCompare_declines ha h1 (hc _ ⟨rfl, ?_⟩))
  refine wpAny_bind (wpAny_mono one (fun r s' z => ?_) fun _ _ e => e)
  obtain ⟨v, rfl, hq⟩ := z
  exact wpAny_pure hq
end
section
variable {T : Tb} {X : Cx} {tab : ETab} {cls : List String} {kk : Nat} {pins : List (Addr × Obj)} {σ : L2.St} {s : Shared} {H : Hp} {w : Wd} {S : Store}
/-- what stands ahead of an own == declines -/
theorem decl_of (hK : X.K = T.K) (I : Inv X pins σ H s) (wr : WR T w S H) {x : D} {vx : V} {v : Value} (rx : Rep T w x vx) (qx : RelV vx v) (hx : rhsB [] x = true) {A : Around} {E : Value → Shared → Prop} :
    ∃ (Ta ida : String), s.TypeIs v Ta ∧ Ta ∈ tyNs ∧ Slot Ta "__eq__" ida ∧ ∀ (p C dx : Addr), s.heap.get? p = some (PySem.W.instObj C dx) → PySem.W.Looks (model X.prog X.w) s.heap (isSubtype (.ref C) (.type Ta)) false →
      ∀ Q' : Value → Shared → Prop, Q' .notImplemented s → wpAny (model X.prog X.w) A (call (.builtin ida) [v, .ref p]) Q' E s := by
  cases rx with
  | non =>
    cases qx
    exact ⟨"NoneType", _, rfl, by decide, F.slot_NoneType_eq, fun p C dx hp _ Q' h => call_gives F.slot_NoneType_eq rfl F.entry_NoneType_eq (F.args_NoneType_eq_2 _ _) (SeqAt.NoneType___eq___none_ref_0 p) h⟩
  | bl b =>
    cases qx
    exact ⟨"bool", _, rfl, by decide, F.slot_bool_eq, fun p C dx hp _ Q' h => call_meets F.slot_bool_eq rfl F.entry_int_eq (F.args_int_eq_2 _ _) (GQ.bool_eq_own b p C dx) ⟨hp, h⟩⟩
  | int i =>
    obtain ⟨t, rfl⟩ := qx
    exact ⟨"int", _, typeIs_int s i t, by decide, F.slot_int_eq, fun p C dx hp _ Q' h => call_meets F.slot_int_eq (typeIs_int s i t) F.entry_int_eq (F.args_int_eq_2 _ _) (GQ.int_eq_own i t p C dx) ⟨hp, h⟩⟩
  | str z =>
    obtain ⟨t, rfl⟩ := qx
    exact ⟨"str", _, typeIs_str s z t, by decide, F.slot_str_eq, fun p C dx hp _ Q' h => call_meets F.slot_str_eq (typeIs_str s z t) F.entry_str_eq (F.args_str_eq_2 _ _) (GQ.str_eq_own z t p C dx) ⟨hp, h⟩⟩
  | tup q r =>
    cases qx
    obtain ⟨its, r', ⟨⟨cl, dd, data, sl⟩, ho, hc, n, hd⟩, _⟩ := I.tuple (by rw [hK]; exact sqt_sub wr q)
    simp only at hc hd
    subst hc hd
    refine ⟨"tuple", _, ⟨_, ho, rfl⟩, by decide, F.slot_tuple_eq, fun p C dx hp hs Q' h => ?_⟩
    exact GQ.call_here F.slot_tuple_eq ⟨_, ho, rfl⟩ F.entry_tuple_eq (F.args_tuple_eq_2 _ _) (GQ.tup_eq_own (R := wants Q' E) _ p C dx _ n dd sl ho hp hs h)
  | lst q r =>
    cases qx
    obtain ⟨z, its, k, r', e⟩ := I.hok _ _ (wr.sub _ _ q)
    refine ⟨"list", _, ⟨_, e, rfl⟩, by decide, F.slot_list_eq, fun p C dx hp hs Q' h => ?_⟩
    exact GQ.call_here F.slot_list_eq ⟨_, e, rfl⟩ F.entry_list_eq (F.args_list_eq_2 _ _) (GQ.list_eq_own (R := wants Q' E) _ p C dx _ _ _ _ e hp hs h)
  | dct q r =>
    cases qx
    obtain ⟨_, _, vs, _, o, es, ep, e, ed, dt, _⟩ := I.hok _ _ (wr.sub _ _ q)
    refine ⟨"dict", _, ⟨_, e, ed.1⟩, by decide, F.slot_dict_eq, fun p C dx hp hs Q' h => ?_⟩
    exact GQ.call_here F.slot_dict_eq ⟨_, e, ed.1⟩ F.entry_dict_eq (F.args_dict_eq_2 _ _) (GQ.dict_eq_own (R := wants Q' E) _ p C dx o ed.1 e ⟨_, _, dt⟩ hp hs h)
  | _ => cases hx
end
end Ro
end
section
set_option Elab.async false
set_option linter.all false
set_option maxRecDepth 100000
set_option maxHeartbeats 4000000
namespace Ro
open PySem PySem.Spec PyProof.Rows L2
section
variable {T : Tb} {X : Cx} {tab : ETab} {cls : List String} {kk : Nat} {pins : List (Addr × Obj)} {σ : L2.St} {s : Shared} {H : Hp} {w : Wd} {S : Store}
def SRep (T : Tb) (w : Wd) (S : Store) (x : D) (v : V) : Prop := ∃ d, x = seeD d S ∧ Rep T w d v
theorem srep_of {d : D} {v : V} (h : Rep T w d v) (hd : ∀ n, d ≠ .ref n) : SRep T w S d v := ⟨d, by cases d <;> first | rfl | exact absurd rfl (hd _), h⟩
theorem SRep.sees {d : D} {v : V} (h : Rep T w d v) : SRep T w S (seeD d S) v := ⟨d, rfl, h⟩
theorem lst_at {l : List D} {v : V} (h : SRep T w S (.lst l) v) : ∃ a, v = .ref a ∧ ∀ w' H', w.le w' → WR T w' S H' → ∃ vs, H' a = some (.lst vs) ∧ Reps T w' l vs := by
  obtain ⟨d, e, r⟩ := h
  cases r with
  | lst q r =>
    cases e
    exact ⟨_, rfl, fun w' H' le wr => ⟨_, wr.sub _ _ (le.tosb.G _ _ q), r.monoS le.tosb⟩⟩
  | ref hn =>
    rename_i n a
    unfold seeD at e
    dsimp only at e
    cases z : S[n]? with
    | none => rw [z] at e; cases e
    | some c =>
      rw [z] at e
      cases c with
      | lst m =>
        cases e
        refine ⟨_, rfl, fun w' H' le wr => ?_⟩
        obtain ⟨vs, h1, h2⟩ := wr.cell n _ _ z (le.tosb.at hn)
        exact ⟨vs, h1, h2⟩
      | _ => cases e
  | _ => cases e
theorem tup_at {l : List D} {v : V} (h : SRep T w S (.tup l) v) : ∃ a vs, v = .ref a ∧ SqT T.K w.G a vs ∧ Reps T w l vs := by
  obtain ⟨d, e, r⟩ := h
  cases r with
  | tup q r => cases e; exact ⟨_, _, rfl, q, r⟩
  | ref hn =>
    rename_i n a
    unfold seeD at e
    dsimp only at e
    cases z : S[n]? with
    | none => rw [z] at e; cases e
    | some c => rw [z] at e; cases c <;> cases e
  | _ => cases e
theorem dct_at {l : List (D × D)} {v : V} (h : SRep T w S (.dct l) v) (wr : WR T w S H) : ∃ a kvs, v = .ref a ∧ H a = some (.dK kvs) ∧ RepK T w l kvs := by
  obtain ⟨d, e, r⟩ := h
  cases r with
  | dct q r =>
    cases e
    exact ⟨_, _, rfl, wr.sub _ _ q, r⟩
  | ref hn =>
    rename_i n a
    unfold seeD at e
    dsimp only at e
    cases z : S[n]? with
    | none => rw [z] at e; cases e
    | some c =>
      rw [z] at e
      cases c <;> cases e
  | _ => cases e
theorem one_eq {l : List (D × D)} {kvs kvs' : List (Key × V)} (hl : l.length ≤ 1) (ha : (l.all fun p => atomB p.2) = true) (r : RepK T w l kvs) (r' : RepK T w l kvs') :
    kvs.length = kvs'.length ∧ ∀ p ∈ kvs, ∃ u, valV kvs' p.1 = some u ∧ EqV T.K H 1 p.2 u := by
  have at1 : ∀ {d : D} {v v' : V}, atomB d = true → Rep T w d v → Rep T w d v' → EqV T.K H 1 v v' := fun {d v v'} h q q' => by
    refine .inl ?_
    cases q <;> cases q' <;> first | exact ⟨rfl, rfl⟩ | cases h
  match l, hl with
  | [], _ => cases r; cases r'; exact ⟨rfl, fun p hp => by cases hp⟩
  | [(k, d)], _ =>
    have h1 : atomB d = true := by simpa using ha
    cases r with
    | int q r =>
      cases r; cases r' with
      | int q' r' =>
        cases r'
        refine ⟨rfl, fun p hp => ?_⟩
        obtain rfl := List.mem_singleton.mp hp
        exact ⟨_, by simp [valV], at1 h1 q q'⟩
    | str q r =>
      cases r; cases r' with
      | str q' r' =>
        cases r'
        refine ⟨rfl, fun p hp => ?_⟩
        obtain rfl := List.mem_singleton.mp hp
        exact ⟨_, by simp [valV], at1 h1 q q'⟩
theorem obj_at {c : String} {l : List D} {v : V} (h : SRep T w S (.obj c l) v) : Rep T w (.obj c l) v := by
  obtain ⟨d, e, r⟩ := h
  cases r with
  | obj q n r => cases e; exact .obj q n r
  | ref hn =>
    rename_i n a
    unfold seeD at e
    dsimp only at e
    cases z : S[n]? with
    | none => rw [z] at e; cases e
    | some c => rw [z] at e; cases c <;> cases e
  | _ => cases e
theorem dp_s (wr : WR T w S H) {x : D} {v : V} (h : plN 8 x = true) (q : SRep T w S x v) : Dp T.K H v (toPy x) := by
  obtain ⟨d, rfl, r⟩ := q
  exact dp_see wr h r
/-- elements within a builtin -/
def ElR (T : Tb) (X : Cx) (tab : ETab) (cls : List String) (n : Nat) (A : Around) : Prop := ∀ (pins : List (Addr × Obj)) (σ : L2.St) (s : Shared) (H : Hp) (w : Wd) (S : Store) (x y : D) (vx vy : V) (v u : Value) (b : Bool),
  Inv X pins σ H s → WR T w S H → Rep T w x vx → RelV vx v → Rep T w y vy → RelV vy u → eqE tab cls S n x y = some b → ∀ E, wpAny (model X.prog X.w) A (eqBool v u) (fun r s' => r = b ∧ Post X T pins σ w S s') E s
theorem reps_get {l : List D} {vs : List V} (r : Reps T w l vs) {its : List Value} (q : Vals vs its) {i : Nat} (h : i < l.length) (hi : i < its.toArray.size) : ∃ vx, Rep T w l[i] vx ∧ RelV vx its.toArray[i] := by
  induction l generalizing vs its i with
  | nil => simp at h
  | cons x l ih =>
    cases r with
    | cons a b =>
    cases q with
    | cons p q =>
      cases i with
      | zero => exact ⟨_, a, by simpa using p⟩
      | succ i =>
        obtain ⟨vx, h1, h2⟩ := ih b q (i := i) (by simpa using h) (by simpa using hi)
        exact ⟨vx, by simpa using h1, by simpa using h2⟩
theorem seq_turn {n : Nat} {A : Around} (he : ElR T X tab cls n A) (I : Inv X pins σ H s) (wr : WR T w S H) {l l' : List D} {vs vs' : List V} {its its' : List Value} (r : Reps T w l vs) (r' : Reps T w l' vs') (q : Vals vs its) (q' : Vals vs' its') {i : Nat} {b : Bool}
    (h1 : i < its.toArray.size) (h2 : i < its'.toArray.size) (hz : zipA (eqE tab cls S n) (l.drop i) (l'.drop i) = some b) (E : Value → Shared → Prop) :
    wpAny (model X.prog X.w) A (eqBool its.toArray[i] its'.toArray[i]) (fun k s' => (k = true ∧ zipA (eqE tab cls S n) (l.drop (i + 1)) (l'.drop (i + 1)) = some b ∧ Post X T pins σ w S s') ∨ (k = false ∧ b = false ∧ Post X T pins σ w S s')) E s := by
  have hl : i < l.length := by rw [r.length, q.length]; simpa using h1
  have hl' : i < l'.length := by rw [r'.length, q'.length]; simpa using h2
  obtain ⟨vx, p1, p2⟩ := reps_get r q hl h1
  obtain ⟨vy, p3, p4⟩ := reps_get r' q' hl' h2
  rw [List.drop_eq_getElem_cons hl, List.drop_eq_getElem_cons hl', zipA] at hz
  cases z : eqE tab cls S n l[i] l'[i] with
  | none => rw [z] at hz; cases hz
  | some k =>
    rw [z] at hz
    refine wpAny_mono (he pins σ s H w S _ _ vx vy _ _ k I wr p1 p2 p3 p4 z E) (fun k' s' hk => ?_) fun _ _ e => e
    obtain ⟨rfl, hP⟩ := hk
    cases k' with
    | true => exact .inl ⟨rfl, hz, hP⟩
    | false =>
      have : b = false := by injection hz with e; exact e.symm
      exact .inr ⟨rfl, this, hP⟩
/-- two lists, item by item -/
theorem list_J {n : Nat} {A : Around} (he : ElR T X tab cls n A.in1) (wr0 : WR T w S H) {l l' : List D} {a a' : Addr} (hlen : l.length = l'.length) (h1 : ∀ w' H', w.le w' → WR T w' S H' → ∃ vs, H' a = some (.lst vs) ∧ Reps T w' l vs) (h2 : ∀ w' H', w.le w' → WR T w' S H' → ∃ vs, H' a' = some (.lst vs) ∧ Reps T w' l' vs) {b : Bool} (E : Value → Shared → Prop) :
    GQ.ListJ X.prog X.w A E a a' l.length (fun i s' => zipA (eqE tab cls S n) (l.drop i) (l'.drop i) = some b ∧ Post X T pins σ w S s') (fun s' => b = false ∧ Post X T pins σ w S s') := by
  have rd : ∀ s', Post X T pins σ w S s' → ∃ (w' : Wd) (H' : Hp) (vs vs' : List V) (its its' : List Value), Inv X pins σ H' s' ∧ w.le w' ∧ WR T w' S H' ∧ Reps T w' l vs ∧ Reps T w' l' vs' ∧ Vals vs its ∧ Vals vs' its' ∧ GQ.TwoL a a' l.length s' its.toArray its'.toArray := by
    intro s' ⟨H', w', I, le, wr⟩
    obtain ⟨vs, e1, r1⟩ := h1 w' H' le wr
    obtain ⟨vs', e2, r2⟩ := h2 w' H' le wr
    obtain ⟨z, its, k, r, e⟩ := I.hok a _ e1
    obtain ⟨z2, its2, k2, r', e'⟩ := I.hok a' _ e2
    exact ⟨w', H', vs, vs', its, its2, I, le, wr, r1, r2, r, r', k, k2, e, e', by rw [List.size_toArray, ← r.length, ← r1.length], by rw [List.size_toArray, ← r'.length, ← r2.length, hlen]⟩
  intro i s' ⟨hz, hP⟩
  obtain ⟨w', H', vs, vs', its, its', I, le, wr, r1, r2, v1, v2, tw⟩ := rd s' hP
  refine ⟨_, _, tw, fun k1 k2 => ?_⟩
  refine wpAny_mono (seq_turn he I wr r1 r2 v1 v2 k1 k2 hz E) (fun k s2 hk => ?_) fun _ _ e => e
  rcases hk with ⟨rfl, hz2, hP2⟩ | ⟨rfl, hb, hP2⟩
  · exact .inl ⟨rfl, hz2, hP2.le le⟩
  · obtain ⟨w2, H2, us, us', ts, ts', I2, le2, wr2, q1, q2, x1, x2, tw2⟩ := rd s2 (hP2.le le)
    exact .inr ⟨rfl, ⟨hb, hP2.le le⟩, _, _, tw2⟩
theorem meth2_runG {cn : String} {m : Fn} {k : Nat} {d : He.DefD} {A : Around} {l : List D} {y : D} {p : Addr} {vy : V} {u : Value} {b : Bool} {E : Value → Shared → Prop} (hK : X.K = T.K) (ok : OkF T X.prog X.w X.mg X.base k d ["self", "other"] m) (hr : RG k A)
    (hb : ∀ fd, FunD T.K d.name d.qual d.params d.body d.scope (d.dvs T.K) [] (He.fAd T.K d.at_) fd → Binds T.K fd ["self", "other"] []) (I : Inv X pins σ H s) (he : Env0 X.prog X.w T.K X.mg X.base A X.stack s H) (wr : WR T w S H) (r1 : Rep T w (.obj cn l) (.ref p)) (r2 : Rep T w y vy) (ru : RelV vy u)
    (q : m [.obj cn l, y] S = .ok (.bl b) S) :
    wpAny (model X.prog X.w) A (call (.ref (He.fAd T.K d.at_)) [.ref p, u]) (fun v s' => v = .bool b ∧ Post X T pins σ w S s') E s := by
  obtain ⟨fd, FD, FG⟩ := ok.ex
  have hsp : spI T ["self", "other"].length m [.ref p, vy] H (fun v H' => v = .bl b ∧ ∃ w', w.le w' ∧ WR T w' S H') (fun _ _ _ => False) := ⟨rfl, w, [.obj cn l, y], S, wr, .cons r1 (.cons r2 .nil), by
    rw [q]
    exact fun w' H' v l' r' p' => by
      cases p'
      exact ⟨rfl, w', l', r'⟩⟩
  have rv : Vals [V.ref p, vy] [Value.ref p, u] := .cons rfl (.cons ru .nil)
  have hbd : BindsTo s fd ⟨[.ref p, u], []⟩ ((["self", "other"] : List Str).zip [Value.ref p, u]) := by
    have := hb fd FD s [.ref p, u] (by rw [← hK]; exact I.kIn) rfl
    simpa using this
  refine wpAny_call (codeAny_mono (FG.run A X.stack s H ⟨[.ref p, u], []⟩ [.ref p, u] [.ref p, vy] _ (fun _ _ _ => False) hr he hbd rv hsp) fun r s' hq => ?_)
  cases r with
  | error e =>
    obtain ⟨_, _, _, _, _, _, _, _, _, _, _, _, z⟩ := hq
    exact z.elim
  | ok fl =>
    cases fl with
    | ret v =>
      obtain ⟨z, H', I', rz, ec, w', le, wr'⟩ := I.after hq
      subst ec
      obtain rfl : v = Value.bool b := rz
      exact ⟨rfl, H', w', I', le, wr'⟩
    | next => exact False.elim hq
    | brk => exact False.elim hq
    | cont => exact False.elim hq
/-- the type of what stands behind -/
theorem ty_rhs (h : EqH T X tab cls kk) (I : Inv X pins σ H s) (wr : WR T w S H) {c : String} {m : Fn} (hm : tab c = some m) {y : D} {vy : V} {u : Value} (ry : Rep T w y vy) (ru : RelV vy u) (hy : rhsB cls y = true) :
    ∃ tb, PySem.W.Looks (model X.prog X.w) s.heap (typeOf u) tb ∧ PySem.W.notFirst T.K (He.ga T.K (c : Str)) tb = true := by
  have ld : ∀ {a : Addr} {tb : Value}, (∃ o : Obj, s.heap.get? a = some o ∧ o.cls = tb) → PySem.W.Looks (model X.prog X.w) s.heap (typeOf (.ref a)) tb := fun ⟨o, e, ec⟩ => ec ▸ (PySem.W.Looks.ld e).andThen .now
  cases ry with
  | non => cases ru; exact ⟨_, PySem.W.Looks.of_pure rfl, h.nf c m hm "NoneType" (by decide)⟩
  | bl b => cases ru; exact ⟨_, PySem.W.Looks.of_pure rfl, h.nf c m hm "bool" (by decide)⟩
  | int i => obtain ⟨t, rfl⟩ := ru; exact ⟨_, PySem.W.Looks.of_pure rfl, h.nf c m hm "int" (by decide)⟩
  | str z => obtain ⟨t, rfl⟩ := ru; exact ⟨_, PySem.W.Looks.of_pure rfl, h.nf c m hm "str" (by decide)⟩
  | tup q r => cases ru; exact ⟨_, ld (tup_cls h.K I wr q), h.nf c m hm "tuple" (by decide)⟩
  | lst q r => cases ru; exact ⟨_, ld (lst_cls I wr q), h.nf c m hm "list" (by decide)⟩
  | obj q n r =>
    rename_i c' _ _ _ _
    cases ru
    refine ⟨_, ld (ins_cls I wr q), h.nfo c m hm c' ?_⟩
    simpa [rhsB] using hy
  | dct q r =>
    cases ru
    obtain ⟨o, e, ec⟩ : ∃ o : Obj, s.heap.get? _ = some o ∧ o.cls = .type "dict" := by
      obtain ⟨_, _, vs, _, o, _, _, e, ed, _⟩ := I.hok _ _ (wr.sub _ _ q)
      exact ⟨o, e, ed.1⟩
    exact ⟨_, ld ⟨o, e, ec⟩, h.nf c m hm "dict" (by decide)⟩
  | _ => cases hy
theorem eqBool_L {prog : Program} {wd : World} {A : Around} {E : Value → Shared → Prop} {a : Addr} {u : Value} {Q : Bool → Shared → Prop} (hne : Value.ref a ≠ u) (h : wpAny (model prog wd) A (richCompare .Eq (.ref a) u) (fun v s' => ∃ r, v = .bool r ∧ Q r s') E s) : wpAny (model prog wd) A (eqBool (.ref a) u) Q E s := by
  unfold eqBool
  refine wpAny_holding ?_
  refine wpAny_ite_split (fun hab => absurd (eq_of_beq hab) hne) (fun _ => ?_)
  refine wpAny_bind (wpAny_mono h (fun v s' hv => ?_) fun _ _ x => x)
  obtain ⟨r, rfl, q⟩ := hv
  exact wpAny_truthy_bool q
theorem eqBool_R {prog : Program} {wd : World} {A : Around} {E : Value → Shared → Prop} {a : Value} {p : Addr} {Q : Bool → Shared → Prop} (hf : ∀ f t, a ≠ .float f t) (hne : a ≠ .ref p) (h : wpAny (model prog wd) A (richCompare .Eq a (.ref p)) (fun v s' => ∃ r, v = .bool r ∧ Q r s') E s) : wpAny (model prog wd) A (eqBool a (.ref p)) Q E s := by
  unfold eqBool
  refine wpAny_holding ?_
  refine wpAny_ite_split (fun hab => absurd (eq_of_beq hab) hne) (fun _ => ?_)
  have fin : wpAny (model prog wd) A (richCompare .Eq a (.ref p) >>= fun v => truthOfDropped v) Q E s := by
    refine wpAny_bind (wpAny_mono h (fun v s' hv => ?_) fun _ _ x => x)
    obtain ⟨r, rfl, q⟩ := hv
    exact wpAny_truthy_bool q
  cases a <;> first | exact fin | exact absurd rfl (hf _ _)
theorem eqBool_S {prog : Program} {wd : World} {A : Around} {E : Value → Shared → Prop} {a : Addr} {Q : Bool → Shared → Prop} (h : Q true s) : wpAny (model prog wd) A (eqBool (.ref a) (.ref a)) Q E s := by
  unfold eqBool
  refine wpAny_holding ?_
  refine wpAny_ite_split (fun _ => ?_) (fun hab => absurd (beq_self_eq_true _) hab)
  exact wpAny_bind (wpAny_rule (wpAny_pure h))
theorem eqE_z {x y : D} : eqE tab cls S 0 x y = if plN 8 x && plN 8 y then some (pyEq x y) else none := by rw [eqE]
theorem eqE_s {n : Nat} {x y : D} : eqE tab cls S (n + 1) x y = if plN 8 x && plN 8 y then some (pyEq x y) else idA cls x y (eqA tab cls S n x y) := by rw [eqE]
theorem eqA_z {x y : D} : eqA tab cls S 0 x y = none := by rw [eqA]
theorem eqA_s {n : Nat} {x y : D} : eqA tab cls S (n + 1) x y = if plN 8 x && plN 8 y then some (pyEq x y) else shapeA (eqE tab cls S n) tab cls S x y := by rw [eqA]
theorem eqA_nref {n : Nat} {x y : D} {b : Bool} (h : eqA tab cls S n x y = some b) : (∀ k, x ≠ .ref k) ∧ ∀ k, y ≠ .ref k := by
  cases n with
  | zero => rw [eqA_z] at h; cases h
  | succ n =>
    rw [eqA_s] at h
    split at h
    · rename_i q
      obtain ⟨q1, q2⟩ := Bool.and_eq_true_iff.mp q
      exact ⟨fun k e => by subst e; simp [plN] at q1, fun k e => by subst e; simp [plN] at q2⟩
    · constructor
      · intro k e
        subst e
        cases y <;> simp [shapeA, rhsB] at h
      · intro k e
        subst e
        cases x <;> simp [shapeA, rhsB] at h
theorem eqE_nref {n : Nat} {x y : D} {b : Bool} (h : eqE tab cls S n x y = some b) : (∀ k, x ≠ .ref k) ∧ ∀ k, y ≠ .ref k := by
  have pl : (plN 8 x && plN 8 y) = true → (∀ k, x ≠ .ref k) ∧ ∀ k, y ≠ .ref k := fun q => by
    obtain ⟨q1, q2⟩ := Bool.and_eq_true_iff.mp q
    exact ⟨fun k e => by subst e; simp [plN] at q1, fun k e => by subst e; simp [plN] at q2⟩
  cases n with
  | zero =>
    rw [eqE_z] at h
    split at h
    · rename_i q; exact pl q
    · cases h
  | succ n =>
    rw [eqE_s] at h
    split at h
    · rename_i q; exact pl q
    · cases z : eqA tab cls S n x y with
      | none => rw [z] at h; cases h
      | some b => exact eqA_nref z
theorem eqA_run (h : EqH T X tab cls kk) : ∀ (n : Nat),
    (∀ A, SubG X (kk + n) A → ElR T X tab cls n A) ∧
    (∀ A, SubG X (kk + n) A → ∀ (pins : List (Addr × Obj)) (σ : L2.St) (s : Shared) (H : Hp) (w : Wd) (S : Store) (x y : D) (vx vy : V) (v u : Value) (b : Bool), Inv X pins σ H s → WR T w S H → SRep T w S x vx → RelV vx v → SRep T w S y vy → RelV vy u → ((∃ c l, x = .obj c l) → Rep T w y vy) → ((∃ c l, y = .obj c l) → Rep T w x vx) → eqA tab cls S n x y = some b →
      ∀ E, wpAny (model X.prog X.w) A (richCompare .Eq v u) (fun r s' => r = .bool b ∧ Post X T pins σ w S s') E s) := by
  have plain : ∀ (A : Around), A.units + 64 < cLine → ∀ (pins : List (Addr × Obj)) (σ : L2.St) (s : Shared) (H : Hp) (w : Wd) (S : Store) (x y : D) (vx vy : V) (v u : Value), Inv X pins σ H s → WR T w S H → SRep T w S x vx → RelV vx v → SRep T w S y vy → RelV vy u → plN 8 x = true → plN 8 y = true →
      (∀ E, wpAny (model X.prog X.w) A (richCompare .Eq v u) (fun r s' => r = .bool (pyEq x y) ∧ Post X T pins σ w S s') E s) ∧ (∀ E, wpAny (model X.prog X.w) A (eqBool v u) (fun r s' => r = pyEq x y ∧ Post X T pins σ w S s') E s) := by
    intro A hu pins σ s H w S x y vx vy v u I wr rx qx ry qy p1 p2
    obtain ⟨as, r1⟩ := Dp.reads I _ vx v (by rw [h.K]; exact dp_s wr p1 rx) qx
    obtain ⟨bs, r2⟩ := Dp.reads I _ vy u (by rw [h.K]; exact dp_s wr p2 ry) qy
    obtain ⟨k1, k2⟩ := toPy_ok 8 _ p1
    obtain ⟨k3, k4⟩ := toPy_ok 8 _ p2
    have hP : Post X T pins σ w S s := ⟨H, w, I, Wd.le.refl _, wr⟩
    constructor
    · intro E
      refine SeqAt.rcAt_plain r1 r2 k1 k3 (by omega) _ _ E _ ?_
      rw [eqv_py 8 _ _ p1 p2]
      exact ⟨rfl, hP⟩
    · intro E
      refine SeqAt.eqAt_plain _ _ A s _ _ _ _ r1 r2 k1 k3 (by omega) _ _ E _ ?_
      rw [eqv_py 8 _ _ p1 p2]
      exact ⟨rfl, hP⟩
  intro n
  induction n with
  | zero =>
    refine ⟨fun A sb pins σ s H w S x y vx vy v u b I wr rx qx ry qy hz E => ?_, fun A sb pins σ s H w S x y vx vy v u b I wr rx qx ry qy hyr hxr hz E => by rw [eqA_z] at hz; cases hz⟩
    obtain ⟨n1, n2⟩ := eqE_nref hz
    rw [eqE_z] at hz
    split at hz
    · rename_i q
      obtain ⟨q1, q2⟩ := Bool.and_eq_true_iff.mp q
      cases hz
      exact (plain A (by have := hu65 sb.rg; omega) pins σ s H w S x y vx vy v u I wr (srep_of rx n1) qx (srep_of ry n2) qy q1 q2).2 E
    · cases hz
  | succ n ih =>
    constructor
    · intro A sb pins σ s H w S x y vx vy v u b I wr rx qx ry qy hz E
      obtain ⟨n1, n2⟩ := eqE_nref hz
      rw [eqE_s] at hz
      split at hz
      · rename_i q
        obtain ⟨q1, q2⟩ := Bool.and_eq_true_iff.mp q
        cases hz
        exact (plain A (by have := hu65 sb.rg; omega) pins σ s H w S x y vx vy v u I wr (srep_of rx n1) qx (srep_of ry n2) qy q1 q2).2 E
      · rename_i hnp
        cases z : eqA tab cls S n x y with
        | none => rw [z] at hz; cases hz
        | some k =>
          rw [z] at hz
          have run := ih.2 A (sb.mono (by omega)) pins σ s H w S x y vx vy v u k I wr (srep_of rx n1) qx (srep_of ry n2) qy (fun _ => ry) (fun _ => rx) z
          have hb : k = b := by
            cases k with
            | true => injection hz
            | false =>
              unfold idA at hz
              dsimp only at hz
              split at hz
              · injection hz
              · cases hz
          subst hb
          -- x is of the heap, or y is
          have side : (∃ a, v = .ref a) ∨ ((∃ p, u = .ref p) ∧ (∀ f t, v ≠ .float f t) ∧ ∀ a, v ≠ .ref a) := by
            cases n with
            | zero => rw [eqA_z] at z; cases z
            | succ n =>
              rw [eqA_s, if_neg hnp] at z
              have yo : ∀ {x : D}, shapeA (eqE tab cls S n) tab cls S x y = some k → (∀ l, x ≠ .lst l) → (∀ l, x ≠ .tup l) → (∀ c l, x ≠ .obj c l) → ∃ p, u = .ref p := fun {x} hz h1 h2 h3 => by
                cases y with
                | obj c l => cases ry; cases qy; exact ⟨_, rfl⟩
                | dct l => cases ry; cases qy; exact ⟨_, rfl⟩
                | _ => cases x <;> first | cases hz | exact absurd rfl (h1 _) | exact absurd rfl (h2 _) | exact absurd rfl (h3 _ _)
              cases x with
              | lst l => cases rx; cases qx; exact .inl ⟨_, rfl⟩
              | tup l => cases rx; cases qx; exact .inl ⟨_, rfl⟩
              | obj c l => cases rx; cases qx; exact .inl ⟨_, rfl⟩
              | dct l => cases rx; cases qx; exact .inl ⟨_, rfl⟩
              | non => cases rx; cases qx; exact .inr ⟨yo z (by simp) (by simp) (by simp), by simp, by simp⟩
              | bl b => cases rx; cases qx; exact .inr ⟨yo z (by simp) (by simp) (by simp), by simp, by simp⟩
              | int i => cases rx; obtain ⟨t, rfl⟩ := qx; exact .inr ⟨yo z (by simp) (by simp) (by simp), by simp, by simp⟩
              | str i => cases rx; obtain ⟨t, rfl⟩ := qx; exact .inr ⟨yo z (by simp) (by simp) (by simp), by simp, by simp⟩
              | _ => cases y <;> simp [shapeA, rhsB] at z
          rcases side with ⟨a, rfl⟩ | ⟨⟨p, rfl⟩, hfl, hnr⟩
          rotate_left
          · exact eqBool_R hfl (hnr p) (wpAny_mono (run E) (fun r s' q => ⟨k, q.1, rfl, q.2⟩) fun _ _ e => e)
          by_cases hv : Value.ref a = u
          · subst hv
            refine eqBool_S ⟨?_, H, w, I, Wd.le.refl _, wr⟩
            cases k with
            | true => rfl
            | false =>
              exfalso
              unfold idA at hz
              dsimp only at hz
              split at hz
              · rename_i hd
                have e1 : vx = .ref a := by
                  cases vx <;> simp [L2.RelV] at qx
                  rw [qx]
                have e2 : vy = .ref a := by
                  cases vy <;> simp [L2.RelV] at qy
                  rw [qy]
                subst e1 e2
                exact hd.2.2 (rep_inj h I wr 8 x y _ hd.1 hd.2.1 rx ry)
              · cases hz
          · exact eqBool_L hv (wpAny_mono (run E) (fun r s' q => ⟨k, q.1, rfl, q.2⟩) fun _ _ e => e)
    · intro A sb pins σ s H w S x y vx vy v u b I wr rx qx ry qy hyr hxr hz E
      rw [eqA_s] at hz
      split at hz
      · rename_i q
        obtain ⟨q1, q2⟩ := Bool.and_eq_true_iff.mp q
        cases hz
        exact (plain A (by have := hu65 sb.rg; omega) pins σ s H w S x y vx vy v u I wr rx qx ry qy q1 q2).1 E
      · rename_i hnp
        have hu : A.units < cLine := by have := hu65 sb.rg; omega
        unfold shapeA at hz
        split at hz
        · rename_i l l'
          obtain ⟨a, rfl, h1⟩ := lst_at rx
          obtain ⟨a', rfl, h2⟩ := lst_at ry
          cases qx
          cases qy
          split at hz
          · rename_i hlen
            refine GQ.rc_list_eqJ hu _ _ (list_J (ih.1 A.in1 (SubG.in1 (sb.mono (by omega)))) wr hlen h1 h2 E (b := b)) (fun s' q => ?_) (fun s' q => ?_) ⟨by simpa using hz, H, w, I, Wd.le.refl _, wr⟩
            · obtain ⟨q1, q2⟩ := q
              rw [List.drop_of_length_le (Nat.le_refl _), List.drop_of_length_le (by omega), zipA] at q1
              · injection q1 with q1
                exact ⟨by rw [q1], q2⟩
              · intros; simp_all
            · obtain ⟨rfl, q2⟩ := q
              exact ⟨rfl, q2⟩
          · rename_i hlen
            cases hz
            obtain ⟨vs, e1, r1⟩ := h1 w H (Wd.le.refl _) wr
            obtain ⟨vs', e2, r2⟩ := h2 w H (Wd.le.refl _) wr
            obtain ⟨z, its, k, r, e⟩ := I.hok a _ e1
            obtain ⟨z2, its2, k2, r', e'⟩ := I.hok a' _ e2
            refine SeqAt.RcAt.lists_lengths (items := its.toArray) (items2 := its2.toArray) ⟨_, e, rfl, _, rfl⟩ ⟨_, e', rfl, _, rfl⟩ ?_ hu _ _ E _ ⟨rfl, H, w, I, Wd.le.refl _, wr⟩
            rw [List.size_toArray, List.size_toArray, ← r.length, ← r'.length, ← r1.length, ← r2.length]
            simpa using hlen
        · rename_i l l'
          obtain ⟨a, vs, rfl, q1, r1⟩ := tup_at rx
          obtain ⟨a', vs', rfl, q2, r2⟩ := tup_at ry
          cases qx
          cases qy
          obtain ⟨its, v1, e1, _⟩ := I.tuple (by rw [h.K]; exact sqt_sub wr q1)
          obtain ⟨its', v2, e2, _⟩ := I.tuple (by rw [h.K]; exact sqt_sub wr q2)
          cases zz : zipA (eqE tab cls S n) l l' with
          | none => rw [zz] at hz; cases hz
          | some k =>
            rw [zz] at hz
            have hb : (k && decide (l.length = l'.length)) = b := by injection hz
            have s1 : its.toArray.size = l.length := by rw [List.size_toArray, ← v1.length, ← r1.length]
            have s2 : its'.toArray.size = l'.length := by rw [List.size_toArray, ← v2.length, ← r2.length]
            refine GQ.rc_tup_eqJ hu (fun i s' => zipA (eqE tab cls S n) (l.drop i) (l'.drop i) = some k ∧ Post X T pins σ w S s') (fun s' => k = false ∧ Post X T pins σ w S s') e1 e2 (fun i k1 k2 s' q => ?_) (fun s' q => ?_) (fun s' q => ?_) ⟨by simpa using zz, H, w, I, Wd.le.refl _, wr⟩
            · obtain ⟨z1, H', w', I', le, wr'⟩ := q
              refine wpAny_mono (seq_turn (ih.1 A.in1 (SubG.in1 (sb.mono (by omega)))) I' wr' (r1.monoS le.tosb) (r2.monoS le.tosb) v1 v2 k1 k2 z1 E) (fun r s2 hk => ?_) fun _ _ e => e
              rcases hk with ⟨rfl, hz2, hP2⟩ | ⟨rfl, hb, hP2⟩
              · exact .inl ⟨rfl, hz2, hP2.le le⟩
              · exact .inr ⟨rfl, hb, hP2.le le⟩
            · obtain ⟨z1, hP⟩ := q
              have : k = true := by
                rw [s1, s2] at z1
                rcases Nat.le_total l.length l'.length with g | g
                · rw [Nat.min_eq_left g, List.drop_of_length_le (Nat.le_refl _), zipA] at z1
                  · injection z1 with z1; exact z1.symm
                  · intros; simp_all
                · rw [Nat.min_eq_right g, List.drop_of_length_le (l := l') (Nat.le_refl _), zipA] at z1
                  · injection z1 with z1; exact z1.symm
                  · intros; simp_all
              subst this
              rw [s1, s2]
              refine ⟨?_, hP⟩
              rw [← hb]
              congr 1
            · obtain ⟨rfl, hP⟩ := q
              exact ⟨by rw [← hb]; rfl, hP⟩
        · rename_i l l'
          obtain ⟨a, kvs, rfl, e1, r1⟩ := dct_at rx wr
          obtain ⟨a', kvs', rfl, e2, r2⟩ := dct_at ry wr
          split at hz
          · rename_i hc
            obtain ⟨hc1, hc2, hc3⟩ := hc
            cases hz
            subst hc1
            obtain ⟨g1, g2⟩ := one_eq (H := H) hc2 hc3 r1 r2
            have sm : A.units + 64 < cLine := by have := hu65 sb.rg; omega
            exact eqR_run I hu (eqV_run I 1 A.in1 (by show A.units + 1 + 1 < cLine; omega)) (.inr ⟨a, a', kvs, kvs', rfl, rfl, e1, e2, g1, by rw [h.K]; exact g2⟩) qx qy E _ ⟨rfl, H, w, I, Wd.le.refl _, wr⟩
          · cases hz
        · rename_i c fx
          split at hz
          · rename_i hrhs
            split at hz
            · rename_i m hm
              have rx := obj_at rx
              obtain ⟨k, d, hk, ok, M, hbd⟩ := (h.cl c m hm).ex
              have hq : m [.obj c fx, y] S = .ok (.bl b) S := by
                unfold methB at hz
                split at hz
                · split at hz
                  · rename_i b' S' e1 e2
                    injection hz with e3
                    rw [e1, e2, e3]
                  · cases hz
                · cases hz
              have ry' : Rep T w y vy := hyr ⟨_, _, rfl⟩
              obtain ⟨tb, L, nf⟩ := ty_rhs h I wr hm ry' qy hrhs
              have rx0 := rx
              cases rx with
              | obj hG hn hrs =>
                cases qx
                obtain ⟨mA, J, _⟩ := ins_get I.hok (wr.sub _ _ hG)
                obtain ⟨od, J, _⟩ := J.look
                obtain ⟨mf, hF⟩ := I.fr
                have e0 : Env0 X.prog X.w T.K X.mg X.base A X.stack s H := by
                  have e := sb.fr s H I.env0
                  rw [h.K] at e
                  exact e
                refine PySem.W.cmp_K (op := .Eq) (tb := tb) sb.rg.rm.units0 hF I.ok.mod.kin J L (by rw [h.K]; exact nf) (by rw [h.K]; exact M.at_) (by rw [h.K]; exact M.fn) ?_
                refine wpAny_mono (meth2_runG h.K ok (sb.rg.mono (by omega)) hbd I e0 wr rx0 ry' qy hq) (fun r s' q => ?_) fun _ _ e => e
                obtain ⟨rfl, hP⟩ := q
                exact ⟨rfl, hP⟩
            · cases hz
          · cases hz
        · rename_i c fy hno
          split at hz
          · rename_i hrhs
            split at hz
            · rename_i m hm
              have ry := obj_at ry
              obtain ⟨k, d, hk, ok, M, hbd⟩ := (h.cl c m hm).ex
              have hq : m [.obj c fy, x] S = .ok (.bl b) S := by
                unfold methB at hz
                split at hz
                · split at hz
                  · rename_i b' S' e1 e2
                    injection hz with e3
                    rw [e1, e2, e3]
                  · cases hz
                · cases hz
              have rx' : Rep T w x vx := hxr ⟨_, _, rfl⟩
              have hrhs2 : rhsB [] x = true := by
                cases x <;> first | rfl | cases hrhs | exact absurd rfl (fun e => hno _ _ e)
              have ry0 := ry
              cases ry with
              | obj hG hn hrs =>
                cases qy
                obtain ⟨mA, J, _⟩ := ins_get I.hok (wr.sub _ _ hG)
                have hge := J.1
                obtain ⟨od, J, _⟩ := J.look
                obtain ⟨mf, hF⟩ := I.fr
                obtain ⟨Ta, ida, ha, hTa, h1, hdec⟩ := decl_of h.K I wr rx' qx hrhs2 (A := A) (E := E)
                have e0 : Env0 X.prog X.w T.K X.mg X.base A X.stack s H := by
                  have e := sb.fr s H I.env0
                  rw [h.K] at e
                  exact e
                have hsub := h.sub c m hm Ta hTa
                refine rc_right (ida := ida) sb.rg.rm.units0 hF I.ok.mod.kin J ha (by rw [h.K]; exact hsub) h1 (fun Q' hQ => hdec _ _ _ hge (PySem.W.looks_subIn (I.ok.mod.kin.keeps hF.keep) (by rw [h.K]; exact hsub)) Q' hQ) (by rw [h.K]; exact M.at_) (by rw [h.K]; exact M.fn) ?_
                refine wpAny_mono (meth2_runG h.K ok (sb.rg.mono (by omega)) hbd I e0 wr ry0 rx' qx hq) (fun r s' q => ?_) fun _ _ e => e
                obtain ⟨rfl, hP⟩ := q
                exact ⟨rfl, hP⟩
            · cases hz
          · cases hz
        · cases hz
end
end Ro
end
section
set_option Elab.async false
set_option linter.all false
set_option maxRecDepth 100000
set_option maxHeartbeats 4000000
namespace Ro
open PySem PySem.Spec PyProof.Rows L2
section
variable {T : Tb} {E : XK} {X : Cx} {tab : ETab} {cls : List String} {kk : Nat} {a b : Expr} {f g : EX} {pos : Pos}
theorem neA_run (h : EqH T X tab cls kk) (n : Nat) (A : Around) (sb : SubG X (kk + n + 2) A) (pins : List (Addr × Obj)) (σ : L2.St) (s : Shared) (H : Hp) (w : Wd) (S : Store) (x y : D) (vx vy : V) (v u : Value) (b : Bool) (I : Inv X pins σ H s) (wr : WR T w S H) (rx : SRep T w S x vx) (qx : RelV vx v) (ry : SRep T w S y vy) (qy : RelV vy u) (hyr : (∃ c l, x = .obj c l) → Rep T w y vy) (hno : (∃ c l, y = .obj c l) → ∃ c l, x = .obj c l) (hnd : ∀ l, x ≠ .dct l)
    (hz : eqA tab cls S n x y = some b) (E : Value → Shared → Prop) : wpAny (model X.prog X.w) A (richCompare .NotEq v u) (fun r s' => r = .bool (!b) ∧ Post X T pins σ w S s') E s := by
  have hu : A.units < cLine := by have := hu65 sb.rg; omega
  cases n with
  | zero => rw [eqA_z] at hz; cases hz
  | succ n =>
    have el := (eqA_run h n).1 A.in1 (SubG.in1 (sb.mono (by omega)))
    rw [eqA_s] at hz
    split at hz
    · rename_i q
      obtain ⟨p1, p2⟩ := Bool.and_eq_true_iff.mp q
      cases hz
      obtain ⟨as, r1⟩ := Dp.reads I _ vx v (by rw [h.K]; exact dp_s wr p1 rx) qx
      obtain ⟨bs, r2⟩ := Dp.reads I _ vy u (by rw [h.K]; exact dp_s wr p2 ry) qy
      obtain ⟨k1, k2⟩ := toPy_ok 8 _ p1
      obtain ⟨k3, k4⟩ := toPy_ok 8 _ p2
      refine SeqAt.rcNe_plain r1 r2 k1 k3 (by have := hu65 sb.rg; omega) _ _ E _ ?_
      rw [eqv_py 8 _ _ p1 p2]
      exact ⟨rfl, H, w, I, Wd.le.refl _, wr⟩
    · rename_i hnp
      unfold shapeA at hz
      split at hz
      · rename_i l l'
        obtain ⟨a, rfl, h1⟩ := lst_at rx
        obtain ⟨a', rfl, h2⟩ := lst_at ry
        cases qx
        cases qy
        split at hz
        · rename_i hlen
          refine GQ.rc_list_neJ hu _ _ (list_J el wr hlen h1 h2 E (b := b)) (fun s' q => ?_) (fun s' q => ?_) ⟨by simpa using hz, H, w, I, Wd.le.refl _, wr⟩
          · obtain ⟨q1, q2⟩ := q
            rw [List.drop_of_length_le (Nat.le_refl _), List.drop_of_length_le (by omega), zipA] at q1
            · injection q1 with q1
              exact ⟨by rw [← q1]; rfl, q2⟩
            · intros; simp_all
          · obtain ⟨rfl, q2⟩ := q
            exact ⟨rfl, q2⟩
        · rename_i hlen
          cases hz
          obtain ⟨vs, e1, r1⟩ := h1 w H (Wd.le.refl _) wr
          obtain ⟨vs', e2, r2⟩ := h2 w H (Wd.le.refl _) wr
          obtain ⟨z, its, k, r, e⟩ := I.hok a _ e1
          obtain ⟨z2, its2, k2, r', e'⟩ := I.hok a' _ e2
          refine SeqAt.RcNeAt.lists_lengths (items := its.toArray) (items2 := its2.toArray) ⟨_, e, rfl, _, rfl⟩ ⟨_, e', rfl, _, rfl⟩ ?_ hu _ _ E _ ⟨rfl, H, w, I, Wd.le.refl _, wr⟩
          rw [List.size_toArray, List.size_toArray, ← r.length, ← r'.length, ← r1.length, ← r2.length]
          simpa using hlen
      · rename_i l l'
        obtain ⟨a, vs, rfl, q1, r1⟩ := tup_at rx
        obtain ⟨a', vs', rfl, q2, r2⟩ := tup_at ry
        cases qx
        cases qy
        obtain ⟨its, v1, e1, _⟩ := I.tuple (by rw [h.K]; exact sqt_sub wr q1)
        obtain ⟨its', v2, e2, _⟩ := I.tuple (by rw [h.K]; exact sqt_sub wr q2)
        cases zz : zipA (eqE tab cls S n) l l' with
        | none => rw [zz] at hz; cases hz
        | some k =>
          rw [zz] at hz
          have hb : (k && decide (l.length = l'.length)) = b := by injection hz
          have s1 : its.toArray.size = l.length := by rw [List.size_toArray, ← v1.length, ← r1.length]
          have s2 : its'.toArray.size = l'.length := by rw [List.size_toArray, ← v2.length, ← r2.length]
          refine GQ.rc_tup_neJ hu (fun i s' => zipA (eqE tab cls S n) (l.drop i) (l'.drop i) = some k ∧ Post X T pins σ w S s') (fun s' => k = false ∧ Post X T pins σ w S s') e1 e2 (fun i k1 k2 s' q => ?_) (fun s' q => ?_) (fun s' q => ?_) ⟨by simpa using zz, H, w, I, Wd.le.refl _, wr⟩
          · obtain ⟨z1, H', w', I', le, wr'⟩ := q
            refine wpAny_mono (seq_turn el I' wr' (r1.monoS le.tosb) (r2.monoS le.tosb) v1 v2 k1 k2 z1 E) (fun r s2 hk => ?_) fun _ _ e => e
            rcases hk with ⟨rfl, hz2, hP2⟩ | ⟨rfl, hb, hP2⟩
            · exact .inl ⟨rfl, hz2, hP2.le le⟩
            · exact .inr ⟨rfl, hb, hP2.le le⟩
          · obtain ⟨z1, hP⟩ := q
            have : k = true := by
              rw [s1, s2] at z1
              rcases Nat.le_total l.length l'.length with g | g
              · rw [Nat.min_eq_left g, List.drop_of_length_le (Nat.le_refl _), zipA] at z1
                · injection z1 with z1; exact z1.symm
                · intros; simp_all
              · rw [Nat.min_eq_right g, List.drop_of_length_le (l := l') (Nat.le_refl _), zipA] at z1
                · injection z1 with z1; exact z1.symm
                · intros; simp_all
            subst this
            rw [s1, s2]
            refine ⟨?_, hP⟩
            rw [← hb, Bool.true_and]
            congr 1
          · obtain ⟨rfl, hP⟩ := q
            exact ⟨by rw [← hb]; rfl, hP⟩
      · exact absurd rfl (hnd _)
      · rename_i c fx
        split at hz
        · rename_i hrhs
          split at hz
          · rename_i m hm
            have rx := obj_at rx
            have C := h.cl c m hm
            obtain ⟨k, d, hk, ok, M, hbd⟩ := C.ex
            have hq : m [.obj c fx, y] S = .ok (.bl b) S := by
              unfold methB at hz
              split at hz
              · split at hz
                · rename_i b' S' e1 e2
                  injection hz with e3
                  rw [e1, e2, e3]
                · cases hz
              · cases hz
            have ry' : Rep T w y vy := hyr ⟨_, _, rfl⟩
            obtain ⟨tb, L, nf⟩ := ty_rhs h I wr hm ry' qy hrhs
            have rx0 := rx
            cases rx with
            | obj hG hn hrs =>
              cases qx
              obtain ⟨mA, J, _⟩ := ins_get I.hok (wr.sub _ _ hG)
              obtain ⟨od, J, _⟩ := J.look
              obtain ⟨mf, hF⟩ := I.fr
              have sb1 := SubG.in1 (k := kk + n + 2) (sb.mono (by omega))
              have e0 : Env0 X.prog X.w T.K X.mg X.base A.in1 X.stack s H := by
                have e := sb1.fr s H I.env0
                rw [h.K] at e
                exact e
              have hu1 : A.in1.units + 1 < cLine := by have := hu65 sb1.rg; omega
              refine cmpNe_K (tb := tb) hu1 hF I.ok.mod.kin J L (by rw [h.K]; exact nf) (by rw [h.K]; exact C.ne) (by rw [h.K]; exact C.mo) (by rw [h.K]; exact M.at_) (by rw [h.K]; exact M.fn) (fun _ => rfl) ?_
              refine wpAny_mono (meth2_runG h.K ok (sb1.rg.mono (by omega)) hbd I e0 wr rx0 ry' qy hq) (fun r s' q => ?_) fun _ _ e => e
              obtain ⟨rfl, hP⟩ := q
              exact ⟨b, rfl, rfl, hP⟩
          · cases hz
        · cases hz
      · rename_i c fy hn
        obtain ⟨c', l', e⟩ := hno ⟨_, _, rfl⟩
        exact absurd e (fun e => hn _ _ e)
      · cases hz
def isObj : D → Bool
  | .obj _ _ => true
  | _ => false
def isDct : D → Bool
  | .dct _ => true
  | _ => false
def neBad (x y : D) : Bool := (isObj y && !isObj x) || isDct x
/-- what is compared: objects as they are, lists that are being made as they stand -/
noncomputable def eqAP (tab : ETab) (cls : List String) (x y : D) (S : Store) : Option Bool := if isObj x || isObj y then eqA tab cls S 6 x y else eqA tab cls S 6 (seeD x S) (seeD y S)
noncomputable def eqAM (tab : ETab) (cls : List String) (op : Bool → Bool) (x y : D) (S : Store) : R D := if !(op true) && neBad x y then .bad else match eqAP tab cls x y S with
  | some b => .ok (.bl (op b)) S
  | none => .bad
def rEqA (T : Tb) (tab : ETab) (cls : List String) (op : Bool → Bool) : R2 := fun x y H Q => ∃ w S d e b, WR T w S H ∧ Rep T w d x ∧ Rep T w e y ∧ (!(op true) && neBad d e) = false ∧ eqAP tab cls d e S = some b ∧ ∀ w' H', w.le w' → WR T w' S H' → Q (.bl (op b)) H'
theorem see_nobj {d : D} {S : Store} (hd : isObj d = false) : ∀ c l, seeD d S ≠ .obj c l := by
  intro c l z
  unfold seeD at z
  split at z
  · split at z <;> cases z
  · rw [z] at hd; cases hd
theorem see_ndct {d : D} {S : Store} (hd : isDct d = false) : ∀ l, seeD d S ≠ .dct l := by
  intro l z
  unfold seeD at z
  split at z
  · split at z <;> cases z
  · rw [z] at hd; cases hd
theorem isObj_of {d : D} (h : isObj d = true) : ∃ c l, d = .obj c l := by
  cases d with
  | obj c l => exact ⟨_, _, rfl⟩
  | _ => cases h
theorem pair_s {w : Wd} {S : Store} {d e : D} {x y : V} (p : Rep T w d x) (q : Rep T w e y) {b : Bool} (h : eqAP tab cls d e S = some b) :
    ∃ d' e', SRep T w S d' x ∧ SRep T w S e' y ∧ ((∃ c l, d' = .obj c l) → Rep T w e' y) ∧ ((∃ c l, e' = .obj c l) → Rep T w d' x) ∧ (neBad d e = false → ((∃ c l, e' = .obj c l) → ∃ c l, d' = .obj c l) ∧ ∀ l, d' ≠ .dct l) ∧ eqA tab cls S 6 d' e' = some b := by
  unfold eqAP at h
  cases hd : isObj d || isObj e with
  | true =>
    rw [hd, if_pos rfl] at h
    obtain ⟨n1, n2⟩ := eqA_nref h
    refine ⟨d, e, srep_of p n1, srep_of q n2, fun _ => q, fun _ => p, fun g => ?_, h⟩
    obtain ⟨g, g2⟩ := Bool.or_eq_false_iff.mp g
    refine ⟨fun ⟨c, l, z⟩ => ?_, fun l z => ?_⟩
    · subst z
      have : isObj d = true := by simpa [isObj] using g
      exact isObj_of this
    · subst z
      cases g2
  | false =>
    rw [hd, if_neg Bool.false_ne_true] at h
    obtain ⟨h1, h2⟩ := Bool.or_eq_false_iff.mp hd
    exact ⟨_, _, SRep.sees p, SRep.sees q, fun ⟨c, l, z⟩ => absurd z (see_nobj h1 c l), fun ⟨c, l, z⟩ => absurd z (see_nobj h2 c l), fun g => ⟨fun ⟨c, l, z⟩ => absurd z (see_nobj h2 c l), see_ndct (Bool.or_eq_false_iff.mp g).2⟩, h⟩
theorem oi_eqA (h : EqH T X tab cls kk) (hr : RG (kk + 8) X.A) : OpR X (compareOp .Eq) (rEqA T tab cls id) := by
  intro pins s σ H x y v u Q I rx ry q
  obtain ⟨w, S, d, e, b, wr, p1, p2, hg, hz, hQ⟩ := q
  obtain ⟨d', e', s1, s2, s3, s3', s5, s4⟩ := pair_s p1 p2 hz
  refine wpAny_mono ((eqA_run h 6).2 X.A (SubG.here (hr.mono (by omega))) pins σ s H w S d' e' x y v u b I wr s1 rx s2 ry s3 s3' s4 X.xe) (fun r s' hk => ?_) fun _ _ e => e
  obtain ⟨rfl, H', w', I', le, wr'⟩ := hk
  exact ⟨.bl b, H', I', rfl, hQ w' H' le wr'⟩
theorem oi_neA (h : EqH T X tab cls kk) (hr : RG (kk + 8) X.A) : OpR X (compareOp .NotEq) (rEqA T tab cls not) := by
  intro pins s σ H x y v u Q I rx ry q
  obtain ⟨w, S, d, e, b, wr, p1, p2, hg, hz, hQ⟩ := q
  obtain ⟨d', e', s1, s2, s3, s3', s5, s4⟩ := pair_s p1 p2 hz
  refine wpAny_mono (neA_run h 6 X.A (SubG.here (hr.mono (by omega))) pins σ s H w S d' e' x y v u b I wr s1 rx s2 ry s3 (s5 (by simpa using hg)).1 (s5 (by simpa using hg)).2 s4 X.xe) (fun r s' hk => ?_) fun _ _ e => e
  obtain ⟨rfl, H', w', I', le, wr'⟩ := hk
  exact ⟨.bl (!b), H', I', rfl, hQ w' H' le wr'⟩
noncomputable def eEqA (tab : ETab) (cls : List String) (op : Bool → Bool) (f g : EX) : EX := fun env S => (f env S).bnd fun x S1 => (g env S1).bnd fun y S2 => eqAM tab cls op x y S2
theorem eqAM_of {op : Bool → Bool} {w : Wd} {d e : D} {S : Store} {x y : V} {H : Hp} {Q : VK} (r : WR T w S H) (p : Rep T w d x) (q : Rep T w e y) (h : RP (eqAM tab cls op d e S) (fun d S' => ∀ w' H' v, w.le w' → WR T w' S' H' → Rep T w' d v → Q v H') (XW T w E)) : rEqA T tab cls op x y H Q := by
  unfold eqAM at h
  split at h
  · exact h.elim
  · rename_i hg
    split at h
    · rename_i b hb
      exact ⟨w, S, d, e, b, r, p, q, by simpa using hg, hb, fun w' H' l r' => h w' H' _ l r' (.bl _)⟩
    · exact h.elim
theorem ie_eqA {o : CmpOp} {op : Bool → Bool} (ho : OpR X (compareOp o) (rEqA T tab cls op)) (ha : IE T E X a f) (hb : IE T E X b g) (hm : behindInMarks o b = false) : IE T E X (.Compare a [o] [b] pos) (eEqA tab cls op f g) :=
  PE.mono (pe_cmpR ho ha hb hm) fun σ H Q q => by
    have q2 := tI_two (k := fun x y S => eqAM tab cls op x y S) q
    obtain ⟨w, env, S, r, e, h⟩ := q2
    refine ⟨w, env, S, r, e, h.mono (fun d S1 h1 w1 H1 x l1 r1 p1 => ?_) fun _ _ _ x => x⟩
    obtain ⟨w2, env2, S2, r2, e2, h2⟩ := h1 w1 H1 x l1 r1 p1
    refine ⟨w2, env2, S2, r2, e2, h2.mono (fun d S1 h1 w1 H1 x l1 r1 p1 => ?_) fun _ _ _ x => x⟩
    obtain ⟨w3, d3, e3, S3, r3, p3, q3, h3⟩ := h1 w1 H1 x l1 r1 p1
    exact eqAM_of r3 p3 q3 h3
theorem ib_eqA {o : CmpOp} {op : Bool → Bool} (ho : OpR X (compareOp o) (rEqA T tab cls op)) (ha : IE T E X a f) (hb : IE T E X b g) (hm : behindInMarks o b = false) : IB T E X (.Compare a [o] [b] pos) (bVal (eEqA tab cls op f g)) :=
  PT.mono (pt_cmpR ho ha hb hm) fun σ H Q q => by
    have q2 := tI_two (k := fun x y S => eqAM tab cls op x y S) (tI_bVal q)
    obtain ⟨w, env, S, r, e, h⟩ := q2
    refine ⟨w, env, S, r, e, h.mono (fun d S1 h1 w1 H1 x l1 r1 p1 => ?_) fun _ _ _ x => x⟩
    obtain ⟨w2, env2, S2, r2, e2, h2⟩ := h1 w1 H1 x l1 r1 p1
    refine ⟨w2, env2, S2, r2, e2, h2.mono (fun d S1 h1 w1 H1 x l1 r1 p1 => ?_) fun _ _ _ x => x⟩
    obtain ⟨w3, d3, e3, S3, r3, p3, q3, h3⟩ := h1 w1 H1 x l1 r1 p1
    exact eqAM_of r3 p3 q3 h3
end
end Ro
end
section
set_option Elab.async false
set_option linter.all false
set_option maxRecDepth 100000
set_option maxHeartbeats 4000000
namespace GQ
open PySem PySem.SeqAt
open AutoSeq1 (wpAny_loadPart')
open MeetsSeq MeetsSeq2 MeetsSeq3 SeqRoads2
section
variable {prog : Program} {w : World} {A : Around} {R : Result → Shared → Prop} {E : Value → Shared → Prop}
def OneL (l : Addr) (N : Nat) (s : Shared) (items : Array Value) : Prop := ∃ n : Nat, s.heap.get? l = some { cls := .type "list", data := .seq items n } ∧ items.size = N
def InJ (prog : Program) (w : World) (A : Around) (E : Value → Shared → Prop) (l : Addr) (x : Value) (N : Nat) (I : Nat → Shared → Prop) (Fl : Shared → Prop) : Prop :=
  ∀ i s, I i s → ∃ items, OneL l N s items ∧ ∀ (h1 : i < items.size), wpAny (model prog w) A.in1 (eqBool items[i] x) (fun r s' => (r = false ∧ I (i + 1) s') ∨ (r = true ∧ Fl s')) E s
theorem in_loopJ (l : Addr) (x : Value) (N : Nat) (I : Nat → Shared → Prop) (Fl : Shared → Prop) (hl : InJ prog w A (fun e s' => R (.error e) s') l x N I Fl)
    (fin : ∀ s, I N s → R (.ok (.ret (.bool false))) s) (finF : ∀ s, Fl s → R (.ok (.ret (.bool true))) s) (k : Nat) :
    ∀ i : Nat, N - i = k → i ≤ N → ∀ s, I i s →
      wpAny (model prog w) A.in1 (Builtin.«list.__contains__.loop» ⟨[.ref l, x, rawInt i], []⟩) (FinOf prog w A R) (fun e s' => R (.error e) s') s := by
  induction k with
  | zero =>
    intro i hk hi s h
    obtain ⟨items, ⟨n, hl1, hs1⟩, _⟩ := hl _ _ h
    have hi' : i = N := by omega
    have hR : R (.ok (.ret (.bool false))) s := fin s (hi' ▸ h)
    obtain ⟨hp, g, d, tk, os⟩ := s
    wp_walk using wpAny_loadPart' hl1
    have hi1 : items[((i : Nat) : Int).toNat]? = none := by simp; omega
    rw [hi1]
    wp_walk
    exact hR
  | succ k ih =>
    intro i hk hi s h
    obtain ⟨items, ⟨n, hl1, hs1⟩, turn⟩ := hl _ _ h
    have hlt : i < items.size := by omega
    have ht := turn hlt
    obtain ⟨hp, g, d, tk, os⟩ := s
    wp_walk using wpAny_loadPart' hl1
    have hi1 : items[((i : Nat) : Int).toNat]? = some items[i] := by simp [hlt]
    have hc : ((i : Int) + 1) = ((i + 1 : Nat) : Int) := by omega
    rw [hi1]
    refine wpAny_bind (wpAny_mono ht (fun r s2 h2 => ?_) fun _ _ x => x)
    rcases h2 with ⟨hr, h2⟩ | ⟨hr, hF⟩
    · subst hr
      have hrec := ih (i + 1) (by omega) (by omega) s2 h2
      obtain ⟨hp2, g2, d2, tk2, os2⟩ := s2
      wp_walk
      rw [hc]
      exact ⟨plainId_quiet plain_contains_loop _, codeAny_builtin entry_contains_loop (by
        rw [Around.under_plainId plain_contains_loop _]
        exact hrec)⟩
    · subst hr
      have hR : R (.ok (.ret (.bool true))) s2 := finF s2 hF
      obtain ⟨hp2, g2, d2, tk2, os2⟩ := s2
      wp_walk
      exact hR
theorem list_inJ (l : Addr) (x : Value) (N : Nat) (I : Nat → Shared → Prop) (Fl : Shared → Prop) (hl : InJ prog w A (fun e s' => R (.error e) s') l x N I Fl)
    (fin : ∀ s, I N s → R (.ok (.ret (.bool false))) s) (finF : ∀ s, Fl s → R (.ok (.ret (.bool true))) s) {s : Shared} (h : I 0 s) :
    wpAny (model prog w) A.in1 (Builtin.«list.__contains__» ⟨[.ref l, x], []⟩) (FinOf prog w A R) (fun e s' => R (.error e) s') s := by
  obtain ⟨items, ⟨n, hl1, hs1⟩, _⟩ := hl _ _ h
  have hrec := in_loopJ (A := A) (R := R) l x N I Fl hl fin finF _ 0 rfl (Nat.zero_le _) s h
  obtain ⟨hp, g, d, tk, os⟩ := s
  wp_walk using wpAny_loadPart' hl1
  exact ⟨plainId_quiet plain_contains_loop _, codeAny_builtin entry_contains_loop (by
    rw [Around.under_plainId plain_contains_loop _]
    exact hrec)⟩
theorem op_ninJ {l : Addr} {x : Value} {N : Nat} {Q : Value → Shared → Prop} {s : Shared} (I : Nat → Shared → Prop) (Fl : Shared → Prop) (hl : InJ prog w A E l x N I Fl)
    (fin : ∀ s, I N s → Q (.bool true) s) (finF : ∀ s, Fl s → Q (.bool false) s) (h : I 0 s) : wpAny (model prog w) A (compareOp .NotIn x (.ref l)) Q E s := by
  obtain ⟨items, ⟨n, hl1, _⟩, _⟩ := hl _ _ h
  show wpAny _ A (do return .bool (!(← contains (.ref l) x))) Q E s
  refine wpAny_bind (wpAny_contains_slot ⟨_, hl1, rfl⟩ F.slot_list_contains (wpAny_mono (call_here F.slot_list_contains ⟨_, hl1, rfl⟩ F.entry_list_contains (F.args_list_contains_2 _ _) (list_inJ (R := wants (fun v s' => ∃ b, v = .bool b ∧ Q (.bool (!b)) s') E) l x N I Fl hl (fun s' q => ⟨_, rfl, fin s' q⟩) (fun s' q => ⟨_, rfl, finF s' q⟩) h)) (fun v s' hv => ?_) fun _ _ e => e))
  obtain ⟨b, rfl, hq⟩ := hv
  exact wpAny_truthy_bool (wpAny_pure hq)
end
end GQ
namespace Ro
open PySem PySem.Spec PyProof.Rows L2
section
variable {T : Tb} {E : XK} {X : Cx} {tab : ETab} {cls : List String} {kk : Nat} {a b : Expr} {f g : EX} {pos : Pos} {pins : List (Addr × Obj)} {σ : L2.St} {s : Shared} {H : Hp} {w : Wd} {S : Store}
def anyA (e : D → Option Bool) : List D → Option Bool
  | [] => some false
  | y :: l => match e y with
    | some true => some true
    | some false => anyA e l
    | none => none
noncomputable def inAM (tab : ETab) (cls : List String) (op : Bool → Bool) (x y : D) (S : Store) : R D := match seeD y S with
  | .lst l => match anyA (fun z => eqE tab cls S 6 z x) l with
    | some b => .ok (.bl (op b)) S
    | none => .bad
  | _ => .bad
def rInA (T : Tb) (tab : ETab) (cls : List String) (op : Bool → Bool) : R2 := fun x y H Q => ∃ w S d e l b, WR T w S H ∧ Rep T w d x ∧ Rep T w e y ∧ seeD e S = .lst l ∧ anyA (fun z => eqE tab cls S 6 z d) l = some b ∧ ∀ w' H', w.le w' → WR T w' S H' → Q (.bl (op b)) H'
theorem in_J {A : Around} (he : ElR T X tab cls 6 A.in1) {d : D} {x : V} {v : Value} (rx : Rep T w d x) (qx : RelV x v) {l : List D} {a : Addr} (h1 : ∀ w' H', w.le w' → WR T w' S H' → ∃ vs, H' a = some (.lst vs) ∧ Reps T w' l vs) {b : Bool} (E : Value → Shared → Prop) :
    GQ.InJ X.prog X.w A E a v l.length (fun i s' => anyA (fun z => eqE tab cls S 6 z d) (l.drop i) = some b ∧ Post X T pins σ w S s') (fun s' => b = true ∧ Post X T pins σ w S s') := by
  intro i s' ⟨hz, hP⟩
  obtain ⟨H', w', I, le, wr⟩ := hP
  obtain ⟨vs, e1, r1⟩ := h1 w' H' le wr
  obtain ⟨z, its, k, r, e⟩ := I.hok a _ e1
  refine ⟨its.toArray, ⟨k, e, by rw [List.size_toArray, ← r.length, ← r1.length]⟩, fun hi => ?_⟩
  have hl : i < l.length := by rw [r1.length, r.length]; simpa using hi
  obtain ⟨vx, p1, p2⟩ := reps_get r1 r hl hi
  rw [List.drop_eq_getElem_cons hl, anyA] at hz
  cases y : eqE tab cls S 6 l[i] d with
  | none => rw [y] at hz; cases hz
  | some q =>
    rw [y] at hz
    refine wpAny_mono (he pins σ s' H' w' S _ _ vx x _ v q I wr p1 p2 (rx.monoS le.tosb) qx y E) (fun k' s2 hk => ?_) fun _ _ e => e
    obtain ⟨rfl, hP2⟩ := hk
    cases k' with
    | true =>
      have : b = true := by injection hz with e; exact e.symm
      exact .inr ⟨rfl, this, hP2.le le⟩
    | false => exact .inl ⟨rfl, hz, hP2.le le⟩
theorem oi_ninA (h : EqH T X tab cls kk) (hr : RG (kk + 8) X.A) : OpR X (compareOp .NotIn) (rInA T tab cls not) := by
  intro pins s σ H x y v u Q I rx ry q
  obtain ⟨w, S, d, e, l, b, wr, p1, p2, hs, hz, hQ⟩ := q
  obtain ⟨a, rfl, h1⟩ := lst_at (S := S) (l := l) (v := y) ⟨e, hs.symm, p2⟩
  cases ry
  have el := (eqA_run h 6).1 X.A.in1 (SubG.in1 (SubG.here (hr.mono (by omega))))
  refine GQ.op_ninJ (N := l.length) _ _ (in_J (pins := pins) (σ := σ) el p1 rx h1 (b := b) X.xe) (fun s' q => ?_) (fun s' q => ?_) ⟨by simpa using hz, H, w, I, Wd.le.refl _, wr⟩
  · obtain ⟨q1, H', w', I', le, wr'⟩ := q
    rw [List.drop_of_length_le (Nat.le_refl _), anyA] at q1
    injection q1 with q1
    subst q1
    exact ⟨.bl true, H', I', rfl, hQ w' H' le wr'⟩
  · obtain ⟨rfl, H', w', I', le, wr'⟩ := q
    exact ⟨.bl false, H', I', rfl, hQ w' H' le wr'⟩
noncomputable def eInA (tab : ETab) (cls : List String) (op : Bool → Bool) (f g : EX) : EX := fun env S => (f env S).bnd fun x S1 => (g env S1).bnd fun y S2 => inAM tab cls op x y S2
theorem inAM_of {op : Bool → Bool} {w : Wd} {d e : D} {S : Store} {x y : V} {H : Hp} {Q : VK} (r : WR T w S H) (p : Rep T w d x) (q : Rep T w e y) (h : RP (inAM tab cls op d e S) (fun d S' => ∀ w' H' v, w.le w' → WR T w' S' H' → Rep T w' d v → Q v H') (XW T w E)) : rInA T tab cls op x y H Q := by
  unfold inAM at h
  split at h
  · rename_i l hl
    split at h
    · rename_i b hb
      exact ⟨w, S, d, e, l, b, r, p, q, hl, hb, fun w' H' l r' => h w' H' _ l r' (.bl _)⟩
    · exact h.elim
  · exact h.elim
theorem ib_inA {o : CmpOp} {op : Bool → Bool} (ho : OpR X (compareOp o) (rInA T tab cls op)) (ha : IE T E X a f) (hb : IE T E X b g) (hm : behindInMarks o b = false) : IB T E X (.Compare a [o] [b] pos) (bVal (eInA tab cls op f g)) :=
  PT.mono (pt_cmpR ho ha hb hm) fun σ H Q q => by
    have q2 := tI_two (k := fun x y S => inAM tab cls op x y S) (tI_bVal q)
    obtain ⟨w, env, S, r, e, h⟩ := q2
    refine ⟨w, env, S, r, e, h.mono (fun d S1 h1 w1 H1 x l1 r1 p1 => ?_) fun _ _ _ x => x⟩
    obtain ⟨w2, env2, S2, r2, e2, h2⟩ := h1 w1 H1 x l1 r1 p1
    refine ⟨w2, env2, S2, r2, e2, h2.mono (fun d S1 h1 w1 H1 x l1 r1 p1 => ?_) fun _ _ _ x => x⟩
    obtain ⟨w3, d3, e3, S3, r3, p3, q3, h3⟩ := h1 w1 H1 x l1 r1 p1
    exact inAM_of r3 p3 q3 h3
end
end Ro
end
section
set_option Elab.async false
set_option linter.all false
set_option maxRecDepth 100000
set_option maxHeartbeats 4000000
namespace Ro
open PySem PySem.Spec PyProof.Rows L2 L2H
variable {T : Tb} {E : XK} {X : Cx} {a b c e : Expr} {es : List Expr} {f g h : EX} {fa ga fk : AX} {pos : Pos}
structure FnP2 (P : Program) (w : World) (T : Tb) (mg : Str → Option Value) (base : Heap) (k : Nat) (fp : Addr) (fd : FuncData) (ps : List Str) (cn : String) (m : Fn) : Prop where
  run : ∀ (A : Around) (below : List PySem.Env) (s : Shared) (H : Hp) (ar : Args) (Q : VK) (p : Addr × Obj) (z : XC) (fs : List D) (dy : D) (vy : V) (uy : Value) (w0 : Wd) (S : Store), RGH k A → PinOk below H s p → XHand T z p → A.handled = some (.ref z.a) → z.c = cn → Env0 P w T.K mg base A below s H → BindsTo s fd ar (ps.zip [.ref p.1, uy]) → RelV vy uy →
    WR (T.at (some z)) w0 S H → Rep (T.at (some z)) w0 (.thk 0 fs) (.ref z.a) → Rep (T.at (some z)) w0 dy vy → RP (m [.thk 0 fs, dy] S) (Pk (T.at (some z)) w0 Q) (XW (T.at (some z)) w0 E00) → codeAny (model P w) A (.call (.ref fp) ar) (CR (L2N.CX P w) below P w H s Q E00) s
structure OkP2 (T : Tb) (P : Program) (w : World) (mg : Str → Option Value) (base : Heap) (k : Nat) (d : He.DefD) (ps : List Str) (cn : String) (m : Fn) : Prop where
  ex : ∃ fd, FunD T.K d.name d.qual d.params d.body d.scope (d.dvs T.K) [] (He.fAd T.K d.at_) fd ∧ FnP2 P w T mg base k (He.fAd T.K d.at_) fd ps cn m
theorem OkP2.mk' {P : Program} {w : World} {mg : Str → Option Value} {base : Heap} {k : Nat} {d : He.DefD} {x y : Str} {N : List Str} {body : ES} {fd : FuncData} {cn : String}
    (F : FunD T.K d.name d.qual d.params d.body d.scope (d.dvs T.K) [] (He.fAd T.K d.at_) fd) (Sc : FnScope N [x, y] d.scope)
    (h : ∀ (cdv : Value) (A : Around) (outer : List PySem.Env) (s : Shared) (H : Hp) (p : Addr × Obj) (z : XC), XHand T z p → (A.deeper (envOfC d.qual d.scope s.heap.objs.size (He.fAd T.K d.at_) cdv)).handled = some (.ref z.a) → z.c = cn → RGH k (A.deeper (envOfC d.qual d.scope s.heap.objs.size (He.fAd T.K d.at_) cdv)) →
      ISs (T.at (some z)) E00 (cxP P w T.K mg base N d.qual d.scope (He.fAd T.K d.at_) cdv A outer s H p) d.body body) : OkP2 T P w mg base (k + 1) d [x, y] cn (fnM N.length body) := by
  refine ⟨fd, F, ?_⟩
  obtain ⟨oc, od, dV, kV, doc, pm, an, cdv, ct, osl, rfl, lk, hcd, _, _⟩ := F.ex
  constructor
  intro A below s H ar Q p z fs dy vy uy w0 S hr hp hx hA hcn env0 hbd ruy wr hz hy hm
  have inK : T.K.In s.heap := env0.mod.kin.keeps fun b o q => (env0.bs b o q).1
  have noLim : s.heap.NoLimit := env0.mod.nolimit.keeps fun b o q => (env0.bs b o q).1
  have kinds : ∀ z ∈ [x, y].zip [Value.ref p.1, uy], d.scope.names.lookup z.1 = some .local ∨ (d.scope.names.lookup z.1 = some .cell ∧ ((cellsFrom (s.heap.objs.size + 1) d.scope.names []).lookup z.1).isSome = true) := by
    rintro ⟨n, v⟩ hz
    rcases Sc.par n (List.of_mem_zip hz).1 with k1 | k1
    · exact Or.inl k1
    · exact Or.inr ⟨k1, PySem.W.cellsFrom_some _ _ _ (Or.inl k1)⟩
  refine codeAny_call_function hr.rm.depth (inK _ _ lk) rfl Sc.co Sc.gen rfl (PySem.W.codeRec_of inK hcd) (hbd _ _ _ _ ?_)
  refine wpAny_newFunctionEnv_cells Sc.kind kinds fun en hen st hx2 => ?_
  subst hen
  have rv : Vals [V.ref p.1, vy] [Value.ref p.1, uy] := .cons rfl (.cons ruy .nil)
  have J0 : Inv (cxP P w T.K mg base N d.qual d.scope (He.fAd T.K d.at_) cdv A below s H p) [] (L2.start N [V.ref p.1, vy]) H st := inv_startH Sc hp env0 rfl rv hx2
  have ends : tIs (T.at (some z)) E00 body { nx := fun _ H' => Q .non H', rt := Q } (L2.start N [V.ref p.1, vy]) H := by
    have px : Reps (T.at (some z)) w0 [.thk 0 fs, dy] [V.ref p.1, vy] := by
      rw [hx.at_]
      exact .cons hz (.cons hy .nil)
    refine ⟨w0, _, S, wr, er_start px, (RP.bnd hm).mono (fun c S1 h1 => ?_) fun _ _ _ z => z⟩
    cases c with
    | rt d => exact h1
    | nx e => exact fun w' H' σ' l r' q' => h1 w' H' .non l r' .non
    | bk e => exact (show False from h1).elim
    | ct e => exact (show False from h1).elim
  refine ⟨noLim.keeps hx2.toInCall.keep, codeAny_func (wpAny_mono ((h cdv A below s H p z hx hA hcn (hr.deeper _)).run [] st (L2.start N [V.ref p.1, vy]) H _ J0 ends) (fun fl st' hs => ?_) fun e st' hs => hs)⟩
  cases fl with
  | ret u =>
    obtain ⟨v, _, H', J, r1, q⟩ := hs
    exact ⟨v, H', J.os, J.bare, J.base, J.hok, r1, q⟩
  | next =>
    obtain ⟨_, H', J, q⟩ := hs
    exact ⟨V.non, H', J.os, J.bare, J.base, J.hok, rfl, q⟩
  | brk => exact hs.elim fun _ z => z.elim fun _ z => z.2.elim
  | cont => exact hs.elim fun _ z => z.elim fun _ z => z.2.elim
end Ro
end
section
set_option Elab.async false
set_option linter.all false
set_option maxRecDepth 100000
set_option maxHeartbeats 4000000
namespace Ro
open PySem PySem.Spec PyProof.Rows L2
variable {T : Tb} {E : XK} {X : Cx} {a b c e : Expr} {es rest : List Expr} {f g h : EX} {fa ga fk : AX} {pos : Pos}
def eOrT (a b : EX) : EX := fun env S => (a env S).bnd fun x S1 => match truth x with
  | some true => .ok x S1
  | some false => b env S1
  | none => .bad
end Ro
end
section
set_option Elab.async false
set_option linter.all false
set_option maxRecDepth 100000
set_option maxHeartbeats 4000000
namespace Ro
open PySem
/-- what a mirror gives: what is told, what is raised -/
@[irreducible] def WX {α : Type} (E : String → List D → Store → Prop) (r : R α) (q : α → Store → Prop) : Prop := match r with
  | .ok a S => q a S
  | .err c fs S => E c fs S
  | .bad => False
section
variable {α β : Type} {E E' : String → List D → Store → Prop}
@[simp] theorem WX_ok (a : α) (S : Store) (q : α → Store → Prop) : WX E (.ok a S) q = q a S := by unfold WX; rfl
@[simp] theorem WX_err (c : String) (fs : List D) (S : Store) (q : α → Store → Prop) : WX E (.err c fs S : R α) q = E c fs S := by unfold WX; rfl
@[simp] theorem WX_bad (q : α → Store → Prop) : WX E (.bad : R α) q = False := by unfold WX; rfl
theorem WX.mono {r : R α} {p q : α → Store → Prop} (h : WX E r p) (k : ∀ a S, p a S → q a S) : WX E r q := by
  cases r with
  | ok a S => rw [WX_ok] at h ⊢; exact k a S h
  | err c fs S => rw [WX_err] at h ⊢; exact h
  | bad => rw [WX_bad] at h; exact h.elim
theorem WX_bnd (r : R α) (f : α → Store → R β) (q : β → Store → Prop) : WX E (r.bnd f) q = WX E r fun a S => WX E (f a S) q := by cases r <;> simp
theorem W.ofX {r : R α} {q : α → Store → Prop} (h : WX (fun _ _ _ => False) r q) : W r q := by
  cases r with
  | ok a S => rw [WX_ok] at h; rw [W_ok]; exact h
  | err c fs S => rw [WX_err] at h; exact h.elim
  | bad => rw [WX_bad] at h; exact h.elim
theorem WX.use {r : R α} {p q : α → Store → Prop} (h : W r p) (k : ∀ a S, p a S → q a S) : WX E r q := by
  cases r with
  | ok a S => rw [W_ok] at h; rw [WX_ok]; exact k a S h
  | err c fs S => rw [W_err] at h; exact h.elim
  | bad => rw [W_bad] at h; exact h.elim
theorem WX.eq {r : R α} {a : α} {S : Store} (h : r = .ok a S) {q : α → Store → Prop} (k : q a S) : WX E r q := by rw [h, WX_ok]; exact k
theorem WX.eqE {r : R α} {c : String} {fs : List D} {S : Store} (h : r = .err c fs S) {q : α → Store → Prop} (k : E c fs S) : WX E r q := by rw [h, WX_err]; exact k
theorem WX.toEq {r : R α} {a : α} {S1 : Store} (h : WX (fun _ _ _ => False) r fun x S' => x = a ∧ S' = S1) : r = .ok a S1 := by
  cases r with
  | ok x S' => rw [WX_ok] at h; obtain ⟨rfl, rfl⟩ := h; rfl
  | err c fs S => rw [WX_err] at h; exact h.elim
  | bad => rw [WX_bad] at h; exact h.elim
end
section
variable {E : String → List D → Store → Prop} {env : Env} {S S1 : Store} {i j n kn pn : Nat} {d x y : D} {a b c e : EX} {f g h : BX} {fa fk r : AX} {q : D → Store → Prop} {qb : Bool → Store → Prop} {ql : List D → Store → Prop} {qc : Ctl → Store → Prop} {s t u : ES} {op op' : D → D → Option D} {lo hi : OX}
theorem Ws_var (h : env[i]? = some (some d)) (k : q d S) : WX E (eVar i env S) q := by rw [u_eVar, h]; simpa using k
theorem Ws_c (k : q d S) : WX E (eC d env S) q := by rw [u_eC, WX_ok]; exact k
theorem Ws_op (h : WX E (a env S) fun x S1 => WX E (b env S1) fun y S2 => ∃ d, op x y = some d ∧ q d S2) : WX E (eOp op a b env S) q := by
  rw [u_eOp, WX_bnd]
  refine h.mono fun x S1 h1 => ?_
  rw [WX_bnd]
  refine h1.mono fun y S2 ⟨d, h2, h3⟩ => ?_
  rw [h2, lift_some, WX_ok]; exact h3
theorem Ws_opS (h : WX E (a env S) fun x S1 => WX E (b env S1) fun y S2 => ∃ d, op (seeD x S2) (seeD y S2) = some d ∧ q d S2) : WX E (eOpS op a b env S) q := by
  unfold eOpS
  rw [WX_bnd]
  refine h.mono fun x S1 h1 => ?_
  rw [WX_bnd]
  refine h1.mono fun y S2 ⟨d, h2, h3⟩ => ?_
  rw [h2, lift_some, WX_ok]; exact h3
theorem Ws_un {op : D → Option D} (h : WX E (a env S) fun x S1 => ∃ d, op x = some d ∧ q d S1) : WX E (eUn op a env S) q := by
  rw [u_eUn, WX_bnd]
  refine h.mono fun x S1 ⟨d, h2, h3⟩ => ?_
  rw [h2, lift_some, WX_ok]; exact h3
theorem Ws_idx (h : WX E (a env S) fun x S1 => WX E (b env S1) fun y S2 => ∃ d, idxB x y S2 = some d ∧ q d S2) : WX E (eIdxB a b env S) q := by
  rw [u_eIdxB, WX_bnd]
  refine h.mono fun x S1 h1 => ?_
  rw [WX_bnd]
  refine h1.mono fun y S2 ⟨d, h2, h3⟩ => ?_
  rw [h2, lift_some, WX_ok]; exact h3
theorem Ws_anil (k : ql [] S) : WX E (aNil env S) ql := by rw [u_aNil, WX_ok]; exact k
theorem Ws_acons (h : WX E (a env S) fun x S1 => WX E (r env S1) fun xs S2 => ql (x :: xs) S2) : WX E (aCons a r env S) ql := by
  rw [u_aCons, WX_bnd]
  refine h.mono fun x S1 h1 => ?_
  rw [WX_bnd]
  refine h1.mono fun xs S2 h2 => ?_
  rw [WX_ok]; exact h2
theorem Ws_fnC {m : List D → List D → Store → R D} (h : WX E (fa env S) fun xs S1 => WX E (fk env S1) fun ys S2 => WX E (m xs ys S2) q) : WX E (eFn m fa fk env S) q := by
  rw [u_eFn, WX_bnd]
  refine h.mono fun x S1 h1 => ?_
  rw [WX_bnd]; exact h1
theorem Ws_call {m : Fn} {pk : List (Nat × Nat)} {dfs xs ys ds : List D} (h1 : pick pk xs dfs ys = ds) (h2 : xs.length = n ∧ ys.length = kn ∧ ds.length = pn) (k : WX E (m ds S) q) : WX E (callM m n kn pn pk dfs xs ys S) q := by
  rw [u_callM, h1, if_pos h2]; exact k
theorem Ws_tup (h : WX E (fa env S) fun xs S1 => xs.length ≤ LINE ∧ q (.tup xs) S1) : WX E (eTup fa env S) q := by
  rw [u_eTup, WX_bnd]
  refine h.mono fun xs S1 ⟨h1, h2⟩ => ?_
  rw [if_pos h1, WX_ok]; exact h2
theorem Ws_lst (h : WX E (fa env S) fun xs S1 => xs.length ≤ LINE ∧ q (.lst xs) S1) : WX E (eLst fa env S) q := by
  rw [u_eLst, WX_bnd]
  refine h.mono fun xs S1 ⟨h1, h2⟩ => ?_
  rw [if_pos h1, WX_ok]; exact h2
theorem Ws_lstM (h : WX E (fa env S) fun xs S1 => xs.length ≤ LINE ∧ q (.ref S1.length) (S1 ++ [.lst xs])) : WX E (eLstM fa env S) q := by
  rw [u_eLstM, WX_bnd]
  refine h.mono fun xs S1 ⟨h1, h2⟩ => ?_
  rw [if_pos h1, WX_ok]; exact h2
theorem Ws_bOf (h : WX E (a env S) fun x S1 => ∃ b, truth x = some b ∧ qb b S1) : WX E (bOf a env S) qb := by
  rw [u_bOf, WX_bnd]
  refine h.mono fun x S1 ⟨d, h2, h3⟩ => ?_
  rw [h2, lift_some, WX_ok]; exact h3
theorem Ws_bVal (h : WX E (a env S) fun x S1 => ∃ b, x = .bl b ∧ qb b S1) : WX E (bVal a env S) qb := by
  rw [u_bVal, WX_bnd]
  refine h.mono fun x S1 ⟨d, h2, h3⟩ => ?_
  rw [h2]
  dsimp only
  rw [WX_ok]; exact h3
/-- a truth that is told, or both ways -/
structure Br (b : Bool) (A B : Prop) : Prop where
  y : b = true → A
  n : b = false → B
theorem Br.yes {A B : Prop} (h : A) : Br true A B := ⟨fun _ => h, fun z => by cases z⟩
theorem Br.no {A B : Prop} (h : B) : Br false A B := ⟨fun z => (by cases z), fun _ => h⟩
theorem Br.tt {b : Bool} {A B : Prop} (e : b = true) (h : A) : Br b A B := e ▸ Br.yes h
theorem Br.ff {b : Bool} {A B : Prop} (e : b = false) (h : B) : Br b A B := e ▸ Br.no h
theorem Br.both {b : Bool} {A B : Prop} (h : b = true → A) (k : b = false → B) : Br b A B := ⟨h, k⟩
theorem Ws_bAnd (h : WX E (f env S) fun k S1 => Br k (WX E (g env S1) qb) (qb false S1)) : WX E (bAnd f g env S) qb := by
  rw [u_bAnd, WX_bnd]
  refine h.mono fun k S1 ⟨h1, h2⟩ => ?_
  cases k with
  | true => rw [if_pos rfl]; exact h1 rfl
  | false => rw [if_neg Bool.false_ne_true, WX_ok]; exact h2 rfl
theorem Ws_bOr (h : WX E (f env S) fun k S1 => Br k (qb true S1) (WX E (g env S1) qb)) : WX E (bOr f g env S) qb := by
  rw [u_bOr, WX_bnd]
  refine h.mono fun k S1 ⟨h1, h2⟩ => ?_
  cases k with
  | true => rw [if_pos rfl, WX_ok]; exact h1 rfl
  | false => rw [if_neg Bool.false_ne_true]; exact h2 rfl
theorem Ws_bNot (h : WX E (f env S) fun k S1 => qb (!k) S1) : WX E (bNot f env S) qb := by
  rw [u_bNot, WX_bnd]
  refine h.mono fun k S1 h1 => ?_
  rw [WX_ok]; exact h1
theorem Ws_eAnd (h : WX E (a env S) fun x S1 => ∃ k, x = .bl k ∧ Br k (WX E (b env S1) q) (q (.bl false) S1)) : WX E (eAnd a b env S) q := by
  rw [u_eAnd, WX_bnd]
  refine h.mono fun x S1 ⟨k, e, h1, h2⟩ => ?_
  subst e
  cases k with
  | true => exact h1 rfl
  | false => dsimp only; rw [if_neg Bool.false_ne_true, WX_ok]; exact h2 rfl
theorem Ws_eOr (h : WX E (a env S) fun x S1 => ∃ k, x = .bl k ∧ Br k (q (.bl true) S1) (WX E (b env S1) q)) : WX E (eOr a b env S) q := by
  rw [u_eOr, WX_bnd]
  refine h.mono fun x S1 ⟨k, e, h1, h2⟩ => ?_
  subst e
  cases k with
  | true => dsimp only; rw [if_pos rfl, WX_ok]; exact h1 rfl
  | false => exact h2 rfl
theorem Ws_eOrT (h : WX E (a env S) fun x S1 => ∃ k, truth x = some k ∧ Br k (q x S1) (WX E (b env S1) q)) : WX E (eOrT a b env S) q := by
  unfold Ro.eOrT
  rw [WX_bnd]
  refine h.mono fun x S1 ⟨k, e, h1, h2⟩ => ?_
  rw [e]
  cases k with
  | true => dsimp only; rw [WX_ok]; exact h1 rfl
  | false => exact h2 rfl
theorem Ws_eNot (h : WX E (a env S) fun x S1 => ∃ k, x = .bl k ∧ q (.bl (!k)) S1) : WX E (eNot a env S) q := by
  rw [u_eNot, WX_bnd]
  refine h.mono fun x S1 ⟨k, e, h1⟩ => ?_
  subst e
  dsimp only
  rw [WX_ok]; exact h1
theorem Ws_eIf (h : WX E (f env S) fun k S1 => Br k (WX E (a env S1) q) (WX E (b env S1) q)) : WX E (eIf f a b env S) q := by
  rw [u_eIf, WX_bnd]
  refine h.mono fun k S1 ⟨h1, h2⟩ => ?_
  cases k with
  | true => rw [if_pos rfl]; exact h1 rfl
  | false => rw [if_neg Bool.false_ne_true]; exact h2 rfl
theorem Ws_chain (h : WX E (a env S) fun x S1 => WX E (b env S1) fun y S2 => ∃ k, op x y = some (.bl k) ∧ Br k (WX E (c env S2) fun z S3 => ∃ d, op' y z = some d ∧ q d S3) (q (.bl false) S2)) : WX E (eChain op op' a b c env S) q := by
  rw [u_eChain, WX_bnd]
  refine h.mono fun x S1 h1 => ?_
  rw [WX_bnd]
  refine h1.mono fun y S2 ⟨k, e, h2, h3⟩ => ?_
  rw [e, chk_bl]
  cases k with
  | true =>
    rw [if_pos rfl, WX_bnd]
    refine (h2 rfl).mono fun z S3 ⟨d, e2, h4⟩ => ?_
    rw [e2, lift_some, WX_ok]; exact h4
  | false => rw [if_neg Bool.false_ne_true, WX_ok]; exact h3 rfl
theorem Ws_oNone {qo : Option Int → Store → Prop} (k : qo none S) : WX E (oNone env S) qo := by rw [u_oNone, WX_ok]; exact k
theorem Ws_oSome {qo : Option Int → Store → Prop} (h : WX E (a env S) fun x S1 => ∃ i, x = .int i ∧ qo (some i) S1) : WX E (oSome a env S) qo := by
  rw [u_oSome, WX_bnd]
  refine h.mono fun x S1 ⟨i, e, h1⟩ => ?_
  subst e
  dsimp only
  rw [WX_ok]; exact h1
theorem Ws_cut (h : WX E (a env S) fun x S1 => WX E (lo env S1) fun l S2 => WX E (hi env S2) fun r S3 => ∃ d, cutD x l r = some d ∧ q d S3) : WX E (eCut a lo hi env S) q := by
  rw [u_eCut, WX_bnd]
  refine h.mono fun x S1 h1 => ?_
  rw [WX_bnd]
  refine h1.mono fun x S1 h1 => ?_
  rw [WX_bnd]
  refine h1.mono fun x S1 ⟨d, e, h2⟩ => ?_
  rw [e, lift_some, WX_ok]; exact h2
theorem Ws_isI {tys : List Ty} {Tt : Ty} (h : WX E (a env S) fun x S1 => ∃ ty, tyD x S1 = some ty ∧ tys.contains ty = true ∧ q (.bl (subTy ty Tt)) S1) : WX E (eIsI tys Tt a env S) q := by
  rw [u_eIsI, WX_bnd]
  refine h.mono fun x S1 ⟨ty, e, h1, h2⟩ => ?_
  rw [e]
  dsimp only
  rw [if_pos h1, WX_ok]; exact h2
theorem Ws_attr {cf : String → List String} {cs : List String} {fn : String} (h : WX E (a env S) fun x S1 => ∃ d, attrD cf cs fn x S1 = some d ∧ q d S1) : WX E (eAttr cf cs fn a env S) q := by
  rw [u_eAttr, WX_bnd]
  refine h.mono fun x S1 ⟨d, e, h1⟩ => ?_
  rw [e, lift_some, WX_ok]; exact h1
theorem Ws_eB {m : List D → Option D} (h : WX E (fa env S) fun xs S1 => ∃ d, m xs = some d ∧ q d S1) : WX E (eB m fa env S) q := by
  rw [u_eB, WX_bnd]
  refine h.mono fun x S1 ⟨d, e, h1⟩ => ?_
  rw [e, lift_some, WX_ok]; exact h1
theorem Ws_eBS {m : List D → Option D} (h : WX E (fa env S) fun xs S1 => ∃ d, m (xs.map fun x => seeD x S1) = some d ∧ q d S1) : WX E (eBS m fa env S) q := by
  unfold Ro.eBS
  rw [WX_bnd]
  refine h.mono fun x S1 ⟨d, e, h1⟩ => ?_
  rw [e, lift_some, WX_ok]; exact h1
theorem Ws_meth {cf : String → List String} {cn mn : String} {m : List D → List D → Store → R D} (h : WX E (a env S) fun x S1 => isInst cf cn mn x S1 = true ∧ WX E (fa env S1) fun xs S2 => WX E (fk env S2) fun zs S3 => WX E (m (x :: xs) zs S3) q) : WX E (eMeth cf cn mn m a fa fk env S) q := by
  rw [u_eMeth, WX_bnd]
  refine h.mono fun x S1 ⟨e, h1⟩ => ?_
  rw [if_pos e, WX_bnd]
  refine h1.mono fun xs S2 h2 => ?_
  rw [WX_bnd]; exact h2
theorem Ws_app (h : WX E (a env S) fun l S1 => tyD l S1 = some (.b "list") ∧ WX E (b env S1) fun y S2 => ∃ S3, appM l y S2 = some S3 ∧ q .non S3) : WX E (eApp a b env S) q := by
  unfold eApp
  rw [WX_bnd]
  refine h.mono fun x S1 ⟨e, h1⟩ => ?_
  rw [if_pos e, WX_bnd]
  refine h1.mono fun xs S2 ⟨S3, e2, h2⟩ => ?_
  rw [e2]
  dsimp only
  rw [WX_ok]; exact h2
theorem Ws_frzL (h : WX E (a env S) fun x S1 => WX E (Ro.frzL x S1) q) : WX E (eFrzL a env S) q := by
  unfold eFrzL
  rw [WX_bnd]; exact h
theorem Ws_addM (h : WX E (a env S) fun x S1 => WX E (b env S1) fun y S2 => ∃ l, catS x y S2 = some l ∧ q (.ref S2.length) (S2 ++ [.lst l])) : WX E (eAddM a b env S) q := by
  unfold eAddM
  rw [WX_bnd]
  refine h.mono fun x S1 h1 => ?_
  rw [WX_bnd]
  refine h1.mono fun y S2 ⟨l, e, h2⟩ => ?_
  rw [e]
  dsimp only
  rw [WX_ok]; exact h2
theorem Ws_addS (h : WX E (a env S) fun x S1 => WX E (b env S1) fun y S2 => ∃ l, catS x y S2 = some l ∧ q (.lst l) S2) : WX E (eAddS a b env S) q := by
  unfold eAddS
  rw [WX_bnd]
  refine h.mono fun x S1 h1 => ?_
  rw [WX_bnd]
  refine h1.mono fun y S2 ⟨l, e, h2⟩ => ?_
  rw [e]
  dsimp only
  rw [WX_ok]; exact h2
theorem Ws_eqA {tab : ETab} {cls : List String} {opn : Bool → Bool} (h : WX E (a env S) fun x S1 => WX E (b env S1) fun y S2 => WX E (eqAM tab cls opn x y S2) q) : WX E (eEqA tab cls opn a b env S) q := by
  unfold eEqA
  rw [WX_bnd]
  refine h.mono fun x S1 h1 => ?_
  rw [WX_bnd]; exact h1
theorem Ws_eqO {cn : String} {m : Fn} {opn : Bool → Bool} (h : WX E (a env S) fun x S1 => WX E (b env S1) fun y S2 => WX E (eqM cn m opn x y S2) q) : WX E (eEqO cn m opn a b env S) q := by
  unfold eEqO
  rw [WX_bnd]
  refine h.mono fun x S1 h1 => ?_
  rw [WX_bnd]; exact h1
theorem Ws_lenO {cn : String} {m : Fn} (h : WX E (a env S) fun x S1 => WX E (lenM cn m x S1) q) : WX E (eLenO cn m a env S) q := by
  unfold eLenO
  rw [WX_bnd]; exact h
theorem Ws_frz {cf : String → List String} (h : WX E (frzM cf (a env S)) q) : WX E (eFrz cf a env S) q := by rw [u_eFrz]; exact h
theorem Ws_said {told : PySem.Str} {hp : String → List D → Option D} (k : WX (fun c fs S1 => ∃ d, hp c fs = some d ∧ q d S1) (a env S) fun d S1 => q (.tup [.str told, d]) S1) : WX E (eSaid told hp a env S) q := by
  unfold eSaid
  cases z : a env S with
  | ok d S1 => rw [z, WX_ok] at k; dsimp only; rw [WX_ok]; exact k
  | err c fs S1 =>
    rw [z, WX_err] at k
    obtain ⟨d, h1, h2⟩ := k
    dsimp only
    rw [h1, lift_some, WX_ok]; exact h2
  | bad => rw [z, WX_bad] at k; exact k.elim
theorem Ws_raise {cn : String} (h : WX E (fa env S) fun fs S1 => E cn fs S1) : WX E (sRaise cn fa env S) qc := by
  unfold sRaise
  rw [WX_bnd]
  refine h.mono fun fs S1 h1 => ?_
  rw [WX_err]; exact h1
theorem Ws_aChk {n : Nat} (h : WX E (fa env S) fun ds S1 => (ds.length = n ∧ ds.length ≤ 1000) ∧ ql ds S1) : WX E (aChk n fa env S) ql := by
  unfold aChk
  rw [WX_bnd]
  refine h.mono fun fs S1 ⟨h1, h2⟩ => ?_
  rw [if_pos h1, WX_ok]; exact h2
theorem Ws_new {cn : String} {m : List D → List D → Store → R D} {xs zs : List D} (h : WX E (m (.ref S.length :: xs) zs (S ++ [.ins cn []])) fun r S1 => r = .non ∧ q (.ref S.length) S1) : WX E (newM cn m xs zs S) q := by
  unfold newM
  rw [WX_bnd]
  refine h.mono fun r S1 ⟨h1, h2⟩ => ?_
  subst h1
  dsimp only
  rw [WX_ok]; exact h2
theorem Ws_frzI {cf : String → List String} {r : R D} (h : WX E r fun x S1 => ∃ n cn fs, x = .ref n ∧ S1[n]? = some (.ins cn fs) ∧ fs.map (·.1) = cf cn ∧ q (.obj cn (fs.map (·.2))) (S1.set n .dead)) : WX E (frzM cf r) q := by
  unfold frzM
  rw [WX_bnd]
  refine h.mono fun x S1 ⟨n, cn, fs, h1, h2, h3, h4⟩ => ?_
  subst h1
  dsimp only
  rw [h2]
  dsimp only
  rw [if_pos h3, WX_ok]; exact h4
theorem Ws_frzFn {cf : String → List String} {m : List D → List D → Store → R D} (h : WX E (fa env S) fun xs S1 => WX E (fk env S1) fun zs S2 => WX E (frzM cf (m xs zs S2)) q) : WX E (eFrz cf (eFn m fa fk) env S) q := by
  rw [u_eFrz, u_eFn]
  unfold frzM at h ⊢
  rw [bnd_assoc, WX_bnd]
  refine h.mono fun xs S1 h1 => ?_
  rw [bnd_assoc, WX_bnd]
  exact h1
theorem Ws_listM (h : WX E (fa env S) fun xs S1 => ∃ l, (xs = [.tup l] ∨ xs = [.lst l]) ∧ q (.ref S1.length) (S1 ++ [.lst l])) : WX E (eListM fa env S) q := by
  unfold eListM
  rw [WX_bnd]
  refine h.mono fun xs S1 ⟨l, h1, h2⟩ => ?_
  rcases h1 with rfl | rfl <;> (dsimp only; rw [WX_ok]; exact h2)
theorem Ws_frzLr {n : Nat} {l : List D} (h : S[n]? = some (.lst l)) (k : q (.lst l) (S.set n .dead)) : WX E (frzL (.ref n) S) q := by
  unfold frzL
  dsimp only
  rw [h]
  dsimp only
  rw [WX_ok]; exact k
theorem Ws_frzLl {l : List D} (k : q (.lst l) S) : WX E (frzL (.lst l) S) q := by
  unfold frzL
  dsimp only
  rw [WX_ok]; exact k
theorem Ws_itR1L {k : Int} (h : 0 ≤ k ∧ k < 4611686018427387904) (hq : ql (rngL 0 k.toNat) S) : WX E (itR1 (aCons (eC (.int k)) aNil) env S) ql := by
  rw [u_itR1, u_aCons, u_eC, bnd_ok, u_aNil, bnd_ok, bnd_ok]
  dsimp only
  rw [if_pos (by simp; omega), WX_ok]; exact hq
theorem Ws_ok {α : Type} {v : α} {q : α → Store → Prop} (h : q v S) : WX E (R.ok v S) q := by rw [WX_ok]; exact h
theorem Ws_itR1 (h : WX E (fa env S) fun ds S1 => ∃ k : Nat, ds = [.int k] ∧ k < 4611686018427387904 ∧ ql (rngL 0 k) S1) : WX E (itR1 fa env S) ql := by
  rw [u_itR1, WX_bnd]
  refine h.mono fun x S1 ⟨k, e, h1, h2⟩ => ?_
  subst e
  dsimp only
  rw [if_pos (by simp; omega), WX_ok, Int.toNat_natCast]; exact h2
theorem Ws_itR2 (h : WX E (fa env S) fun ds S1 => ∃ i j : Int, ds = [.int i, .int j] ∧ (small62 i && small62 j) = true ∧ ql (rngL i (j - i).toNat) S1) : WX E (itR2 fa env S) ql := by
  rw [u_itR2, WX_bnd]
  refine h.mono fun x S1 ⟨i, j, e, h1, h2⟩ => ?_
  subst e
  dsimp only
  rw [if_pos h1, WX_ok]; exact h2
theorem Ws_itAny (h : WX E (a env S) fun x S1 => ∃ l, (x = .lst l ∨ x = .tup l) ∧ ql l S1) : WX E (itAny a env S) ql := by
  rw [u_itAny, WX_bnd]
  refine h.mono fun x S1 ⟨l, e, h1⟩ => ?_
  rcases e with rfl | rfl <;> (dsimp only; rw [WX_ok]; exact h1)
theorem Ws_itEnum (h : WX E (fa env S) fun ds S1 => ∃ l, ds = [.lst l] ∧ ql (enumL 0 l) S1) : WX E (itEnum fa env S) ql := by
  unfold Ro.itEnum
  rw [WX_bnd]
  refine h.mono fun x S1 ⟨l, e, h1⟩ => ?_
  subst e
  dsimp only
  rw [WX_ok]; exact h1
/-- the rest behind a statement -/
@[irreducible] def Nx (E : String → List D → Store → Prop) (t : ES) (qc : Ctl → Store → Prop) : Ctl → Store → Prop := fun c S1 => match c with
  | .nx e => WX E (t e S1) qc
  | c => qc c S1
theorem Ws_seq (h : WX E (s env S) (Nx E t qc)) : WX E (sSeq s t env S) qc := by
  rw [u_sSeq, WX_bnd]
  refine h.mono fun c S1 h1 => ?_
  unfold Nx at h1
  cases c with
  | nx e => exact h1
  | _ => dsimp only; rw [WX_ok]; exact h1
theorem Nx.nx {e : Env} (h : WX E (t e S) qc) : Nx E t qc (.nx e) S := by unfold Nx; exact h
theorem Nx.rt (h : qc (.rt d) S) : Nx E t qc (.rt d) S := by unfold Nx; exact h
theorem Ws_set (h : WX E (e env S) fun d S1 => qc (.nx (env.set i (some d))) S1) : WX E (sSet i e env S) qc := by
  rw [u_sSet, WX_bnd]
  refine h.mono fun x S1 h1 => ?_
  rw [WX_ok]; exact h1
theorem Ws_pass (h : qc (.nx env) S) : WX E (sPass env S) qc := by rw [u_sPass, WX_ok]; exact h
theorem Ws_iff (h : WX E (f env S) fun k S1 => Br k (WX E (s env S1) qc) (WX E (t env S1) qc)) : WX E (sIf f s t env S) qc := by
  rw [u_sIf, WX_bnd]
  refine h.mono fun k S1 ⟨h1, h2⟩ => ?_
  cases k with
  | true => rw [if_pos rfl]; exact h1 rfl
  | false => rw [if_neg Bool.false_ne_true]; exact h2 rfl
theorem Ws_ret (h : WX E (e env S) fun d S1 => qc (.rt d) S1) : WX E (sRet e env S) qc := by
  rw [u_sRet, WX_bnd]
  refine h.mono fun x S1 h1 => ?_
  rw [WX_ok]; exact h1
theorem Ws_expr (h : WX E (e env S) fun _ S1 => qc (.nx env) S1) : WX E (sExpr e env S) qc := by
  rw [u_sExpr, WX_bnd]
  refine h.mono fun x S1 h1 => ?_
  rw [WX_ok]; exact h1
theorem Ws_par2 (h : WX E (fa env S) fun xs S1 => ∃ x y, xs = [x, y] ∧ qc (.nx ((env.set i (some x)).set j (some y))) S1) : WX E (sPar2 i j fa env S) qc := by
  rw [u_sPar2, WX_bnd]
  refine h.mono fun xs S1 ⟨x, y, e, h1⟩ => ?_
  subst e
  dsimp only
  rw [WX_ok]; exact h1
theorem Ws_par3 {l : Nat} (h : WX E (fa env S) fun xs S1 => ∃ x y z, xs = [x, y, z] ∧ qc (.nx (((env.set i (some x)).set j (some y)).set l (some z))) S1) : WX E (sPar3 i j l fa env S) qc := by
  unfold sPar3
  rw [WX_bnd]
  refine h.mono fun xs S1 ⟨x, y, z, e, h1⟩ => ?_
  subst e
  dsimp only
  rw [WX_ok]; exact h1
theorem Ws_unp {p : Pat} (h : WX E (e env S) fun d S1 => ∃ env', p d env = some env' ∧ qc (.nx env') S1) : WX E (sUnp p e env S) qc := by
  rw [u_sUnp, WX_bnd]
  refine h.mono fun x S1 ⟨e1, h1, h2⟩ => ?_
  rw [h1]
  dsimp only
  rw [WX_ok]; exact h2
theorem Ws_forr {it : AX} {tg : Pat} (h : WX E (it env S) fun xs S1 => WX E (Ro.loop tg s xs env S1) qc) : WX E (sFor it tg s env S) qc := by
  rw [u_sFor, WX_bnd]; exact h
theorem Ws_setAttr {cs : List String} {fn : String} (h : WX E (e env S) fun y S1 => WX E (a env S1) fun x S2 => ∃ n cn fs, x = .ref n ∧ S2[n]? = some (.ins cn fs) ∧ (cs.contains cn && decide (fs.length < 1000)) = true ∧ qc (.nx env) (S2.set n (.ins cn (setF fn y fs)))) : WX E (sSetAttr cs fn a e env S) qc := by
  rw [u_sSetAttr, WX_bnd]
  refine h.mono fun y S1 h1 => ?_
  rw [WX_bnd]
  refine h1.mono fun x S2 ⟨n, cn, fs, e1, e2, e3, h2⟩ => ?_
  subst e1
  dsimp only
  rw [e2]
  dsimp only
  rw [if_pos e3, WX_ok]; exact h2
theorem Ws_setIt {o v : EX} (h : WX E (v env S) fun z S1 => WX E (o env S1) fun x S2 => WX E (a env S2) fun y S3 => ∃ S4, setM x y z S3 = some S4 ∧ qc (.nx env) S4) : WX E (sSetIt o a v env S) qc := by
  rw [u_sSetIt, WX_bnd]
  refine h.mono fun z S1 h1 => ?_
  rw [WX_bnd]
  refine h1.mono fun x S2 h2 => ?_
  rw [WX_bnd]
  refine h2.mono fun y S3 ⟨S4, e, h3⟩ => ?_
  rw [e]
  dsimp only
  rw [WX_ok]; exact h3
/-- behind a def's body -/
@[irreducible] def Fq (q : D → Store → Prop) : Ctl → Store → Prop := fun c S1 => match c with
    | .rt d => q d S1
    | .nx _ => q .non S1
    | _ => False
theorem Fq.rt (h : q d S) : Fq q (.rt d) S := by unfold Fq; exact h
theorem Fq.nx {e : Env} (h : q .non S) : Fq q (.nx e) S := by unfold Fq; exact h
/-- a def's body -/
theorem Ws_fn {body : ES} {ds : List D} {env : Env} (he : ds.map some ++ List.replicate (n - ds.length) none = env) (h : WX E (body env S) (Fq q)) : WX E (fnM n body ds S) q := by
  rw [u_fnM, he, WX_bnd]
  refine h.mono fun c S1 h1 => ?_
  unfold Fq at h1
  cases c with
  | rt d => dsimp only; rw [WX_ok]; exact h1
  | nx e => dsimp only; rw [WX_ok]; exact h1
  | bk e => exact h1.elim
  | ct e => exact h1.elim
theorem Ws_lcc {vs : List Nat} {it : AX} {tg : Pat} (h : WX E (it env S) fun xs S1 => WX E (lcLoop tg f a (wipeE env vs) xs [] S1) fun ys S2 => q (.lst ys) S2) : WX E (eLC vs it tg f a env S) q := by
  rw [u_eLC, WX_bnd]
  refine h.mono fun xs S1 h1 => ?_
  rw [WX_bnd]
  refine h1.mono fun ys S2 h2 => ?_
  rw [WX_ok]; exact h2
end
/-- grown by what is not looked at -/
def Ext (S S' : Store) : Prop := ∃ X, S' = S ++ X
theorem Ext.refl (S : Store) : Ext S S := ⟨[], by simp⟩
theorem Ext.trans {S S1 S2 : Store} (h : Ext S S1) (k : Ext S1 S2) : Ext S S2 := by
  obtain ⟨X, rfl⟩ := h
  obtain ⟨Y, rfl⟩ := k
  exact ⟨X ++ Y, by rw [List.append_assoc]⟩
theorem Ext.app (S X : Store) : Ext S (S ++ X) := ⟨X, rfl⟩
theorem Ext.at {S S' : Store} (h : Ext S S') {n : Nat} (hn : n < S.length) : S'[n]? = S[n]? := by
  obtain ⟨X, rfl⟩ := h
  exact List.getElem?_append_left hn
theorem Ext.len {S S' : Store} (h : Ext S S') : S.length ≤ S'.length := by
  obtain ⟨X, rfl⟩ := h
  simp
theorem Ext.cell {S S' : Store} (h : Ext S S') {n : Nat} {c : Cell} (hn : S[n]? = some c) : S'[n]? = some c := by
  rw [h.at (List.getElem?_eq_some_iff.mp hn).1]; exact hn
theorem WX.useE {α : Type} {E : String → List D → Store → Prop} {r : R α} {v : α} {S : Store} {q : α → Store → Prop} (h : W r fun d S' => d = v ∧ Ext S S') (k : ∀ S1, Ext S S1 → q v S1) : WX E r q :=
  WX.use h fun d S1 ⟨e, x⟩ => by subst e; exact k S1 x
theorem W.ext {α : Type} {r : R α} {v : α} {S X : Store} (h : r = .ok v (S ++ X)) : W r fun d S' => d = v ∧ Ext S S' := W.eq h ⟨rfl, X, rfl⟩
/-- what a loop's body leaves -/
@[irreducible] def Lp (I : Env → Store → Prop) (qc : Ctl → Store → Prop) : Ctl → Store → Prop := fun c S1 => match c with
  | .nx e => I e S1
  | .ct e => I e S1
  | .bk e => qc (.nx e) S1
  | .rt d => qc (.rt d) S1
theorem Lp.nx {I : Env → Store → Prop} {qc : Ctl → Store → Prop} {e : Env} {S : Store} (h : I e S) : Lp I qc (.nx e) S := by unfold Lp; exact h
theorem Lp.ct {I : Env → Store → Prop} {qc : Ctl → Store → Prop} {e : Env} {S : Store} (h : I e S) : Lp I qc (.ct e) S := by unfold Lp; exact h
theorem Lp.bk {I : Env → Store → Prop} {qc : Ctl → Store → Prop} {e : Env} {S : Store} (h : qc (.nx e) S) : Lp I qc (.bk e) S := by unfold Lp; exact h
theorem Lp.rt {I : Env → Store → Prop} {qc : Ctl → Store → Prop} {d : D} {S : Store} (h : qc (.rt d) S) : Lp I qc (.rt d) S := by unfold Lp; exact h
/-- a loop by what stays -/
theorem WX.loop {E : String → List D → Store → Prop} {tg : Pat} {body : ES} {I : Nat → Env → Store → Prop} {q : Ctl → Store → Prop} : ∀ {xs : List D} {k : Nat} {env : Env} {S : Store}, I k env S →
    (∀ (i : Nat) x env S, k ≤ i → xs[i - k]? = some x → I i env S → ∃ env1, tg x env = some env1 ∧ WX E (body env1 S) (Lp (I (i + 1)) q)) →
    (∀ env S, I (k + xs.length) env S → q (.nx env) S) → WX E (Ro.loop tg body xs env S) q
  | [], k, env, S, h, _, fin => by rw [Ro.loop, WX_ok]; exact fin env S h
  | x :: xs, k, env, S, h, step, fin => by
    obtain ⟨env1, e1, h1⟩ := step k x env S (Nat.le_refl _) (by simp) h
    unfold Ro.loop
    rw [e1]
    dsimp only
    rw [WX_bnd]
    refine h1.mono fun c S1 hc => ?_
    have next : ∀ e, I (k + 1) e S1 → WX E (Ro.loop tg body xs e S1) q := fun e he => WX.loop (k := k + 1) he (fun i y env S hi hy => step i y env S (by omega) (by
      have : i - k = (i - (k + 1)) + 1 := by omega
      rw [this, List.getElem?_cons_succ]
      exact hy)) (fun env S hI => fin env S (by
      have : k + (x :: xs).length = k + 1 + xs.length := by simp; omega
      rw [this]
      exact hI))
    unfold Lp at hc
    cases c with
    | nx e => exact next e hc
    | ct e => exact next e hc
    | bk e => dsimp only; rw [WX_ok]; exact hc
    | rt d => dsimp only; rw [WX_ok]; exact hc
theorem Ws_loop {E : String → List D → Store → Prop} {I : Env → Store → Prop} {tg : Pat} {body : ES} {xs : List D} {env : Env} {S : Store} {qc : Ctl → Store → Prop} (h0 : I env S)
    (step : ∀ x ∈ xs, ∀ env S, I env S → ∃ env1, tg x env = some env1 ∧ WX E (body env1 S) (Lp I qc)) (fin : ∀ env S, I env S → qc (.nx env) S) : WX E (Ro.loop tg body xs env S) qc := by
  refine WX.loop (I := fun _ => I) (k := 0) h0 (fun i x env S _ hx hI => ?_) (fun env S hI => fin env S hI)
  obtain ⟨e1, h1, h2⟩ := step x (List.mem_of_getElem? hx) env S hI
  exact ⟨e1, h1, h2⟩
/-- .. by an index -/
theorem Ws_loopI {E : String → List D → Store → Prop} {I : Nat → Env → Store → Prop} {tg : Pat} {body : ES} {xs : List D} {env : Env} {S : Store} {qc : Ctl → Store → Prop} (h0 : I 0 env S)
    (step : ∀ i x, xs[i]? = some x → ∀ env S, I i env S → ∃ env1, tg x env = some env1 ∧ WX E (body env1 S) (Lp (I (i + 1)) qc)) (fin : ∀ env S, I xs.length env S → qc (.nx env) S) : WX E (Ro.loop tg body xs env S) qc := by
  refine WX.loop (I := I) (k := 0) h0 (fun i x env S _ hx hI => ?_) (fun env S hI => fin env S (by rw [Nat.zero_add] at hI; exact hI))
  obtain ⟨e1, h1, h2⟩ := step i x (by simpa using hx) env S hI
  exact ⟨e1, h1, h2⟩
/-- the part of an index -/
def atI (l : List D) : D → D
  | .int i => l.getD i.toNat .non
  | _ => .non
theorem rng_mem {n : Nat} {x : D} (h : x ∈ rngL 0 n) : ∃ i : Nat, i < n ∧ x = .int (i : Int) := by
  obtain ⟨i, hi⟩ := List.mem_iff_getElem?.mp h
  obtain ⟨hlt, rfl⟩ := rng_get hi
  exact ⟨i, hlt, by rw [Int.zero_add]⟩
/-- a comprehension whose parts turn nothing -/
theorem Ws_lcm {E : String → List D → Store → Prop} {tg : Pat} {el : EX} {env0 : Env} {xs : List D} {S : Store} {ql : List D → Store → Prop} (g : D → D) (hl : xs.length ≤ 16777216)
    (h : ∀ x ∈ xs, ∃ e, tg x env0 = some e ∧ W (el e S) fun d S' => d = g x ∧ S' = S) (k : ql (xs.map g) S) : WX E (lcLoop tg bYes el env0 xs [] S) ql := by
  refine WX.use (p := ql) (W.lc (I := fun i acc S' => acc = (xs.take i).map g ∧ S' = S) (k := 0) ⟨rfl, rfl⟩ (by simpa using hl) (fun i x acc S' _ hx hI => ?_) (fun acc S' hI => ?_)) fun _ _ h => h
  · obtain ⟨rfl, rfl⟩ := hI
    rw [Nat.sub_zero] at hx
    obtain ⟨e, h1, h2⟩ := h x (List.mem_of_getElem? hx)
    refine ⟨e, h1, ?_⟩
    rw [u_bYes, W_ok, if_pos rfl]
    refine h2.mono fun d S1 ⟨h3, h4⟩ => ⟨?_, h4⟩
    obtain ⟨hlt, rfl⟩ := List.getElem?_eq_some_iff.mp hx
    rw [h3, List.take_succ_eq_append_getElem hlt, List.map_append]
    rfl
  · obtain ⟨rfl, rfl⟩ := hI
    rw [Nat.zero_add, List.take_length]
    exact k
theorem Ws_lcf {E : String → List D → Store → Prop} {tg : Pat} {c : BX} {el : EX} {env0 : Env} {xs : List D} {S : Store} {ql : List D → Store → Prop} (p : D → Bool) (g : D → D) (hl : xs.length ≤ 16777216)
    (h : ∀ x ∈ xs, ∃ e, tg x env0 = some e ∧ W (c e S) fun b S' => b = p x ∧ S' = S ∧ (p x = true → W (el e S) fun d S' => d = g x ∧ S' = S)) (k : ql ((xs.filter p).map g) S) : WX E (lcLoop tg c el env0 xs [] S) ql := by
  refine WX.use (p := ql) (W.lc (I := fun i acc S' => acc = ((xs.take i).filter p).map g ∧ S' = S) (k := 0) ⟨rfl, rfl⟩ (by simpa using hl) (fun i x acc S' _ hx hI => ?_) (fun acc S' hI => ?_)) fun _ _ h => h
  · obtain ⟨rfl, rfl⟩ := hI
    rw [Nat.sub_zero] at hx
    obtain ⟨e, h1, h2⟩ := h x (List.mem_of_getElem? hx)
    refine ⟨e, h1, h2.mono fun b S1 ⟨hb, hS, hy⟩ => ?_⟩
    obtain ⟨hlt, rfl⟩ := List.getElem?_eq_some_iff.mp hx
    have e2 : xs.take (i + 1) = xs.take i ++ [xs[i]] := List.take_succ_eq_append_getElem hlt
    cases z : p xs[i] with
    | true =>
      rw [hb, z, if_pos rfl, hS]
      refine (hy z).mono fun d S2 ⟨h3, h4⟩ => ⟨?_, h4⟩
      rw [h3, e2, List.filter_append, List.map_append]
      simp [z]
    | false =>
      rw [hb, z, if_neg Bool.false_ne_true]
      refine ⟨?_, hS⟩
      rw [e2, List.filter_append]
      simp [z]
  · obtain ⟨rfl, rfl⟩ := hI
    rw [Nat.zero_add, List.take_length]
    exact k
/-- a comprehension by what stays -/
theorem Ws_lcI {E : String → List D → Store → Prop} (I : Nat → List D → Store → Prop) {tg : Pat} {el : EX} {env0 : Env} {xs : List D} {S : Store} {ql : List D → Store → Prop} (h0 : I 0 [] S) (hl : xs.length ≤ 16777216)
    (step : ∀ i x acc S, xs[i]? = some x → I i acc S → ∃ e, tg x env0 = some e ∧ W (el e S) fun y S2 => I (i + 1) (acc ++ [y]) S2) (fin : ∀ acc S, I xs.length acc S → ql acc S) : WX E (lcLoop tg bYes el env0 xs [] S) ql := by
  refine WX.use (p := ql) (W.lc (I := I) (k := 0) h0 (by simpa using hl) (fun i x acc S _ hx hI => ?_) (fun acc S hI => fin acc S (by rw [Nat.zero_add] at hI; exact hI))) fun _ _ h => h
  obtain ⟨e, h1, h2⟩ := step i x acc S (by simpa using hx) hI
  refine ⟨e, h1, ?_⟩
  rw [u_bYes, W_ok, if_pos rfl]
  exact h2
theorem exI {α : Sort _} {p q : α → Prop} (w : α) (h1 : p w) (h2 : q w) : ∃ d, p d ∧ q d := ⟨w, h1, h2⟩
theorem exI2 {α : Sort _} {p q r : α → Prop} (w : α) (h1 : p w) (h2 : q w) (h3 : r w) : ∃ d, p d ∧ q d ∧ r d := ⟨w, h1, h2, h3⟩
theorem v_add {i j : Int} : addD (.int i) (.int j) = some (.int (i + j)) := rfl
theorem v_sub {i j : Int} : subD (.int i) (.int j) = some (.int (i - j)) := rfl
theorem v_mul {i j : Int} (h : mulOk i j = true) : mulD (.int i) (.int j) = some (.int (i * j)) := by rw [o_mul, if_pos h]
theorem v_eqi {i j : Int} : eqD (.int i) (.int j) = some (.bl (decide (i = j))) := by unfold eqD; rw [if_pos (by rfl), pyEq_int]
theorem v_nei {i j : Int} : neD (.int i) (.int j) = some (.bl (!decide (i = j))) := by unfold neD; rw [if_pos (by rfl), pyEq_int]
theorem v_eqs {i j : Str} : eqD (.str i) (.str j) = some (.bl (decide (i = j))) := by unfold eqD; rw [if_pos (by rfl), pyEq_str]
theorem v_nes {i j : Str} : neD (.str i) (.str j) = some (.bl (!decide (i = j))) := by unfold neD; rw [if_pos (by rfl), pyEq_str]
/-- a named tail and what it is -/
class Tl {α : Sort _} (a : α) (b : outParam α) : Prop where
  e : a = b
theorem Ws_tl {E : String → List D → Store → Prop} {s t : ES} {env : Env} {S : Store} {qc : Ctl → Store → Prop} [z : Tl s t] (h : WX E (t env S) qc) : WX E (s env S) qc := by rw [z.e]; exact h
end Ro
end
/-- one step of a mirror's run -/
local macro_rules
  | `(tactic| wtm_at "w1") => `(tactic| with_reducible first
    | refine Ro.Ws_var (by with_unfolding_all rfl) ?_
    | refine Ro.Ws_c ?_
    | refine Ro.Ws_op ?_
    | refine Ro.Ws_acons ?_
    | refine Ro.Ws_anil ?_
    | refine Ro.Ws_idx ?_
    | refine Ro.Ws_fnC ?_
    | (refine Ro.Ws_call (by simp only [Ro.u_pick0, Ro.u_pick1, if_true, if_false, List.getElem?_cons_zero, List.getElem?_cons_succ, Option.toList_some, List.cons_append, List.nil_append, List.append_nil, Nat.one_ne_zero, if_pos, if_neg, ↓reduceIte, reduceCtorEq, Nat.reduceEqDiff]; with_unfolding_all rfl) (by with_unfolding_all exact ⟨rfl, rfl, rfl⟩) ?_)
    | refine Ro.Ws_bVal ?_
    | refine Ro.Ws_bOf ?_
    | refine Ro.Ws_bAnd ?_
    | refine Ro.Ws_bOr ?_
    | refine Ro.Ws_bNot ?_
    | refine Ro.Ws_eAnd ?_
    | refine Ro.Ws_eOr ?_
    | refine Ro.Ws_eOrT ?_
    | refine Ro.Ws_eNot ?_
    | refine Ro.Ws_eIf ?_
    | refine Ro.Ws_chain ?_
    | refine Ro.Ws_oNone ?_
    | refine Ro.Ws_oSome ?_
    | refine Ro.Ws_cut ?_
    | refine Ro.Ws_isI ?_
    | refine Ro.Ws_attr ?_
    | refine Ro.Ws_eB ?_
    | refine Ro.Ws_eBS ?_
    | refine Ro.Ws_meth ?_
    | refine Ro.Ws_tup ?_
    | refine Ro.Ws_lst ?_
    | refine Ro.Ws_lstM ?_
    | refine Ro.Ws_opS ?_
    | refine Ro.Ws_un ?_
    | refine Ro.Ws_app ?_
    | refine Ro.Ws_frzL ?_
    | refine Ro.Ws_addM ?_
    | refine Ro.Ws_addS ?_
    | refine Ro.Ws_eqA ?_
    | refine Ro.Ws_eqO ?_
    | refine Ro.Ws_lenO ?_
    | refine Ro.Ws_listM ?_
    | refine Ro.Ws_frzLr (by assumption) ?_
    | refine Ro.Ws_frzLl ?_
    | refine Ro.Ws_frzFn ?_
    | refine Ro.Ws_frz ?_
    | refine Ro.Ws_itR1L (by decide) ?_
    | refine Ro.Ws_itR1 ?_
    | refine Ro.Ws_itR2 ?_
    | refine Ro.Ws_itAny ?_
    | refine Ro.Ws_itEnum ?_
    | refine Ro.Ws_seq ?_
    | (refine Ro.Nx.nx ?_; try simp only [List.set_cons_zero, List.set_cons_succ])
    | refine Ro.Nx.rt ?_
    | refine Ro.Fq.rt ?_
    | refine Ro.Fq.nx ?_
    | refine Ro.Ws_ok ?_
    | refine Ro.W.ofX ?_
    | refine Ro.Ws_said ?_
    | refine Ro.Ws_raise ?_
    | refine Ro.Ws_aChk ?_
    | refine Ro.Ws_new ?_
    | refine Ro.Ws_frzI ?_
    | refine Ro.Lp.rt ?_
    | refine Ro.Lp.bk ?_
    | refine Ro.Ws_set ?_
    | refine Ro.Ws_iff ?_
    | refine Ro.Ws_ret ?_
    | refine Ro.Ws_expr ?_
    | refine Ro.Ws_pass ?_
    | refine Ro.Ws_par2 ?_
    | refine Ro.Ws_par3 ?_
    | refine Ro.Ws_unp ?_
    | refine Ro.Ws_forr ?_
    | refine Ro.Ws_setAttr ?_
    | refine Ro.Ws_setIt ?_
    | refine Ro.Ws_lcc ?_)
/-- .. of its side conditions -/
local macro_rules
  | `(tactic| wtm_at "w2") => `(tactic| first
    | with_reducible refine Ro.Br.yes ?_
    | with_reducible refine Ro.Br.no ?_
    | with_reducible refine Ro.Br.tt (by assumption) ?_
    | with_reducible refine Ro.Br.ff (by assumption) ?_
    | refine Ro.Br.tt (by decide) ?_
    | refine Ro.Br.ff (by decide) ?_
    | refine Ro.Br.tt (by rfl) ?_
    | refine Ro.Br.ff (by rfl) ?_
    | (with_reducible apply Ro.Br.tt; focus (simp; done))
    | (with_reducible apply Ro.Br.ff; focus (simp; done))
    | with_reducible refine Exists.intro _ (And.intro (by assumption) ?_)
    | with_reducible refine Exists.intro _ (And.intro Ro.v_add ?_)
    | with_reducible refine Exists.intro _ (And.intro Ro.v_sub ?_)
    | with_reducible refine Exists.intro _ (And.intro (Ro.v_mul (by assumption)) ?_)
    | with_reducible refine Exists.intro _ (And.intro Ro.v_eqi ?_)
    | with_reducible refine Exists.intro _ (And.intro Ro.v_nei ?_)
    | with_reducible refine Exists.intro _ (And.intro Ro.v_eqs ?_)
    | with_reducible refine Exists.intro _ (And.intro Ro.v_nes ?_)
    | with_reducible refine And.intro (by assumption) ?_
    | with_reducible refine Exists.intro _ (And.intro rfl ?_)
    | with_reducible refine Exists.intro _ (And.intro (Or.inl rfl) ?_)
    | with_reducible refine Exists.intro _ (And.intro (Or.inr rfl) ?_)
    | (with_reducible refine And.intro ?_ ?_; focus (with_unfolding_all exact ⟨rfl, Nat.le_of_ble_eq_true rfl⟩))
    | (with_reducible refine And.intro ?_ ?_; focus (with_unfolding_all exact Nat.le_of_ble_eq_true rfl))
    | (with_reducible refine And.intro ?_ ?_; focus (with_unfolding_all rfl))
    | (with_reducible apply Ro.exI2; focus (with_unfolding_all rfl); focus (with_unfolding_all rfl))
    | (with_reducible apply Ro.exI; focus (with_unfolding_all rfl))
    | (with_reducible refine Exists.intro _ (Exists.intro _ (And.intro rfl ?_)))
    | (with_reducible refine And.intro ?_ ?_; focus omega))
local macro_rules
  | `(tactic| apply_rules only [$x:ident]) => `(tactic| ((first | refine Ro.W.ofX ?_ | skip); refine Ro.Ws_fn (by simp only [List.map_cons, List.map_nil, List.length_cons, List.length_nil, Nat.reduceAdd, Nat.reduceSub, List.replicate_succ, List.replicate_zero, List.replicate, List.cons_append, List.nil_append]; with_unfolding_all rfl) ?_; first | rw [$x:ident] | unfold $x:ident))
/-- a store that grew from another one -/
local macro_rules
  | `(tactic| wtm_at "wext") => `(tactic| repeat first | assumption | exact Ro.Ext.refl _ | (with_reducible refine Ro.Ext.trans ?_ (by assumption)) | with_reducible refine Ro.Ext.trans ?_ (Ro.Ext.app _ _))
/-- a mirror's run, as far as it goes by itself; the facts are equations of calls and operations -/
local macro_rules
  | `(tactic| apply_rules) => `(tactic| repeat first | wtm_at "w1" | wtm_at "w2" | with_reducible refine Ro.Ws_tl ?_)
  | `(tactic| apply_rules [$ys,*]) => do
    let xs ← ys.getElems.mapM fun y => match y with
      | `(Lean.Parser.Tactic.SolveByElim.arg| $x:term) => pure x
      | _ => Lean.Macro.throwUnsupported
    let ls ← xs.mapM fun x => `(Lean.Parser.Tactic.simpLemma| $x:term)
    let mut t ← `(tactic| first | (with_reducible apply Ro.Br.tt; focus (simp only [$ls,*, Bool.not_true, Bool.not_false, decide_true, decide_false, Bool.and_true, Bool.true_and, Bool.and_false, Bool.false_and, Bool.or_true, Bool.true_or, Bool.or_false, Bool.false_or, id_eq, decide_eq_true_eq, Bool.false_eq_true, not_false_eq_true, not_true_eq_false]; done)) | (with_reducible apply Ro.Br.ff; focus (simp only [$ls,*, Bool.not_true, Bool.not_false, decide_true, decide_false, Bool.and_true, Bool.true_and, Bool.and_false, Bool.false_and, Bool.or_true, Bool.true_or, Bool.or_false, Bool.false_or, id_eq, decide_eq_true_eq, Bool.false_eq_true, Bool.true_eq_false, not_false_eq_true, not_true_eq_false]; done)))
    for x in xs.reverse do
      t ← `(tactic| first | refine Ro.WX.eq (by with_reducible apply $x) ?_ | (refine Ro.WX.useE (by with_reducible apply $x) ?_; intro _ _) | refine Ro.WX.eqE (by with_reducible apply $x) ?_ | (with_reducible apply Ro.exI; focus (with_reducible apply $x)) | $t:tactic)
    `(tactic| repeat first | $t:tactic | wtm_at "w1" | wtm_at "w2" | with_reducible refine Ro.Ws_tl ?_)
section
set_option Elab.async false
set_option linter.all false
set_option maxRecDepth 100000
set_option maxHeartbeats 4000000
namespace Ro
open PySem PySem.Spec PyProof.Rows L2
def Sm (s0 s : Shared) : Prop := ∃ h t, s = { s0 with heap := h, toks := t } ∧ ∀ b o, s0.heap.get? b = some o → h.get? b = some o
theorem Sm.refl (s : Shared) : Sm s s := ⟨s.heap, s.toks, rfl, fun _ _ e => e⟩
theorem Sm.tok (s : Shared) (t : Nat) : Sm s { s with toks := t } := ⟨s.heap, t, rfl, fun _ _ e => e⟩
theorem Sm.trans {s s1 s2 : Shared} (a : Sm s s1) (b : Sm s1 s2) : Sm s s2 := by
  obtain ⟨h, t, rfl, k⟩ := a
  obtain ⟨h2, t2, rfl, k2⟩ := b
  exact ⟨h2, t2, rfl, fun b o e => k2 b o (k b o e)⟩
def EPq (X : Cx) (pins : List (Addr × Obj)) (σ : L2.St) (s : Shared) (Q : VK) (u : Value) (s' : Shared) : Prop := ∃ v H', Inv X pins σ H' s' ∧ Sm s s' ∧ RelV v u ∧ Q v H'
def APq (X : Cx) (pins : List (Addr × Obj)) (σ : L2.St) (s : Shared) (Q : List V → Hp → Prop) (us : List Value) (s' : Shared) : Prop := ∃ vs H', Inv X pins σ H' s' ∧ Sm s s' ∧ Vals vs us ∧ Q vs H'
/-- a reading of what only tells -/
def tQ (T : Tb) (f : EX) : TE := fun σ H Q => ∃ w env S d, WR T w S H ∧ ER T w env σ ∧ f env S = .ok d S ∧ ∀ w' H' v, w.le w' → WR T w' S H' → Rep T w' d v → Q v H'
structure QI (T : Tb) (X : Cx) (e : Expr) (f : EX) : Prop where
  pu : ∀ env S d S', f env S = .ok d S' → S' = S
  run : ∀ (pins : List (Addr × Obj)) (s : Shared) (σ : L2.St) (H : Hp) (Q : VK), Inv X pins σ H s → tQ T f σ H Q → wpAny (model X.prog X.w) X.A (eval e X.env) (EPq X pins σ s Q) (fun _ _ => False) s
section
variable {T : Tb} {X : Cx} {a b e : Expr} {es : List Expr} {f g : EX} {fa : AX} {pos : Pos}
theorem qi_v (i : Nat) {x : Str} (hN : X.N[i]? = some x := by rfl) (hv : Vis X.env.scope x := by first | exact .inl rfl | exact .inr (.inl rfl)) (hd : (x == ("__debug__" : Str)) = false := by decide +kernel) (hcd : (x == ("__classdict__" : Str)) = false := by decide +kernel) : QI T X (.Name x pos) (eVar i) := by
  refine ⟨fun env S d S' h => ?_, ?_⟩
  · rw [u_eVar] at h
    split at h <;> cases h
    rfl
  intro pins s σ H Q I ⟨w, env, S, d, r, e, hf, q⟩
  have hi : env[i]? = some (some d) := by
    rw [u_eVar] at hf
    split at hf
    · rename_i d2 h; cases hf; exact h
    · cases hf
  obtain ⟨v, h1, h2⟩ := e.2 i d hi
  obtain ⟨m, hn, hl⟩ := I.loc
  obtain ⟨u, ru, l⟩ := hl i x v hN h1 hv
  have fin : EPq X pins σ s Q u s := ⟨v, H, I, Sm.refl s, ru, q w H v (Wd.le.refl _) r h2⟩
  rcases l with ⟨hk, hm⟩ | ⟨hk, c, hc, hcell⟩
  · exact wpAny_Name (wpAny_loadName_local I.ok.kind hk hn hm fin) hd
  · rcases hk with hk | hk
    · exact wpAny_Name (wpAny_loadName_cell I.ok.kind hk hc hcell fin) hd
    · exact wpAny_Name (wpAny_loadName_free I.ok.kind hk hc hcell fin hcd) hd
theorem bnd_ok_inv {α β : Type} {r : R α} {f : α → Store → R β} {y : β} {S' : Store} (h : r.bnd f = .ok y S') : ∃ x S1, r = .ok x S1 ∧ f x S1 = .ok y S' := by
  cases r with
  | ok x S1 => exact ⟨x, S1, rfl, h⟩
  | err c fs S1 => cases h
  | bad => cases h
theorem lift_inv {o : Option D} {S S' : Store} {d : D} (h : lift o S = .ok d S') : o = some d ∧ S' = S := by
  cases o with
  | none => cases h
  | some x => cases h; exact ⟨rfl, rfl⟩
/-- o.f -/
theorem qi_attr {cf : String → List String} {cs : List String} {fn : String} (hcf : T.cf = cf) (hK : X.K = T.K) (hc : ∀ c ∈ cs, Cls T.K (He.ga T.K (c : Str)) ∧ NoAttr T.K (He.ga T.K (c : Str)) (fn : Str)) (ha : QI T X a f)
    (hb : attributeBase a (fn : Str) X.env (eval a X.env) = eval a X.env := by rfl) : QI T X (.Attribute a (fn : Str) pos) (eAttr cf cs fn f) := by
  refine ⟨fun env S d S' h => ?_, ?_⟩
  · obtain ⟨x, S1, h1, h2⟩ := bnd_ok_inv (show (f env S).bnd (fun x S1 => lift (attrD cf cs fn x S1) S1) = .ok d S' from h)
    obtain rfl := ha.pu _ _ _ _ h1
    exact (lift_inv h2).2
  intro pins s σ H Q I ⟨w, env, S, d, r, e, hf, q⟩
  obtain ⟨x, S1, h1, h2⟩ := bnd_ok_inv (show (f env S).bnd (fun x S1 => lift (attrD cf cs fn x S1) S1) = .ok d S from hf)
  obtain rfl := ha.pu _ _ _ _ h1
  obtain ⟨z, _⟩ := lift_inv h2
  refine attr_of hb (thn (ha.run pins s σ H (fun v H' => ∃ w', w.le w' ∧ WR T w' S1 H' ∧ Rep T w' x v) I ⟨w, env, S1, x, r, e, h1, fun w' H' v l r' p => ⟨w', l, r', p⟩⟩) fun u s1 ⟨v, H1, I1, sm1, rv, w1, l1, r1, p1⟩ => ?_)
  obtain ⟨i1, i2⟩ := inst_of hcf r1 p1
  unfold attrD at z
  split at z
  · rename_i c ds _
    by_cases hcs : cs.contains c = true
    · rw [if_pos hcs] at z
      obtain ⟨p, dx, gs, rfl, h3, h4, h5⟩ := i1 c ds rfl
      obtain ⟨v, h6, h7⟩ := lookup_rep h4 h5 z
      obtain ⟨c1, c2⟩ := hc c (by simpa using hcs)
      obtain rfl : u = Value.ref p := rv
      obtain ⟨mA, O, ro, _, _, _⟩ := ins_get I1.hok h3
      obtain ⟨uu, hu, ru⟩ := RelO.some_of (v := v) (o := mA (fn : Str)) (by rw [← h6]; exact ro _)
      exact get_map I1.kIn O (by rw [hK]; exact c1.get _) (by rw [hK]; exact c1.hd) (by rw [hK]; exact c2) hu (handed_of ru) ⟨v, H1, I1.tok _, sm1.trans (Sm.tok _ _), ru, q w1 H1 v l1 r1 h7⟩
    · rw [if_neg hcs] at z; cases z
  · rename_i n _
    split at z
    · rename_i c fs hS
      by_cases hcs : cs.contains c = true
      · rw [if_pos hcs] at z
        obtain ⟨p, dx, gs, rfl, _, h3, h4, h5⟩ := i2 n c fs rfl hS
        obtain ⟨v, h6, h7⟩ := lookup_rep h4 h5 z
        obtain ⟨c1, c2⟩ := hc c (by simpa using hcs)
        obtain rfl : u = Value.ref p := rv
        obtain ⟨mA, O, ro, _, _, _⟩ := ins_get I1.hok h3
        obtain ⟨uu, hu, ru⟩ := RelO.some_of (v := v) (o := mA (fn : Str)) (by rw [← h6]; exact ro _)
        exact get_map I1.kIn O (by rw [hK]; exact c1.get _) (by rw [hK]; exact c1.hd) (by rw [hK]; exact c2) hu (handed_of ru) ⟨v, H1, I1.tok _, sm1.trans (Sm.tok _ _), ru, q w1 H1 v l1 r1 h7⟩
      · rw [if_neg hcs] at z; cases z
    · cases z
  · cases z
/-- not a -/
theorem qi_not (ha : QI T X a f) : QI T X (.UnaryOp .Not a pos) (eNot f) := by
  refine ⟨fun env S d S' h => ?_, ?_⟩
  · obtain ⟨x, S1, h1, h2⟩ := bnd_ok_inv (show (f env S).bnd _ = .ok d S' from h)
    obtain rfl := ha.pu _ _ _ _ h1
    split at h2
    · cases h2; rfl
    · cases h2
  intro pins s σ H Q I ⟨w, env, S, d, r, e, hf, q⟩
  obtain ⟨x, S1, h1, h2⟩ := bnd_ok_inv (show (f env S).bnd _ = .ok d S from hf)
  obtain rfl := ha.pu _ _ _ _ h1
  split at h2
  · rename_i k
    cases h2
    refine UnaryOp_ (thn (ha.run pins s σ H (fun v H' => ∃ w', w.le w' ∧ WR T w' S1 H' ∧ Rep T w' (.bl k) v) I ⟨w, env, S1, _, r, e, h1, fun w' H' v l' r' p => ⟨w', l', r', p⟩⟩) fun u s1 ⟨v, H1, I1, sm1, rv, w1, l1, r1, p1⟩ => ?_)
    cases p1
    cases rv
    exact not_of (wpAny_truthy_bool ⟨.bl (!k), H1, I1, sm1, rfl, q w1 H1 _ l1 r1 (.bl (!k))⟩)
  · cases h2
/-- argument lists -/
structure QA (T : Tb) (X : Cx) (es : List Expr) (f : AX) : Prop where
  pu : ∀ env S d S', f env S = .ok d S' → S' = S
  run : ∀ (pos : Pos) (pins : List (Addr × Obj)) (s : Shared) (σ : L2.St) (H : Hp) (Q : List V → Hp → Prop), Inv X pins σ H s → (∃ w env S ds, WR T w S H ∧ ER T w env σ ∧ f env S = .ok ds S ∧ ∀ w' H' vs, w.le w' → WR T w' S H' → Reps T w' ds vs → Q vs H') →
    wpAny (model X.prog X.w) X.A (spliced (backTo pos (starEach es X.env))) (APq X pins σ s Q) (fun _ _ => False) s
theorem qa_nil : QA T X [] aNil := ⟨fun env S d S' h => by cases h; rfl, fun pos pins s σ H Q I ⟨w, env, S, ds, r, e, hf, q⟩ => by
  cases hf
  exact Calls.spliced_nil ⟨[], H, I, Sm.refl s, .nil, q w H [] (Wd.le.refl _) r .nil⟩⟩
theorem qa_cons (ha : QI T X a f) (hr : QA T X es fa) (hs : starEach (a :: es) X.env = (false, eval a X.env) :: starEach es X.env := by rfl) : QA T X (a :: es) (aCons f fa) := by
  refine ⟨fun env S d S' h => ?_, ?_⟩
  · obtain ⟨x, S1, h1, h2⟩ := bnd_ok_inv (show (f env S).bnd _ = .ok d S' from h)
    obtain rfl := ha.pu _ _ _ _ h1
    obtain ⟨y, S2, h3, h4⟩ := bnd_ok_inv h2
    obtain rfl := hr.pu _ _ _ _ h3
    cases h4; rfl
  intro pos pins s σ H Q I ⟨w, env, S, ds, r, e, hf, q⟩
  obtain ⟨x, S1, h1, h2⟩ := bnd_ok_inv (show (f env S).bnd _ = .ok ds S from hf)
  obtain rfl := ha.pu _ _ _ _ h1
  obtain ⟨xs, S2, h3, h4⟩ := bnd_ok_inv h2
  obtain rfl := hr.pu _ _ _ _ h3
  cases h4
  rw [hs]
  show wpAny _ _ (spliced ((false, eval a X.env) :: backTo pos (starEach es X.env))) _ _ s
  refine Calls.spliced_cons (thn (ha.run pins s σ H (fun v H' => ∃ w', w.le w' ∧ WR T w' S2 H' ∧ Rep T w' x v) I ⟨w, env, S2, _, r, e, h1, fun w' H' v l' r' p => ⟨w', l', r', p⟩⟩) fun u s1 ⟨v, H1, I1, sm1, rv, w1, l1, r1, p1⟩ => ?_)
  refine thn (hr.run pos pins s1 σ H1 (fun vs H' => ∃ w', w1.le w' ∧ WR T w' S2 H' ∧ Reps T w' xs vs) I1 ⟨w1, env, S2, _, r1, e.mono l1, h3, fun w' H' v l' r' p => ⟨w', l', r', p⟩⟩) fun us s2 ⟨vs, H2, I2, sm2, rvs, w2, l2, r2, p2⟩ => ?_
  exact ⟨v :: vs, H2, I2, sm1.trans sm2, .cons rv rvs, q w2 H2 _ (l1.trans l2) r2 (.cons (p1.mono l2) p2)⟩
/-- a tuple -/
theorem qi_tup {k : Nat} (h : QA T X es fa) : QI T X (.Tuple es k pos) (eTup fa) := by
  refine ⟨fun env S d S' h' => ?_, ?_⟩
  · obtain ⟨x, S1, h1, h2⟩ := bnd_ok_inv (show (fa env S).bnd _ = .ok d S' from h')
    obtain rfl := h.pu _ _ _ _ h1
    split at h2
    · cases h2; rfl
    · cases h2
  intro pins s σ H Q I ⟨w, env, S, d, r, e, hf, q⟩
  obtain ⟨ds, S1, h1, h2⟩ := bnd_ok_inv (show (fa env S).bnd _ = .ok d S from hf)
  obtain rfl := h.pu _ _ _ _ h1
  split at h2
  · rename_i hlen
    cases h2
    refine wpAny_Tuple_spliced (thn (h.run pos pins s σ H (fun vs H' => ∃ w', w.le w' ∧ WR T w' S1 H' ∧ Reps T w' ds vs) I ⟨w, env, S1, _, r, e, h1, fun w' H' v l' r' p => ⟨w', l', r', p⟩⟩) fun us s1 ⟨xs, H1, I1, sm1, rv, w1, l1, r1, p1⟩ => ?_)
    have z : xs.length ≤ sizeLine := by rw [sizeLine_eq, ← p1.length]; exact hlen
    refine ⟨by rw [← rv.length]; exact z, ?_⟩
    have hf : H1 s1.heap.objs.size = none := I1.hok.fresh (Nat.le_refl _)
    obtain ⟨l2, r2⟩ := r1.new hf (.tup xs)
    refine ⟨.ref s1.heap.objs.size, upd H1 s1.heap.objs.size (.tup xs), I1.laid (t' := s1.toks) (fun b u e => Heap.get?_push_of_some _ e) (Nat.le_refl _) ?_, sm1.trans ⟨_, _, rfl, fun b u e => Heap.get?_push_of_some _ e⟩, rfl, ?_⟩
    · exact ⟨z, us, rv, ⟨_, Heap.get?_push_size _ rfl, rfl, _, rfl⟩⟩
    · exact q _ _ _ (l1.trans l2) r2 (.tup (.inl (.inl upd_same)) (p1.mono l2))
  · cases h2
end
end Ro
end
section
set_option Elab.async false
set_option linter.all false
set_option maxRecDepth 100000
set_option maxHeartbeats 4000000
namespace PySem.RoXh
open PySem PySem.W PyProof.Rows
end PySem.RoXh
namespace Ro
open PySem PySem.Spec PyProof.Rows L2
variable {T : Tb} {E : XK} {X : Cx} {a b : Expr} {f g : EX} {pos : Pos}
def boolM (cn : String) (m : Fn) (x : D) (S1 : Store) : R D := match x with
  | .obj c l => if c = cn then (match m [.obj c l] S1 with
    | .ok (.int n) S2 => if 0 ≤ n ∧ n < 1000000000 then .ok (.bl (n != 0)) S2 else .bad
    | _ => .bad) else .bad
  | _ => .bad
def eBoolO (cn : String) (m : Fn) (f : EX) : EX := fun env S => (f env S).bnd (boolM cn m)
end Ro
end
section
set_option Elab.async false
set_option linter.all false
set_option maxRecDepth 100000
set_option maxHeartbeats 4000000
namespace Ro
open PySem PySem.Spec PyProof.Rows L2
def atomPy : D → Option PyData
  | .int i => some (.int i)
  | .str s => some (.str s)
  | .bl b => some (.bool b)
  | _ => none
def pyOf (x : D) : PyData := (atomPy x).getD .none
/-- the key of a thing: a tuple of numbers, texts, truths -/
def kKey (f : EX) (S : Store) (d : D) : Option PyData := match f [some d] S with
  | .ok (.tup l) _ => if !l.isEmpty && l.all (fun x => (atomPy x).isSome) && decide (l.length ≤ LINE) then some (.tuple (l.map pyOf)) else none
  | _ => none
def kfD (f : EX) (S : Store) (d : D) : PyData := (kKey f S d).getD .none
def leKey (f : EX) (S : Store) : D → D → Bool := PySem.W.dataLe false (kfD f S)
def sortK (f : EX) (x : D) (S : Store) : R D := match x with
  | .lst l => if l.all (fun d => (kKey f S d).isSome) && l.all (fun d => l.all fun d' => PySem.W.alike (kfD f S d) (kfD f S d')) && decide (l.length ≤ LINE) then .ok (.lst (l.mergeSort (leKey f S))) S else .bad
  | _ => .bad
def eSortK (f : EX) (a : EX) : EX := fun env S => (a env S).bnd (sortK f)
theorem depth_atoms : ∀ (l : List D), PyData.depthAll (l.map pyOf) = 0
  | [] => rfl
  | x :: l => by
    show max (PyData.depth (pyOf x)) (PyData.depthAll (l.map pyOf)) = 0
    rw [depth_atoms l]
    cases x <;> rfl
theorem reads_atoms {T : Tb} {w : Wd} {h : Heap} : ∀ {l : List D} {vs : List V} {us : List Value}, Reps T w l vs → Vals vs us → l.all (fun x => (atomPy x).isSome) = true → ReadsAll h us (l.map pyOf) []
  | _, _, _, .nil, .nil, _ => .nil
  | x :: l, _, _, .cons p q, .cons a b, e => by
    rw [List.all_cons, Bool.and_eq_true] at e
    have r := reads_atoms (h := h) q b e.2
    have e1 := e.1
    cases p with
    | int i =>
      obtain ⟨t, rfl⟩ := a
      exact ReadsAll.cons (.int i t) r
    | str s =>
      obtain ⟨t, rfl⟩ := a
      exact ReadsAll.cons (.str s t) r
    | bl b =>
      cases a
      exact ReadsAll.cons (.bool b) r
    | _ => cases e1
/-- a def whose calls only tell -/
structure KeyF (T : Tb) (P : Program) (w : World) (mg : Str → Option Value) (base : Heap) (k : Nat) (d : He.DefD) (f : EX) : Prop where
  pu : ∀ env S x S', f env S = .ok x S' → S' = S
  run : ∀ (A : Around) (below : List PySem.Env) (s : Shared) (H : Hp) (u : Value) (v : V) (w0 : Wd) (S : Store) (x kd : D), RG k A → Env0 P w T.K mg base A below s H → RelV v u → WR T w0 S H → Rep T w0 x v → f [some x] S = .ok kd S →
    codeAny (model P w) A (.call (.ref (He.fAd T.K d.at_)) ⟨[u], []⟩) (fun r s' => ∃ u' v' H' w', r = .ok (.ret u') ∧ Sm s s' ∧ HOk P w H' s'.heap ∧ RelV v' u' ∧ WR T w' S H' ∧ Rep T w' kd v') s
theorem KeyF.mono {T : Tb} {P : Program} {w : World} {mg : Str → Option Value} {base : Heap} {j k : Nat} {d : He.DefD} {f : EX} (F : KeyF T P w mg base j d f) (h : j ≤ k) : KeyF T P w mg base k d f := ⟨F.pu, fun A below s H u v w0 S x kd hr => F.run A below s H u v w0 S x kd (hr.mono h)⟩
theorem KeyF.mk' {T : Tb} {P : Program} {w : World} {mg : Str → Option Value} {base : Heap} {k : Nat} {d : He.DefD} {p : Str} {f : EX} {fd : FuncData} {e : Expr} {pos : Pos}
    (F : FunD T.K d.name d.qual d.params d.body d.scope (d.dvs T.K) [] (He.fAd T.K d.at_) fd) (Sc : FnScope [p] [p] d.scope) (hb : Binds T.K fd [p] []) (hbd : d.body = [.Return (some e) pos])
    (h : ∀ (cdv : Value) (A : Around) (outer : List PySem.Env) (s : Shared) (H : Hp) (E : XK), RG k (A.deeper (envOfC d.qual d.scope s.heap.objs.size (He.fAd T.K d.at_) cdv)) →
      QI T (cxOf (L2N.CX P w) P w T.K mg base [p] d.qual d.scope (He.fAd T.K d.at_) cdv A outer s H E) e f) (pu : ∀ env S x S', f env S = .ok x S' → S' = S) : KeyF T P w mg base (k + 1) d f := by
  refine ⟨pu, ?_⟩
  obtain ⟨oc, od, dV, kV, doc, pm, an, cdv, ct, osl, rfl, look, code, _, _⟩ := F.ex
  intro A below s H u v w0 S x kd hr env0 rv wr rp hf
  have inK : T.K.In s.heap := env0.mod.kin.keeps fun b o q => (env0.bs b o q).1
  have noLim : s.heap.NoLimit := env0.mod.nolimit.keeps fun b o q => (env0.bs b o q).1
  have hbt : BindsTo s (PySem.W.fnOf d.name d.qual d.params d.body d.scope dV kV doc pm an cdv ct) ⟨[u], []⟩ (([p] : List Str).zip [u]) := by simpa using hb s [u] inK rfl
  have kinds : ∀ z ∈ ([p] : List Str).zip [u], d.scope.names.lookup z.1 = some .local ∨ (d.scope.names.lookup z.1 = some .cell ∧ ((cellsFrom (s.heap.objs.size + 1) d.scope.names []).lookup z.1).isSome = true) := by
    rintro ⟨n, v⟩ hz
    rcases Sc.par n (List.of_mem_zip hz).1 with k1 | k1
    · exact Or.inl k1
    · exact Or.inr ⟨k1, PySem.W.cellsFrom_some _ _ _ (Or.inl k1)⟩
  refine codeAny_call_function hr.rm.depth (inK _ _ look) rfl Sc.co Sc.gen rfl (PySem.W.codeRec_of inK code) (hbt _ _ _ _ ?_)
  refine wpAny_newFunctionEnv_cells Sc.kind kinds fun en hen st hx => ?_
  subst hen
  have runs := h cdv A below s H (fun _ _ _ => False) (hr.deeper _)
  have J0 : Inv (cxOf (L2N.CX P w) P w T.K mg base [p] d.qual d.scope (He.fAd T.K d.at_) cdv A below s H (fun _ _ _ => False)) [] (L2.start [p] [v]) H st := inv_start Sc hr.rm.hd env0 rfl (.cons rv .nil) hx
  obtain ⟨h1, tk, rfl⟩ := hx.toInCall.same
  refine ⟨noLim.keeps hx.toInCall.keep, codeAny_func ?_⟩
  rw [hbd]
  have er : ER T w0 [some x] (L2.start [p] [v]) := by
    have := er_start (N := [p]) (T := T) (w := w0) (ds := [x]) (vs := [v]) (.cons rp .nil)
    simpa using this
  have go := runs.run [] _ (L2.start [p] [v]) H (fun v' H' => ∃ w', w0.le w' ∧ WR T w' S H' ∧ Rep T w' kd v') J0 ⟨w0, [some x], S, kd, wr, er, hf, fun w' H' v l r p => ⟨w', l, r, p⟩⟩
  refine wpAny_execs_cons (wpAny_Return_some (wpAny_mono go (fun u1 s1 hs => ?_) fun _ _ z => z.elim))
  obtain ⟨v1, H1, I1, sm1, rv1, w1, l1, r1, p1⟩ := hs
  exact ⟨u1, v1, H1, w1, rfl, Sm.trans (s1 := { s with heap := h1, toks := tk }) ⟨h1, tk, rfl, hx.toInCall.keep⟩ sm1, I1.hok, rv1, r1, p1⟩
/-- what a list's parts are, to be sorted -/
theorem each_zip {T : Tb} {w : Wd} : ∀ {l : List D} {vs : List V} {us : List Value}, Reps T w l vs → Vals vs us → PySem.W.EachIs (fun u (b : D × V) => RelV b.2 u ∧ Rep T w b.1 b.2) us (l.zip vs)
  | _, _, _, .nil, .nil => .nil
  | _, _, _, .cons p q, .cons a b => .cons ⟨a, p⟩ (each_zip q b)
theorem each_unzip {T : Tb} {w : Wd} : ∀ {us : List Value} {bs : List (D × V)}, PySem.W.EachIs (fun u (b : D × V) => RelV b.2 u ∧ Rep T w b.1 b.2) us bs → Vals (bs.map (·.2)) us ∧ Reps T w (bs.map (·.1)) (bs.map (·.2))
  | _, _, .nil => ⟨.nil, .nil⟩
  | _, _, .cons h t => ⟨.cons h.1 (each_unzip t).1, .cons h.2 (each_unzip t).2⟩
theorem kKey_inv {f : EX} {S : Store} {d : D} (h : (kKey f S d).isSome = true) : ∃ l S', f [some d] S = .ok (.tup l) S' ∧ l ≠ [] ∧ l.all (fun x => (atomPy x).isSome) = true ∧ kfD f S d = .tuple (l.map pyOf) := by
  unfold kfD
  unfold kKey at h ⊢
  split at h
  · rename_i l S' e
    split at h
    · rename_i hc
      rw [if_pos hc]
      simp only [Bool.and_eq_true, decide_eq_true_eq] at hc
      exact ⟨l, S', e, by intro z; rw [z] at hc; exact absurd hc.1.1 (by decide), hc.1.2, rfl⟩
    · cases h
  · cases h
def rSortK (T : Tb) (fa : Addr) (f : EX) : List V → List V → Hp → VK → Prop := fun vs zs H Q => ∃ w S l p, WR T w S H ∧ vs = [.ref p] ∧ Rep T w (.lst l) (.ref p) ∧ zs = [.ref fa] ∧
  RP (sortK f (.lst l) S) (fun d S' => ∀ w' H' v, w.le w' → WR T w' S' H' → Rep T w' d v → Q v H') (fun _ _ _ => False)
theorem call_sortK {T : Tb} {X : Cx} {k : Nat} {d : He.DefD} {f : EX} (hK : X.K = T.K) (KF : KeyF T X.prog X.w X.mg X.base k d f) (hr : RG k X.A.in1.in1) (hu : X.A.units + 3 < cLine) :
    CallRK X (.builtin "sorted") ["key"] (rSortK T (He.fAd T.K d.at_) f) := by
  intro pins s σ H xs zs us ws Q I rv rz h
  obtain ⟨w, S, l, p, wr, rfl, rp, rfl, q⟩ := h
  obtain ⟨u, rfl, ru⟩ := Vals.one rv
  obtain ⟨uz, rfl, ruz⟩ := Vals.one rz
  cases ru
  cases ruz
  unfold sortK at q
  dsimp only at q
  split at q
  · rename_i hc
    simp only [Bool.and_eq_true, decide_eq_true_eq, List.all_eq_true] at hc
    obtain ⟨⟨c1, c2⟩, c3⟩ := hc
    have q : ∀ w' H' v, w.le w' → WR T w' S H' → Rep T w' (.lst (l.mergeSort (leKey f S))) v → Q v H' := q
    have rp0 := rp
    cases rp with
    | @lst _ _ vs hG rr =>
      obtain ⟨its, rvs, pl, hsz⟩ := I.list (SqL.of (K := X.K) (wr.sub _ _ hG))
      have ez := each_zip rr rvs
      have elen : (l.zip vs).length = l.length := by rw [List.length_zip, ← rr.length, Nat.min_self]
      have emap : (l.zip vs).map (·.1) = l := List.map_fst_zip (by rw [rr.length]; exact Nat.le_refl _)
      have mem1 : ∀ x ∈ l.zip vs, x.1 ∈ l := fun x hx => (List.of_mem_zip hx).1
      refine PySem.W.sorted_key_data (s := s) (R := fun u (b : D × V) => RelV b.2 u ∧ Rep T w b.1 b.2) (bs := l.zip vs) (vs := its) (b := false) (f := .ref (He.fAd T.K d.at_)) (fun b => kfD f S b.1) pl.isList ez (fun a ha b hb => ?_) (.inl fun a ha => ?_) (by rw [elen, sizeLine_eq]; exact c3) (fun x hx => ?_) (PyProof.Rows.ksk_s1 _ _) (fun x => PyProof.Rows.ksk_l1 _ _) (fun x => PyProof.Rows.ksk_t1 _ _) (fun v x hR hx hp tk kp => ?_) (fun out c h' tk kp hn hat hlen eo => ?_)
      · obtain ⟨x, hx, rfl⟩ := List.mem_map.mp ha
        obtain ⟨y, hy, rfl⟩ := List.mem_map.mp hb
        exact c2 _ (mem1 x hx) _ (mem1 y hy)
      · obtain ⟨x, hx, rfl⟩ := List.mem_map.mp ha
        obtain ⟨m, S', e1, e2, e3, e4⟩ := kKey_inv (c1 _ (mem1 x hx))
        rw [e4]
        cases m with
        | nil => exact absurd rfl e2
        | cons y r => exact ⟨_, _, rfl⟩
      · obtain ⟨m, S', e1, e2, e3, e4⟩ := kKey_inv (c1 _ (mem1 x hx))
        show X.A.units + 2 + (kfD f S x.1).depth < cLine
        rw [e4]
        show X.A.units + 2 + (PyData.depthAll (m.map pyOf) + 1) < cLine
        rw [depth_atoms]
        omega
      · obtain ⟨m, S', e1, e2, e3, e4⟩ := kKey_inv (c1 _ (mem1 x hx))
        obtain rfl := KF.pu _ _ _ _ e1
        have I1 := I.kept (t' := tk) kp
        have e0 : Env0 X.prog X.w T.K X.mg X.base X.A.in1.in1 X.stack { s with heap := hp, toks := tk } H := by
          have e := I1.env0
          rw [hK] at e
          exact ⟨e.frames, e.mod, e.bs, e.bsz, e.funs, e.frf, e.hok, e.bare⟩
        refine wpAny_call (codeAny_mono (KF.run X.A.in1.in1 X.stack _ H v x.2 w S' x.1 _ hr e0 hR.1 wr hR.2 e1) fun r s' hq => ?_)
        obtain ⟨u', v', H', w', rfl, sm, hok, rv', wr', rp'⟩ := hq
        obtain ⟨h2, t2, rfl, kk⟩ := sm
        refine ⟨h2, t2, rfl, kk, ?_⟩
        rw [e4]
        cases rp' with
        | @tup _ a vs' hT rr' =>
          cases rv'
          rcases sqt_sub wr' hT with hT | ⟨o, its', n, hk, hc, hs, hz, r⟩
          · obtain ⟨z, its', rv2, p2⟩ := hT.ok hok
            obtain ⟨o, ho, hcl, n, hd⟩ := p2
            exact Reads.tuple ho hcl hd (by simpa using reads_atoms rr' rv2 e3)
          · have inK : T.K.In h2 := by
              have := I1.kIn
              rw [hK] at this
              exact this.keeps kk
            exact Reads.tuple (inK _ _ hk) hc (by simpa using hs) (by simpa using reads_atoms rr' r e3)
      · obtain ⟨g1, g2⟩ := each_unzip eo
        have em : ((l.zip vs).mergeSort (PySem.W.dataLe false fun b : D × V => kfD f S b.1)).map (·.1) = l.mergeSort (leKey f S) := by
          rw [List.map_mergeSort (r := PySem.W.dataLe false fun b : D × V => kfD f S b.1) (s := leKey f S) (f := (·.1)) (fun a _ b _ => rfl), emap]
        rw [em] at g2
        have hf : H (s.heap.objs.size + 1) = none := I.hok.fresh (Nat.le_succ _)
        obtain ⟨l2, r2⟩ := wr.new hf (.lst _)
        refine ⟨.ref (s.heap.objs.size + 1), upd H (s.heap.objs.size + 1) (.lst (((l.zip vs).mergeSort (PySem.W.dataLe false fun b : D × V => kfD f S b.1)).map (·.2))), I.laid kp (Nat.le_succ _) ?_, rfl, q _ _ _ l2 r2 (.lst upd_same (g2.mono l2))⟩
        refine ⟨?_, out, c, g1, hat⟩
        rw [List.length_map, List.length_mergeSort, elen, sizeLine_eq]
        exact c3
  · exact q.elim
theorem sortK_ok {f : EX} {x : D} {S : Store} {P : D → Store → Prop} {E1 E2 : String → List D → Store → Prop} (h : RP (sortK f x S) P E1) : ∃ l, x = .lst l ∧ RP (sortK f (.lst l) S) P E2 := by
  cases x with
  | lst l =>
    refine ⟨l, rfl, ?_⟩
    unfold sortK at h ⊢
    dsimp only at h ⊢
    split at h
    · rename_i hc; rw [if_pos hc]; exact h
    · exact h.elim
  | _ => exact h.elim
theorem ie_sortK {T : Tb} {E : XK} {X : Cx} {a : Expr} {g f : EX} {pos p p2 kpos : Pos} {nm : Str} {k : Nat} {d : He.DefD} (hK : X.K = T.K) (KF : KeyF T X.prog X.w X.mg X.base k d f) (hr : RG k X.A.in1.in1) (hu : X.A.units + 3 < cLine) (hg : Gl X "sorted") (hn : X.mg "sorted" = none)
    (hgk : Gl X nm) (hmk : X.mg nm = some (.ref (He.fAd T.K d.at_))) (ha : IE T E X a g) (he : starEach [a] X.env = (false, eval a X.env) :: starEach [] X.env := by rfl) (he2 : backTo pos (starEach [a] X.env) = (false, eval a X.env) :: backTo pos (starEach [] X.env) := by rfl) (hpl : (backTo pos (starEach [a] X.env)).any (·.1) = false := by rfl) (hd : (nm == ("__debug__" : Str)) = false := by decide +kernel) :
    IE T E X (.Call (.Name "sorted" p) [a] [⟨some "key", .Name nm p2, kpos⟩] pos) (eSortK f g) :=
  PE.mono (pe_callBK (call_sortK hK KF hr hu) hg hn (by decide +kernel) (ia_cons ha ia_nil he) (pk_cons (pe_glob hgk hmk (v := .ref (He.fAd T.K d.at_)) rfl hd) pk_nil) (by decide +kernel) (by decide +kernel) he2 hpl) fun σ H Q ⟨w, env, S, r, e, q⟩ => by
    refine ⟨w, env, S, r, e, ?_⟩
    have q := RP.bnd q
    show RP ((g env S).bnd fun x S1 => (aNil env S1).bnd fun xs S2 => .ok (x :: xs) S2) _ _
    cases z : g env S with
    | bad => rw [z] at q; exact q
    | err c fs S1 => rw [z] at q; exact q
    | ok x S1 =>
      rw [z] at q
      rw [bnd_ok]
      show RP (R.ok [x] S1 : R (List D)) _ _
      intro w' H' vs l' r' p'
      have q : RP (sortK f x S1) (fun d S' => ∀ w' H' v, w.le w' → WR T w' S' H' → Rep T w' d v → Q v H') (XW T w E) := q
      obtain ⟨l, rfl, q3⟩ := sortK_ok (E2 := fun _ _ _ => False) q
      cases p' with
      | cons p1 p2 =>
        cases p2
        have p1' := p1
        cases p1 with
        | @lst _ pa _ hG rr =>
          exact ⟨w', S1, l, pa, r', rfl, p1', rfl, q3.mono (fun d S2 h => fun w2 H2 v l2 r2 p2 => h w2 H2 v (l'.trans l2) r2 p2) fun _ _ _ x => x⟩
end Ro
end
section
set_option Elab.async false
set_option linter.all false
set_option maxRecDepth 100000
set_option maxHeartbeats 4000000
namespace Ro
open PySem PySem.Spec PyProof.Rows L2
variable {T : Tb} {E : XK} {X : Cx} {a b c : Expr} {f g : EX} {fb : BX} {pos : Pos}
def popM (x : D) (S : Store) : R D := match x with
  | .ref n => (match S[n]? with
    | some (.lst l) => (match l[l.length - 1]? with
      | some d => .ok d (S.set n (.lst l.dropLast))
      | none => .bad)
    | _ => .bad)
  | _ => .bad
def popAtM (x y : D) (S : Store) : R D := match x, y with
  | .ref n, .int i => (match S[n]? with
    | some (.lst l) => if 0 ≤ i ∧ i < l.length ∧ l.length ≤ LINE then (match l[i.toNat]? with
      | some d => .ok d (S.set n (.lst (l.eraseIdx i.toNat)))
      | none => .bad) else .bad
    | _ => .bad)
  | _, _ => .bad
def clrM (x : D) (S : Store) : R D := match x with
  | .ref n => (match S[n]? with
    | some (.lst _) => .ok .non (S.set n (.lst []))
    | _ => .bad)
  | _ => .bad
/-- o.m() of a list that is being made -/
def eL0 (m : D → Store → R D) (a : EX) : EX := fun env S => (a env S).bnd fun x S1 => if tyD x S1 = some (.b "list") then m x S1 else .bad
def eL1 (m : D → D → Store → R D) (a b : EX) : EX := fun env S => (a env S).bnd fun x S1 => if tyD x S1 = some (.b "list") then (b env S1).bnd fun y S2 => m x y S2 else .bad
theorem Reps.dropLast {T : Tb} {w : Wd} {l : List D} {vs : List V} (r : Reps T w l vs) : Reps T w l.dropLast vs.dropLast := by
  rw [List.dropLast_eq_take, List.dropLast_eq_take, r.length]
  exact r.take _
theorem Reps.eraseIdx {T : Tb} {w : Wd} : ∀ {l : List D} {vs : List V} (i : Nat), Reps T w l vs → Reps T w (l.eraseIdx i) (vs.eraseIdx i)
  | _, _, _, .nil => .nil
  | _, _, 0, .cons _ r => r
  | _, _, i + 1, .cons q r => .cons q (Reps.eraseIdx i r)
theorem ie_pop {apos : Pos} (hK : X.K = T.K) (ho : IE T E X a f) (hbase : attributeBase a "pop" X.env (eval a X.env) = eval a X.env := by rfl) (hline : (apos.endLine == pos.line) = true := by rfl) :
    IE T E X (.Call (.Attribute a "pop" apos) [] [] pos) (eL0 popM f) :=
  PE.mono (pe_bm0 PySem.F.plainAttrs_list PySem.F.slot_list_pop PySem.F.type_list_pop (mt_R mt_pop) ho hbase hline) fun σ H Q ⟨w, env, S, r, e, q⟩ => ⟨w, env, S, r, e, (RP.bnd q).mono (fun d S1 h1 w1 H1 x l1 r1 p1 => by
    by_cases ht : tyD d S1 = some (.b "list")
    · rw [if_pos ht] at h1
      refine ⟨by rw [hK]; exact tyV_list r1 p1 ht, ?_⟩
      unfold popM at h1
      split at h1
      · split at h1
        · rename_i n _ l hS
          split at h1
          · rename_i y hy
            cases p1 with
            | ref hn =>
              obtain ⟨us, c1, c2⟩ := r1.cell _ _ _ hS hn
              obtain ⟨v, h2, h3⟩ := c2.get hy
              exact ⟨_, us, v, rfl, rfl, c1, by rw [← c2.length]; exact h2, h1 w1 _ v l1 (r1.write hS hn (by intro z; cases z) ⟨_, upd_same, c2.dropLast⟩) h3⟩
          · exact (show False from h1).elim
        · exact (show False from h1).elim
      · exact (show False from h1).elim
    · rw [if_neg ht] at h1
      exact (show False from h1).elim) fun _ _ _ x => x⟩
theorem ie_clear {apos : Pos} (hK : X.K = T.K) (ho : IE T E X a f) (hbase : attributeBase a "clear" X.env (eval a X.env) = eval a X.env := by rfl) (hline : (apos.endLine == pos.line) = true := by rfl) :
    IE T E X (.Call (.Attribute a "clear" apos) [] [] pos) (eL0 clrM f) :=
  PE.mono (pe_bm0 PySem.F.plainAttrs_list PySem.F.slot_list_clear PySem.F.type_list_clear (mt_R mt_clear) ho hbase hline) fun σ H Q ⟨w, env, S, r, e, q⟩ => ⟨w, env, S, r, e, (RP.bnd q).mono (fun d S1 h1 w1 H1 x l1 r1 p1 => by
    by_cases ht : tyD d S1 = some (.b "list")
    · rw [if_pos ht] at h1
      refine ⟨by rw [hK]; exact tyV_list r1 p1 ht, ?_⟩
      unfold clrM at h1
      split at h1
      · split at h1
        · rename_i n _ l hS
          cases p1 with
          | ref hn =>
            obtain ⟨us, c1, c2⟩ := r1.cell _ _ _ hS hn
            exact ⟨_, us, rfl, rfl, c1, h1 w1 _ .non l1 (r1.write hS hn (by intro z; cases z) ⟨_, upd_same, .nil⟩) .non⟩
        · exact (show False from h1).elim
      · exact (show False from h1).elim
    · rw [if_neg ht] at h1
      exact (show False from h1).elim) fun _ _ _ x => x⟩
theorem ie_popAt {apos : Pos} (hK : X.K = T.K) (ho : IE T E X a f) (hb : IE T E X b g) (hbase : attributeBase a "pop" X.env (eval a X.env) = eval a X.env := by rfl)
    (hfew : ((backTo pos (starEach [b] X.env)).all (fun x => !x.1) && (backToKw pos (keywordEach [] X.env)).all (fun x => x.1.isSome)
      && decide (([b]).length + ([] : List Keyword).length + (if ([] : List Keyword).isEmpty then 0 else 1) < 30)) = true := by rfl)
    (hline : (apos.endLine == pos.line) = true := by rfl) (hs : starEach [b] X.env = (false, eval b X.env) :: starEach [] X.env := by rfl) (hpl : (backTo pos (starEach [] X.env)).any (·.1) = false := by rfl) :
    IE T E X (.Call (.Attribute a "pop" apos) [b] [] pos) (eL1 popAtM f g) :=
  PE.mono (pe_bm PySem.F.plainAttrs_list PySem.F.slot_list_pop PySem.F.type_list_pop (mt_R mt_popAt) ho (pa_cons hb pa_nil hs) hbase hfew hline hs hpl) fun σ H Q ⟨w, env, S, r, e, q⟩ => ⟨w, env, S, r, e, (RP.bnd q).mono (fun d S1 h1 w1 H1 x l1 r1 p1 => by
    by_cases ht : tyD d S1 = some (.b "list")
    · rw [if_pos ht] at h1
      refine ⟨by rw [hK]; exact tyV_list r1 p1 ht, w1, env, S1, r1, e.mono l1, (RP.bnd h1).mono (fun y S2 h2 w2 H2 yv l2 r2 p2 => ?_) fun _ _ _ x => x.le l1⟩
      unfold popAtM at h2
      split at h2
      · split at h2
        · rename_i n i _ l hS
          split at h2
          · rename_i hi
            split at h2
            · rename_i z hz
              cases p1.mono l2 with
              | ref hn =>
                cases p2
                obtain ⟨us, c1, c2⟩ := r2.cell _ _ _ hS hn
                obtain ⟨v, h3, h4⟩ := c2.get hz
                obtain ⟨k1, k2, k3⟩ := hi
                have k3 : l.length ≤ 16777216 := k3
                refine ⟨_, us, i, i.toNat, v, rfl, rfl, c1, by omega, by omega, ?_, h3, h2 w2 _ v (l1.trans l2) (r2.write hS hn (by intro z; cases z) ⟨_, upd_same, c2.eraseIdx _⟩) h4⟩
                rw [← c2.length]
                unfold seqIndex?
                simp only
                have e1 : ¬ i < 0 := by omega
                simp [e1, k1, k2]
            · exact (show False from h2).elim
          · exact (show False from h2).elim
        · exact (show False from h2).elim
      · exact (show False from h2).elim
    · rw [if_neg ht] at h1
      exact (show False from h1).elim) fun _ _ _ x => x⟩
/-- .. at most so many turns -/
def whileM (c : BX) (body : ES) : Nat → ES
  | 0, _, _ => .bad
  | n + 1, env, S => (c env S).bnd fun b S1 => if b then (body env S1).bnd fun k S2 => (match k with
      | .nx e => whileM c body n e S2
      | .ct e => whileM c body n e S2
      | .bk e => .ok (.nx e) S2
      | .rt d => .ok (.rt d) S2) else .ok (.nx env) S1
def sWhile (n : Nat) (c : BX) (body : ES) : ES := whileM c body n
theorem is_while {body : List Stmt} {s : ES} {n : Nat} (hp : PassesOwn (model X.prog X.w) X.A X.env X.xe) (hc : IB T E X c fb) (hb : ISs T E X body s) : IS T E X (.While c body [] pos) (sWhile n fb s) :=
  PS.mono (ps_while hp hc hb) fun D σ H ⟨w0, env0, S0, r0, e0, q0⟩ => by
    refine ⟨fun m σ H => ∃ w env S, w0.le w ∧ WR T w S H ∧ ER T w env σ ∧ RP (whileM fb s m env S) (CP T w D) (XW T w E), ⟨n, w0, env0, S0, Wd.le.refl _, r0, e0, q0⟩, ?_⟩
    rintro m σ H ⟨w, env, S, l, r, e, q⟩
    cases m with
    | zero => exact q.elim
    | succ m =>
      unfold whileM at q
      refine ⟨w, env, S, r, e, (RP.bnd q).mono (fun b S1 h1 w1 H1 l1 r1 => ?_) fun _ _ _ x => x⟩
      cases b with
      | true =>
        rw [if_pos rfl] at h1
        rw [if_pos rfl]
        refine ⟨fun σ' H' => ∃ w env S, w0.le w ∧ WR T w S H' ∧ ER T w env σ' ∧ RP (whileM fb s m env S) (CP T w D) (XW T w E), fun σ' H' h => ⟨m, Nat.lt_succ_self m, h⟩, w1, env, S1, r1, e.mono l1, (RP.bnd h1).mono (fun k S2 h2 => ?_) fun _ _ _ x => x.le l1⟩
        cases k with
        | nx e3 => exact fun w4 H4 σ4 l4 r4 q4 => ⟨w4, e3, S2, (l.trans l1).trans l4, r4, q4, RP.mono h2 (fun c S5 h5 => CP.le (l1.trans l4) h5) fun _ _ _ x => x.le (l1.trans l4)⟩
        | ct e3 => exact fun w4 H4 σ4 l4 r4 q4 => ⟨w4, e3, S2, (l.trans l1).trans l4, r4, q4, RP.mono h2 (fun c S5 h5 => CP.le (l1.trans l4) h5) fun _ _ _ x => x.le (l1.trans l4)⟩
        | bk e3 => exact fun w4 H4 σ4 l4 => h2 w4 H4 σ4 (l1.trans l4)
        | rt d => exact fun w4 H4 v l4 => h2 w4 H4 v (l1.trans l4)
      | false =>
        rw [if_neg Bool.false_ne_true] at h1
        rw [if_neg Bool.false_ne_true]
        exact h1 w1 H1 σ l1 r1 (e.mono l1)
end Ro
end
section
set_option Elab.async false
set_option linter.all false
set_option maxRecDepth 100000
set_option maxHeartbeats 4000000
namespace Ro
open PySem PySem.Spec PyProof.Rows L2
def gAttr (K : PySem.W.Frag) (to : TE) (f : Str) : TG := fun y σ H Q => to σ H fun x H2 => ∃ a C dx fs, x = .ref a ∧ H2 a = some (.ins C dx fs) ∧ Cls K C ∧ NoAttr K C f ∧ fs.length < 1000 ∧ Q σ (upd H2 a (.ins C dx (putF f y fs)))
theorem pg_attr {X : Cx} {o : Expr} {f : Str} {pos : Pos} {to : TE} (ho : PE X o to) : PG X (.Attribute o f pos) (gAttr X.K to f) := by
  refine ⟨fun pins s σ H v u Q I r h => ?_⟩
  rw [assign_Attribute]
  refine wpAny_bind (wpAny_holding (thn (ho.run pins s σ H _ I h) fun ov s1 ⟨x, H1, I1, r1, a, C, dx, fs, ex, ea, c, n, l, q⟩ => ?_))
  subst ex
  obtain rfl : ov = Value.ref a := r1
  refine wpAny_bind (wpAny_standAt (wpAny_bind (wpAny_holding (setattr_ok I1 ea c n l r fun s3 I3 => ?_))))
  exact wpAny_release ⟨σ, _, I3, q⟩
theorem pe_vr {X : Cx} {pos : Pos} (i : Nat) {x : Str} (hN : X.N[i]? = some x := by rfl) (hv : Vis X.env.scope x := by first | exact .inl rfl | exact .inr (.inl rfl) | exact .inr (.inr rfl)) (hd : (x == ("__debug__" : Str)) = false := by decide +kernel) (hcd : (x == ("__classdict__" : Str)) = false := by decide +kernel) : PE X (.Name x pos) (tVar i) := pe_var hN hv hd hcd
variable {T : Tb} {E : XK} {X : Cx} {a b c : Expr} {f g : EX} {fb : BX} {pos : Pos}
theorem set_step {w : Wd} {S : Store} {H : Hp} {env : Env} {σ : L2.St} {i : Nat} {cs : List String} {fn : String} {y : D} {yv : V} {Pk : Ctl → Store → Prop} {Pe : String → List D → Store → Prop}
    (hc : ∀ c ∈ cs, Cls T.K (He.ga T.K (c : Str)) ∧ NoAttr T.K (He.ga T.K (c : Str)) (fn : Str)) (r : WR T w S H) (e : ER T w env σ) (p : Rep T w y yv) (q : RP (sSetAttr cs fn (eVar i) (eC y) env S) Pk Pe) :
    ∃ a C dx gs S', σ[i]? = some (some (.ref a)) ∧ H a = some (.ins C dx gs) ∧ Cls T.K C ∧ NoAttr T.K C (fn : Str) ∧ gs.length < 1000 ∧ WR T w S' (upd H a (.ins C dx (putF (fn : Str) yv gs))) ∧ Pk (.nx env) S' := by
  have q : RP ((eVar i env S).bnd _) Pk Pe := q
  have q := RP.bnd q
  cases z : env[i]? with
  | none => rw [u_eVar, z] at q; exact q.elim
  | some o =>
    cases o with
    | none => rw [u_eVar, z] at q; exact q.elim
    | some d =>
      obtain ⟨v, hs, rp⟩ := e.2 i d z
      rw [u_eVar, z] at q
      cases d with
      | ref n =>
        have h2 : RP (match S[n]? with
          | some (.ins c fs) => if cs.contains c && decide (fs.length < 1000) then (.ok (.nx env) (S.set n (.ins c (setF fn y fs))) : R Ctl) else .bad
          | _ => .bad) Pk Pe := q
        split at h2
        · rename_i c fs hS
          by_cases hcs : (cs.contains c && decide (fs.length < 1000)) = true
          · rw [if_pos hcs] at h2
            obtain ⟨k1, k2⟩ := Bool.and_eq_true_iff.mp hcs
            obtain ⟨pa, dx, gs, rfl, hn, h3, h4, h5⟩ := (inst_of rfl r rp).2 n c fs rfl hS
            obtain ⟨c1, c2⟩ := hc c (by simpa using k1)
            have hlen : gs.length < 1000 := by
              have e1 := congrArg List.length h4
              rw [List.length_map, List.length_map] at e1
              rw [e1]
              exact of_decide_eq_true k2
            obtain ⟨h6, h7⟩ := put_rep (T := T) (w := w) (f := fn) p h4 h5
            exact ⟨pa, _, dx, gs, _, hs, h3, c1, c2, hlen, r.write hS hn (by intro z; cases z) (o' := .ins (He.ga T.K (c : Str)) dx (putF (Str.ofString fn) yv gs)) (c' := .ins c (setF fn y fs)) ⟨dx, _, upd_same, h6, h7⟩, h2⟩
          · rw [if_neg hcs] at h2; exact h2.elim
        · exact h2.elim
      | _ => exact (show False from q).elim
/-- i.f1, j.f2 = e -/
def sSetA2 (c1 : List String) (f1 : String) (i : Nat) (c2 : List String) (f2 : String) (j : Nat) (e : EX) : ES := fun env S => (e env S).bnd fun d S1 => match d with
  | .tup [x, y] => (sSetAttr c1 f1 (eVar i) (eC x) env S1).bnd fun _ S2 => sSetAttr c2 f2 (eVar j) (eC y) env S2
  | _ => .bad
theorem is_setA2 {c1 c2 : List String} {f1 f2 : String} (i j : Nat) {x1 x2 : Str} {p1 p2 p3 p4 p5 : Pos} {k : Nat} (hc : X.calm = true) (hK : X.K = T.K) (h1 : ∀ c ∈ c1, Cls T.K (He.ga T.K (c : Str)) ∧ NoAttr T.K (He.ga T.K (c : Str)) (f1 : Str)) (h2 : ∀ c ∈ c2, Cls T.K (He.ga T.K (c : Str)) ∧ NoAttr T.K (He.ga T.K (c : Str)) (f2 : Str))
    (v1 : PE X (.Name x1 p1) (tVar i)) (v2 : PE X (.Name x2 p2) (tVar j)) (he : IE T E X a f)
    (hs : swapsWithSole [.Tuple [.Attribute (.Name x1 p1) (f1 : Str) p3, .Attribute (.Name x2 p2) (f2 : Str) p4] k p5] a pos.line X.env = pure false := by rfl) (hw : swappedStores [.Tuple [.Attribute (.Name x1 p1) (f1 : Str) p3, .Attribute (.Name x2 p2) (f2 : Str) p4] k p5] a X.env = pure none := by rfl)
    (hq : (assignEach [.Tuple [.Attribute (.Name x1 p1) (f1 : Str) p3, .Attribute (.Name x2 p2) (f2 : Str) p4] k p5] X.env).map (·.2) = [assign (.Tuple [.Attribute (.Name x1 p1) (f1 : Str) p3, .Attribute (.Name x2 p2) (f2 : Str) p4] k p5) X.env] := by rfl)
    (hn : (assignEach [.Attribute (.Name x1 p1) (f1 : Str) p3, .Attribute (.Name x2 p2) (f2 : Str) p4] X.env).length = 2 := by rfl) (hst : (assignEach [.Attribute (.Name x1 p1) (f1 : Str) p3, .Attribute (.Name x2 p2) (f2 : Str) p4] X.env).findIdx? (·.1) = none := by rfl)
    (hm1 : (assignEach [.Attribute (.Name x1 p1) (f1 : Str) p3, .Attribute (.Name x2 p2) (f2 : Str) p4] X.env).map (·.2) = assign (.Attribute (.Name x1 p1) (f1 : Str) p3) X.env :: (assignEach [.Attribute (.Name x2 p2) (f2 : Str) p4] X.env).map (·.2) := by rfl)
    (hm2 : (assignEach [.Attribute (.Name x2 p2) (f2 : Str) p4] X.env).map (·.2) = assign (.Attribute (.Name x2 p2) (f2 : Str) p4) X.env :: (assignEach [] X.env).map (·.2) := by rfl) :
    IS T E X (.Assign [.Tuple [.Attribute (.Name x1 p1) (f1 : Str) p3, .Attribute (.Name x2 p2) (f2 : Str) p4] k p5] a pos) (sSetA2 c1 f1 i c2 f2 j f) :=
  PS.mono (ps_asg he (pg_tup hc (pgs_cons (pg_attr v1) (pgs_cons (pg_attr v2) pgs_nil hm2) hm1) hn hst) hs hw hq) fun D σ H ⟨w, env, S, r, e, q⟩ => ⟨w, env, S, r, e, (RP.bnd q).mono (fun d S1 q1 w1 H1 xv l1 r1 p1 => by
    split at q1
    · rename_i x y
      cases p1 with
      | @tup _ pa vs hT rr =>
        cases rr with
        | cons ra rb => cases rb with
          | cons rb rc =>
            cases rc
            refine ⟨pa, _, rfl, by rw [hK]; exact sqt_sub r1 hT, rfl, _, _, rfl, ?_⟩
            obtain ⟨a1, C1, dx1, gs1, S2, g1, g2, g3, g4, g5, r2, q2⟩ := set_step h1 r1 (e.mono l1) ra (RP.bnd q1)
            refine ⟨_, g1, a1, C1, dx1, gs1, rfl, g2, by rw [hK]; exact g3, by rw [hK]; exact g4, g5, _, _, rfl, ?_⟩
            obtain ⟨a2, C2, dx2, gs2, S3, k1, k2, k3, k4, k5, r3, q3⟩ := set_step h2 r2 (e.mono l1) rb q2
            exact ⟨_, k1, a2, C2, dx2, gs2, rfl, k2, by rw [hK]; exact k3, by rw [hK]; exact k4, k5, rfl, q3 w1 _ σ l1 r3 (e.mono l1)⟩
    · exact (show False from q1).elim) fun _ _ _ x => x⟩
end Ro
end
section
set_option Elab.async false
set_option linter.all false
set_option maxRecDepth 100000
set_option maxHeartbeats 4000000
namespace Ro
open PySem PySem.Spec PyProof.Rows L2
variable {T : Tb} {E : XK} {X : Cx} {a b : Expr} {f g : EX} {pos : Pos}
def isOf (cn : String) (d : D) (S : Store) : Bool := match d with
  | .obj c _ => decide (c = cn)
  | .ref n => (match S[n]? with
    | some (.ins c _) => decide (c = cn)
    | _ => false)
  | _ => false
theorem isOf_at {w : Wd} {S : Store} {H : Hp} {x : V} {cn : String} {d : D} (r : WR T w S H) (p : Rep T w d x) (h : isOf cn d S = true) : ∃ a dx gs, x = .ref a ∧ H a = some (.ins (He.ga T.K (cn : Str)) dx gs) := by
  obtain ⟨i1, i2⟩ := inst_of rfl r p
  unfold isOf at h
  split at h
  · rename_i c l
    obtain rfl := of_decide_eq_true h
    obtain ⟨a, dx, gs, e1, e2, _⟩ := i1 c l rfl
    exact ⟨a, dx, gs, e1, e2⟩
  · rename_i n
    split at h
    · rename_i c fs hS
      obtain rfl := of_decide_eq_true h
      obtain ⟨a, dx, gs, e1, _, e2, _⟩ := i2 n c fs rfl hS
      exact ⟨a, dx, gs, e1, e2⟩
    · cases h
  · cases h
def rEqV (T : Tb) (cn : String) (m : Fn) (op : Bool → Bool) : R2 := fun x y H Q => ∃ (w : Wd) (S : Store) (d d' : D), WR T w S H ∧ Rep T w d x ∧ Rep T w d' y ∧ isOf cn d S = true ∧ isOf cn d' S = true ∧
  RP (m [d, d'] S) (fun d S' => ∃ c : Bool, d = .bl c ∧ ∀ w' H', w.le w' → WR T w' S' H' → Q (.bl (op c)) H') (fun _ _ _ => False)
theorem meth2V {cn : String} {m : Fn} {k : Nat} {df : He.DefD} {A : Around} {pins : List (Addr × Obj)} {σ : L2.St} {s : Shared} {H : Hp} {w : Wd} {S : Store} {d d' : D} {p p' : Addr} {Q : V → Hp → Prop} {op : Bool → Bool} {E : Value → Shared → Prop} (hK : X.K = T.K) (ok : OkF T X.prog X.w X.mg X.base k df ["self", "other"] m) (hr : RG k A)
    (hb : ∀ fd, FunD T.K df.name df.qual df.params df.body df.scope (df.dvs T.K) [] (He.fAd T.K df.at_) fd → Binds T.K fd ["self", "other"] []) (I : Inv X pins σ H s) (he : Env0 X.prog X.w T.K X.mg X.base A X.stack s H) (wr : WR T w S H) (r1 : Rep T w d (.ref p)) (r2 : Rep T w d' (.ref p'))
    (q : RP (m [d, d'] S) (fun d S' => ∃ c : Bool, d = .bl c ∧ ∀ w' H', w.le w' → WR T w' S' H' → Q (.bl (op c)) H') (fun _ _ _ => False)) :
    wpAny (model X.prog X.w) A (call (.ref (He.fAd T.K df.at_)) [.ref p, .ref p']) (fun v s' => ∃ c : Bool, v = .bool c ∧ EP X pins σ Q (.bool (op c)) s') E s := by
  obtain ⟨fd, FD, FG⟩ := ok.ex
  have hsp : spI T ["self", "other"].length m [.ref p, .ref p'] H (fun v H' => ∃ c : Bool, v = .bl c ∧ Q (.bl (op c)) H') (fun _ _ _ => False) := ⟨rfl, w, [d, d'], S, wr, .cons r1 (.cons r2 .nil), q.mono (fun d' S' h => fun w' H' v l' r' p' => by
    obtain ⟨c, rfl, h2⟩ := h
    cases p'
    exact ⟨c, rfl, h2 w' H' l' r'⟩) fun c fs S' h => h.elim⟩
  have rv : Vals [V.ref p, V.ref p'] [Value.ref p, Value.ref p'] := .cons rfl (.cons rfl .nil)
  have hbd : BindsTo s fd ⟨[.ref p, .ref p'], []⟩ ((["self", "other"] : List Str).zip [Value.ref p, Value.ref p']) := by
    have := hb fd FD s [.ref p, .ref p'] (by rw [← hK]; exact I.kIn) rfl
    simpa using this
  refine wpAny_call (codeAny_mono (FG.run A X.stack s H ⟨[.ref p, .ref p'], []⟩ [.ref p, .ref p'] [.ref p, .ref p'] _ (fun _ _ _ => False) hr he hbd rv hsp) fun r s' hq => ?_)
  cases r with
  | error e =>
    obtain ⟨_, _, _, _, _, _, _, _, _, _, _, _, z⟩ := hq
    exact z.elim
  | ok fl =>
    cases fl with
    | ret v =>
      obtain ⟨z, H', I', rz, ⟨c, ec, ex⟩⟩ := I.after hq
      subst ec
      obtain rfl : v = Value.bool c := rz
      exact ⟨c, rfl, V.bl (op c), H', I', rfl, ex⟩
    | next => exact False.elim hq
    | brk => exact False.elim hq
    | cont => exact False.elim hq
theorem oi_eqV {cn : String} {m : Fn} {k : Nat} {d : He.DefD} (hK : X.K = T.K) (ok : OkF T X.prog X.w X.mg X.base k d ["self", "other"] m) (hr : RG k X.A) (M : Meth T.K (He.ga T.K (cn : Str)) "__eq__" (He.fAd T.K d.at_))
    (hb : ∀ fd, FunD T.K d.name d.qual d.params d.body d.scope (d.dvs T.K) [] (He.fAd T.K d.at_) fd → Binds T.K fd ["self", "other"] []) : OpR X (compareOp .Eq) (rEqV T cn m id) := by
  intro pins s σ H x y v u Q I rx ry h
  obtain ⟨w, S, e, e', wr, r1, r2, o1, o2, q⟩ := h
  obtain ⟨p, dx, gs, rfl, hG⟩ := isOf_at wr r1 o1
  obtain ⟨p', dx', gs', rfl, hG'⟩ := isOf_at wr r2 o2
  cases rx; cases ry
  obtain ⟨mA, J, _⟩ := ins_get I.hok hG
  obtain ⟨mB, J', _⟩ := ins_get I.hok hG'
  obtain ⟨od, J, _⟩ := J.look
  obtain ⟨od', J', _⟩ := J'.look
  obtain ⟨mf, hF⟩ := I.fr
  have e0 : Env0 X.prog X.w T.K X.mg X.base X.A X.stack s H := by
    have e := I.env0
    rw [hK] at e
    exact e
  refine PySem.W.cmp_K (op := .Eq) (tb := .ref (He.ga T.K (cn : Str))) hr.rm.units0 hF I.ok.mod.kin J J'.type (by simp [PySem.W.notFirst]) (by rw [hK]; exact M.at_) (by rw [hK]; exact M.fn) ?_
  refine wpAny_mono (meth2V (cn := cn) (op := id) hK ok hr hb I e0 wr r1 r2 q) (fun r s' h => ?_) fun _ _ e => e
  obtain ⟨c, rfl, h⟩ := h
  exact h
theorem oi_neV {cn : String} {m : Fn} {k : Nat} {d : He.DefD} (hK : X.K = T.K) (ok : OkF T X.prog X.w X.mg X.base k d ["self", "other"] m) (hr : RG (k + 1) X.A) (M : Meth T.K (He.ga T.K (cn : Str)) "__eq__" (He.fAd T.K d.at_))
    (hs : PySem.W.findIn T.K (.ref (He.ga T.K (cn : Str))) "__ne__" = some (some (.builtin "object.__ne__"))) (hm : PySem.W.mroIn T.K (He.ga T.K (cn : Str)) (.type "object") = some true)
    (hb : ∀ fd, FunD T.K d.name d.qual d.params d.body d.scope (d.dvs T.K) [] (He.fAd T.K d.at_) fd → Binds T.K fd ["self", "other"] []) : OpR X (compareOp .NotEq) (rEqV T cn m not) := by
  intro pins s σ H x y v u Q I rx ry h
  obtain ⟨w, S, e, e', wr, r1, r2, o1, o2, q⟩ := h
  obtain ⟨p, dx, gs, rfl, hG⟩ := isOf_at wr r1 o1
  obtain ⟨p', dx', gs', rfl, hG'⟩ := isOf_at wr r2 o2
  cases rx; cases ry
  obtain ⟨mA, J, _⟩ := ins_get I.hok hG
  obtain ⟨mB, J', _⟩ := ins_get I.hok hG'
  obtain ⟨od, J, _⟩ := J.look
  obtain ⟨od', J', _⟩ := J'.look
  obtain ⟨mf, hF⟩ := I.fr
  have e0 : Env0 X.prog X.w T.K X.mg X.base X.A.in1 X.stack s H := by
    have e := I.env0
    rw [hK] at e
    exact ⟨e.frames, e.mod, e.bs, e.bsz, e.funs, e.frf, e.hok, e.bare⟩
  have hu : X.A.in1.units + 1 < cLine := by
    have := hr.rm.units
    have e : X.A.in1.units = X.A.units + 1 := rfl
    omega
  refine cmpNe_K (tb := .ref (He.ga T.K (cn : Str))) hu hF I.ok.mod.kin J J'.type (by simp [PySem.W.notFirst]) (by rw [hK]; exact hs) (by rw [hK]; exact hm) (by rw [hK]; exact M.at_) (by rw [hK]; exact M.fn) (fun _ => rfl) ?_
  refine wpAny_mono (meth2V (cn := cn) (op := not) hK ok hr.in1 hb I e0 wr r1 r2 q) (fun r s' h => ?_) fun _ _ e => e
  obtain ⟨c, rfl, h⟩ := h
  exact ⟨c, rfl, h⟩
/-- the mirror -/
def eqMV (cn : String) (m : Fn) (op : Bool → Bool) (x y : D) (S : Store) : R D := if isOf cn x S && isOf cn y S then (match m [x, y] S with
    | .ok (.bl b) S2 => .ok (.bl (op b)) S2
    | _ => .bad) else .bad
def eEqV (cn : String) (m : Fn) (op : Bool → Bool) (f g : EX) : EX := fun env S => (f env S).bnd fun x S1 => (g env S1).bnd fun y S2 => eqMV cn m op x y S2
theorem eqMV_of {cn : String} {m : Fn} {op : Bool → Bool} {w : Wd} {d e : D} {S : Store} {x y : V} {H : Hp} {Q : VK} (r : WR T w S H) (p : Rep T w d x) (q : Rep T w e y) (h : RP (eqMV cn m op d e S) (fun d S' => ∀ w' H' v, w.le w' → WR T w' S' H' → Rep T w' d v → Q v H') (XW T w E)) : rEqV T cn m op x y H Q := by
  unfold eqMV at h
  split at h
  · rename_i hc
    obtain ⟨c1, c2⟩ := Bool.and_eq_true_iff.mp hc
    refine ⟨w, S, d, e, r, p, q, c1, c2, ?_⟩
    cases y : m [d, e] S with
    | bad => rw [y] at h; exact h.elim
    | err a b S' => rw [y] at h; exact h.elim
    | ok d' S' =>
      rw [y] at h
      cases d' with
      | bl b => exact ⟨b, rfl, fun w' H' l1 r1 => h w' H' _ l1 r1 (.bl _)⟩
      | _ => exact h.elim
  · exact h.elim
theorem ie_eqV {o : CmpOp} {cn : String} {m : Fn} {op : Bool → Bool} (ho : OpR X (compareOp o) (rEqV T cn m op)) (ha : IE T E X a f) (hb : IE T E X b g) (hm : behindInMarks o b = false) : IE T E X (.Compare a [o] [b] pos) (eEqV cn m op f g) :=
  PE.mono (pe_cmpR ho ha hb hm) fun σ H Q q => by
    have q2 := tI_two (k := fun x y S => eqMV cn m op x y S) q
    obtain ⟨w, env, S, r, e, h⟩ := q2
    refine ⟨w, env, S, r, e, h.mono (fun d S1 h1 w1 H1 x l1 r1 p1 => ?_) fun _ _ _ x => x⟩
    obtain ⟨w2, env2, S2, r2, e2, h2⟩ := h1 w1 H1 x l1 r1 p1
    refine ⟨w2, env2, S2, r2, e2, h2.mono (fun d S1 h1 w1 H1 x l1 r1 p1 => ?_) fun _ _ _ x => x⟩
    obtain ⟨w3, d3, e3, S3, r3, p3, q3, h3⟩ := h1 w1 H1 x l1 r1 p1
    exact eqMV_of r3 p3 q3 h3
theorem ib_eqV {o : CmpOp} {cn : String} {m : Fn} {op : Bool → Bool} (ho : OpR X (compareOp o) (rEqV T cn m op)) (ha : IE T E X a f) (hb : IE T E X b g) (hm : behindInMarks o b = false) : IB T E X (.Compare a [o] [b] pos) (bVal (eEqV cn m op f g)) :=
  PT.mono (pt_cmpR ho ha hb hm) fun σ H Q q => by
    have q2 := tI_two (k := fun x y S => eqMV cn m op x y S) (tI_bVal q)
    obtain ⟨w, env, S, r, e, h⟩ := q2
    refine ⟨w, env, S, r, e, h.mono (fun d S1 h1 w1 H1 x l1 r1 p1 => ?_) fun _ _ _ x => x⟩
    obtain ⟨w2, env2, S2, r2, e2, h2⟩ := h1 w1 H1 x l1 r1 p1
    refine ⟨w2, env2, S2, r2, e2, h2.mono (fun d S1 h1 w1 H1 x l1 r1 p1 => ?_) fun _ _ _ x => x⟩
    obtain ⟨w3, d3, e3, S3, r3, p3, q3, h3⟩ := h1 w1 H1 x l1 r1 p1
    exact eqMV_of r3 p3 q3 h3
def rLenV (T : Tb) (cn : String) (m : Fn) : List V → Hp → VK → Prop := fun vs H Q => ∃ (w : Wd) (S : Store) (d : D) (x : V), WR T w S H ∧ vs = [x] ∧ Rep T w d x ∧ isOf cn d S = true ∧
  RP (m [d] S) (fun d S' => ∃ n : Int, d = .int n ∧ (0 ≤ n ∧ n < 1000000000) ∧ ∀ w' H', w.le w' → WR T w' S' H' → Q (.int n) H') (fun _ _ _ => False)
theorem call_lenV {cn : String} {m : Fn} {k : Nat} {d : He.DefD} (hK : X.K = T.K) (ok : OkF T X.prog X.w X.mg X.base k d ["self"] m) (hr : RG k X.A.in1) (M : Meth T.K (He.ga T.K (cn : Str)) "__len__" (He.fAd T.K d.at_))
    (hb : ∀ fd, FunD T.K d.name d.qual d.params d.body d.scope (d.dvs T.K) [] (He.fAd T.K d.at_) fd → Binds T.K fd ["self"] []) : CallR X (.builtin "len") (rLenV T cn m) := by
  intro pins s σ H xs us Q I rv h
  obtain ⟨w, S, e, x, wr, rfl, rp, o, q⟩ := h
  obtain ⟨p, dx, gs, rfl, hG⟩ := isOf_at wr rp o
  obtain ⟨u, rfl, ru⟩ := Vals.one rv
  cases ru
  obtain ⟨fd, FD, FG⟩ := ok.ex
  obtain ⟨mA, J, _⟩ := ins_get I.hok hG
  obtain ⟨od, J, _⟩ := J.look
  obtain ⟨mf, hF⟩ := I.fr
  refine PySem.W.len_K (C := He.ga T.K (cn : Str)) (f := He.fAd T.K d.at_) hF I.ok.mod.kin J (by rw [hK]; exact M.at_) (by rw [hK]; exact M.fn) ?_
  have e0 : Env0 X.prog X.w T.K X.mg X.base X.A.in1 X.stack s H := by
    have e := I.env0
    rw [hK] at e
    exact ⟨e.frames, e.mod, e.bs, e.bsz, e.funs, e.frf, e.hok, e.bare⟩
  have hsp : spI T ["self"].length m [.ref p] H (fun v H' => ∃ n : Int, v = .int n ∧ (0 ≤ n ∧ n < 1000000000) ∧ Q (.int n) H') (fun _ _ _ => False) := ⟨rfl, w, [e], S, wr, .cons rp .nil, q.mono (fun d' S' h => fun w' H' v l' r' p' => by
    obtain ⟨n, rfl, hn, h2⟩ := h
    cases p'
    exact ⟨n, rfl, hn, h2 w' H' l' r'⟩) fun c fs S' h => h.elim⟩
  have r2 : Vals [V.ref p] [Value.ref p] := .cons rfl .nil
  have hbd : BindsTo s fd ⟨[.ref p], []⟩ ((["self"] : List Str).zip [Value.ref p]) := by
    have := hb fd FD s [.ref p] (by rw [← hK]; exact I.kIn) rfl
    simpa using this
  refine wpAny_call (codeAny_mono (FG.run X.A.in1 X.stack s H ⟨[.ref p], []⟩ [.ref p] [.ref p] _ (fun _ _ _ => False) hr e0 hbd r2 hsp) fun r s' hq => ?_)
  cases r with
  | error e =>
    obtain ⟨_, _, _, _, _, _, _, _, _, _, _, _, z⟩ := hq
    exact z.elim
  | ok fl =>
    cases fl with
    | ret v =>
      obtain ⟨z, H', I', rz, n, en, hn, ex⟩ := I.after hq
      subst en
      obtain ⟨t, rfl⟩ := rz
      show (0 ≤ n ∧ n < 2 ^ 63) ∧ _
      exact ⟨⟨hn.1, by omega⟩, .int n, H', I'.tok _, ⟨_, rfl⟩, ex⟩
    | next => exact False.elim hq
    | brk => exact False.elim hq
    | cont => exact False.elim hq
def lenMV (cn : String) (m : Fn) (x : D) (S1 : Store) : R D := if isOf cn x S1 then (match m [x] S1 with
    | .ok (.int n) S2 => if 0 ≤ n ∧ n < 1000000000 then .ok (.int n) S2 else .bad
    | _ => .bad) else .bad
def eLenV (cn : String) (m : Fn) (f : EX) : EX := fun env S => (f env S).bnd (lenMV cn m)
theorem ie_lenV {p : Pos} {cn : String} {m : Fn} {k : Nat} {d : He.DefD} (hK : X.K = T.K) (ok : OkF T X.prog X.w X.mg X.base k d ["self"] m) (hr : RG k X.A.in1) (M : Meth T.K (He.ga T.K (cn : Str)) "__len__" (He.fAd T.K d.at_))
    (hb : ∀ fd, FunD T.K d.name d.qual d.params d.body d.scope (d.dvs T.K) [] (He.fAd T.K d.at_) fd → Binds T.K fd ["self"] []) (hg : Gl X "len") (hn : X.mg "len" = none) (ha : IA T E X [a] (aCons f aNil))
    (he : starEach [a] X.env = (false, eval a X.env) :: starEach [] X.env := by rfl) (hpl : (backTo pos (starEach [] X.env)).any (·.1) = false := by rfl) : IE T E X (.Call (.Name "len" p) [a] [] pos) (eLenV cn m f) :=
  PE.mono (pe_callB (call_lenV hK ok hr M hb) hg hn (by decide +kernel) ha (by decide +kernel) (by decide +kernel) he hpl) fun σ H Q ⟨w, env, S, r, e, q⟩ => by
    refine ⟨w, env, S, r, e, ?_⟩
    have q := RP.bnd q
    show RP ((f env S).bnd fun x S1 => (aNil env S1).bnd fun xs S2 => .ok (x :: xs) S2) _ _
    cases z : f env S with
    | bad => rw [z] at q; exact q
    | err c fs S1 => rw [z] at q; exact q
    | ok x S1 =>
      rw [z] at q
      rw [bnd_ok]
      show RP (R.ok [x] S1 : R (List D)) _ _
      intro w' H' vs l' r' p'
      have q : RP (lenMV cn m x S1) (fun d S' => ∀ w' H' v, w.le w' → WR T w' S' H' → Rep T w' d v → Q v H') (XW T w E) := q
      unfold lenMV at q
      split at q
      · rename_i hc
        cases p' with
        | cons p1 p2 =>
          cases p2
          refine ⟨w', S1, x, _, r', rfl, p1, hc, ?_⟩
          cases y : m [x] S1 with
          | bad => rw [y] at q; exact q.elim
          | err c' fs' S' => rw [y] at q; exact q.elim
          | ok d' S' =>
            rw [y] at q
            cases d' with
            | int n =>
              dsimp only at q
              split at q
              · rename_i hn
                exact ⟨n, rfl, hn, fun w2 H2 l2 r2 => q w2 H2 (.int n) (l'.trans l2) r2 (.int n)⟩
              · exact q.elim
            | _ => exact q.elim
      · exact q.elim
end Ro
end
section
set_option Elab.async false
set_option linter.all false
set_option maxRecDepth 100000
set_option maxHeartbeats 4000000
namespace GQ
open PySem PySem.SeqAt
open AutoSeq1 (wpAny_loadPart')
open MeetsSeq MeetsSeq2 MeetsSeq3 SeqRoads2
section
variable {prog : Program} {w : World} {A : Around} {R : Result → Shared → Prop} {E : Value → Shared → Prop}
def IxJ (prog : Program) (w : World) (A : Around) (E : Value → Shared → Prop) (l : Addr) (x : Value) (N : Nat) (I : Nat → Shared → Prop) (Fl : Nat → Shared → Prop) : Prop :=
  ∀ i s, I i s → ∃ items, OneL l N s items ∧ i < N ∧ ∀ (h1 : i < items.size), wpAny (model prog w) A.in1 (eqBool items[i] x) (fun r s' => (r = false ∧ I (i + 1) s') ∨ (r = true ∧ Fl i s')) E s
theorem ix_loopJ (l : Addr) (x : Value) (N : Nat) (I : Nat → Shared → Prop) (Fl : Nat → Shared → Prop) (hl : IxJ prog w A (fun e s' => R (.error e) s') l x N I Fl) (upto : Int) (hN : (N : Int) < upto)
    (finF : ∀ i s, Fl i s → R (.ok (.ret (.int i s.toks))) { s with toks := s.toks + 1 }) (k : Nat) :
    ∀ i : Nat, N - i = k → i ≤ N → ∀ s, I i s →
      wpAny (model prog w) A.in1 (Builtin.«list.index.loop» ⟨[.ref l, x, rawInt i, rawInt upto], []⟩) (FinOf prog w A R) (fun e s' => R (.error e) s') s := by
  induction k with
  | zero =>
    intro i hk hi s h
    obtain ⟨items, _, hlt, _⟩ := hl _ _ h
    omega
  | succ k ih =>
    intro i hk hi s h
    obtain ⟨items, ⟨n, hl1, hs1⟩, hlt0, turn⟩ := hl _ _ h
    have hlt : i < items.size := by omega
    have hst : (i : Int) < upto := by omega
    have ht := turn hlt
    obtain ⟨hp, g, d, tk, os⟩ := s
    wp_walk using wpAny_loadPart' hl1
    have hi1 : (if (i : Int) < upto then items[((i : Nat) : Int).toNat]? else none) = some items[i] := by rw [if_pos hst]; simp [hlt]
    have hc : ((i : Int) + 1) = ((i + 1 : Nat) : Int) := by omega
    rw [hi1]
    refine wpAny_bind (wpAny_mono ht (fun r s2 h2 => ?_) fun _ _ x => x)
    rcases h2 with ⟨hr, h2⟩ | ⟨hr, hF⟩
    · subst hr
      have hrec := ih (i + 1) (by omega) (by omega) s2 h2
      obtain ⟨hp2, g2, d2, tk2, os2⟩ := s2
      wp_walk
      rw [hc]
      exact ⟨plainId_quiet plain_index_loop _, codeAny_builtin entry_index_loop (by
        rw [Around.under_plainId plain_index_loop _]
        exact hrec)⟩
    · subst hr
      have hR := finF i s2 hF
      obtain ⟨hp2, g2, d2, tk2, os2⟩ := s2
      wp_walk
      exact hR
theorem list_ixJ (l : Addr) (x : Value) (N : Nat) (I : Nat → Shared → Prop) (Fl : Nat → Shared → Prop) (hl : IxJ prog w A (fun e s' => R (.error e) s') l x N I Fl) (hN : (N : Int) < 2 ^ 63 - 1)
    (finF : ∀ i s, Fl i s → R (.ok (.ret (.int i s.toks))) { s with toks := s.toks + 1 }) {s : Shared} (h : I 0 s) :
    wpAny (model prog w) A.in1 (Builtin.«list.index» ⟨[.ref l, x], []⟩) (FinOf prog w A R) (fun e s' => R (.error e) s') s := by
  obtain ⟨items, ⟨n, hl1, hs1⟩, _⟩ := hl _ _ h
  have hrec := ix_loopJ (A := A) (R := R) l x N I Fl hl (2 ^ 63 - 1) hN finF _ 0 rfl (Nat.zero_le _) s h
  obtain ⟨hp, g, d, tk, os⟩ := s
  wp_walk using wpAny_loadPart' hl1
  exact ⟨plainId_quiet plain_index_loop _, codeAny_builtin entry_index_loop (by
    rw [Around.under_plainId plain_index_loop _]
    exact hrec)⟩
theorem mt_ixJ {l : Addr} {x : Value} {N : Nat} {Q : Value → Shared → Prop} {s : Shared} (I : Nat → Shared → Prop) (Fl : Nat → Shared → Prop) (hl : IxJ prog w A E l x N I Fl) (hN : (N : Int) < 2 ^ 63 - 1)
    (finF : ∀ i s, Fl i s → Q (.int i s.toks) { s with toks := s.toks + 1 }) (h : I 0 s) : wpAny (model prog w) A (call (.builtin "list.index") [.ref l, x]) Q E s := by
  obtain ⟨items, ⟨n, hl1, _⟩, _⟩ := hl _ _ h
  exact call_here F.slot_list_index ⟨_, hl1, rfl⟩ F.entry_list_index (F.args_list_index_2 _ _) (list_ixJ (R := wants Q E) l x N I Fl hl hN finF h)
end
end GQ
namespace Ro
open PySem PySem.Spec PyProof.Rows L2
section
variable {T : Tb} {E : XK} {X : Cx} {tab : ETab} {cls : List String} {kk : Nat} {a b : Expr} {f g : EX} {pos : Pos} {pins : List (Addr × Obj)} {σ : L2.St} {s : Shared} {H : Hp} {w : Wd} {S : Store}
/-- the first place where e says yes -/
def fstA (e : D → Option Bool) : Nat → List D → Option Nat
  | _, [] => none
  | i, y :: l => match e y with
    | some true => some i
    | some false => fstA e (i + 1) l
    | none => none
noncomputable def ixAM (tab : ETab) (cls : List String) (x y : D) (S : Store) : R D := match seeD x S with
  | .lst l => if l.length ≤ LINE then (match fstA (fun z => eqE tab cls S 6 z y) 0 l with
    | some i => .ok (.int i) S
    | none => .bad) else .bad
  | _ => .bad
theorem ix_J {A : Around} (he : ElR T X tab cls 6 A.in1) {d : D} {x : V} {v : Value} (rx : Rep T w d x) (qx : RelV x v) {l : List D} {a : Addr} (h1 : ∀ w' H', w.le w' → WR T w' S H' → ∃ vs, H' a = some (.lst vs) ∧ Reps T w' l vs) {j : Nat} (E : Value → Shared → Prop) :
    GQ.IxJ X.prog X.w A E a v l.length (fun i s' => fstA (fun z => eqE tab cls S 6 z d) i (l.drop i) = some j ∧ Post X T pins σ w S s') (fun i s' => i = j ∧ Post X T pins σ w S s') := by
  intro i s' ⟨hz, hP⟩
  obtain ⟨H', w', I, le, wr⟩ := hP
  obtain ⟨vs, e1, r1⟩ := h1 w' H' le wr
  obtain ⟨z, its, k, r, e⟩ := I.hok a _ e1
  have hlt : i < l.length := by
    rcases Nat.lt_or_ge i l.length with h | h
    · exact h
    · rw [List.drop_of_length_le h, fstA] at hz
      cases hz
  refine ⟨its.toArray, ⟨k, e, by rw [List.size_toArray, ← r.length, ← r1.length]⟩, hlt, fun hi => ?_⟩
  have hl : i < l.length := hlt
  obtain ⟨vx, p1, p2⟩ := reps_get r1 r hl hi
  rw [List.drop_eq_getElem_cons hl, fstA] at hz
  cases y : eqE tab cls S 6 l[i] d with
  | none => rw [y] at hz; cases hz
  | some q =>
    rw [y] at hz
    refine wpAny_mono (he pins σ s' H' w' S _ _ vx x _ v q I wr p1 p2 (rx.monoS le.tosb) qx y E) (fun k' s2 hk => ?_) fun _ _ e => e
    obtain ⟨rfl, hP2⟩ := hk
    cases k' with
    | true =>
      have : i = j := by injection hz
      exact .inr ⟨rfl, this, hP2.le le⟩
    | false => exact .inl ⟨rfl, hz, hP2.le le⟩
def rIxA (T : Tb) (tab : ETab) (cls : List String) : V → List V → Hp → VK → Prop := fun x xs H Q => ∃ w S d e l j y, WR T w S H ∧ xs = [y] ∧ Rep T w d x ∧ Rep T w e y ∧ seeD d S = .lst l ∧ l.length ≤ LINE ∧ fstA (fun z => eqE tab cls S 6 z e) 0 l = some j ∧ ∀ w' H', w.le w' → WR T w' S H' → Q (.int j) H'
theorem mt_ixA (h : EqH T X tab cls kk) (hr : RG (kk + 8) X.A) : MtR X "list.index" (rIxA T tab cls) := by
  intro pins s σ H x xs v us Q I rx rxs q
  obtain ⟨w, S, d, e, l, j, y, wr, rfl, p1, p2, hs, hlen, hz, hQ⟩ := q
  obtain ⟨uy, rfl, ry⟩ := Vals.one rxs
  obtain ⟨a, rfl, h1⟩ := lst_at (S := S) (l := l) (v := x) ⟨d, hs.symm, p1⟩
  cases rx
  have el := (eqA_run h 6).1 X.A.in1 (SubG.in1 (SubG.here (hr.mono (by omega))))
  have hl : l.length ≤ 16777216 := hlen
  refine GQ.mt_ixJ (N := l.length) _ _ (ix_J (pins := pins) (σ := σ) el p2 ry h1 (j := j) X.xe) (by omega) (fun i s' q => ?_) ⟨by simpa using hz, H, w, I, Wd.le.refl _, wr⟩
  obtain ⟨rfl, H', w', I', le, wr'⟩ := q
  exact ⟨.int i, H', I'.tok _, ⟨_, rfl⟩, hQ w' H' le wr'⟩
noncomputable def eIxA (tab : ETab) (cls : List String) (f g : EX) : EX := fun env S => (f env S).bnd fun x S1 => if tyD x S1 = some (.b "list") then (g env S1).bnd fun y S2 => ixAM tab cls x y S2 else .bad
theorem ie_ixA {apos : Pos} (h : EqH T X tab cls kk) (hr : RG (kk + 8) X.A) (hK : X.K = T.K) (ho : IE T E X a f) (hb : IE T E X b g) (hbase : attributeBase a "index" X.env (eval a X.env) = eval a X.env := by rfl)
    (hfew : ((backTo pos (starEach [b] X.env)).all (fun x => !x.1) && (backToKw pos (keywordEach [] X.env)).all (fun x => x.1.isSome)
      && decide (([b]).length + ([] : List Keyword).length + (if ([] : List Keyword).isEmpty then 0 else 1) < 30)) = true := by rfl)
    (hline : (apos.endLine == pos.line) = true := by rfl) (hs : starEach [b] X.env = (false, eval b X.env) :: starEach [] X.env := by rfl) (hpl : (backTo pos (starEach [] X.env)).any (·.1) = false := by rfl) :
    IE T E X (.Call (.Attribute a "index" apos) [b] [] pos) (eIxA tab cls f g) :=
  PE.mono (pe_bm PySem.F.plainAttrs_list PySem.F.slot_list_index PySem.F.type_list_index (mt_ixA h hr) ho (pa_cons hb pa_nil hs) hbase hfew hline hs hpl) fun σ H Q ⟨w, env, S, r, e, q⟩ => ⟨w, env, S, r, e, (RP.bnd q).mono (fun d S1 h1 w1 H1 x l1 r1 p1 => by
    by_cases ht : tyD d S1 = some (.b "list")
    · rw [if_pos ht] at h1
      refine ⟨by rw [hK]; exact tyV_list r1 p1 ht, w1, env, S1, r1, e.mono l1, (RP.bnd h1).mono (fun y S2 h2 w2 H2 yv l2 r2 p2 => ?_) fun _ _ _ x => x.le l1⟩
      unfold ixAM at h2
      split at h2
      · rename_i l hl
        split at h2
        · rename_i hlen
          split at h2
          · rename_i i hi
            exact ⟨w2, S2, d, y, l, i, yv, r2, rfl, p1.mono l2, p2, hl, hlen, hi, fun w3 H3 l3 r3 => h2 w3 H3 _ ((l1.trans l2).trans l3) r3 (.int _)⟩
          · exact (show False from h2).elim
        · exact (show False from h2).elim
      · exact (show False from h2).elim
    · rw [if_neg ht] at h1
      exact (show False from h1).elim) fun _ _ _ x => x⟩
end
section
variable {T : Tb} {E : XK} {X : Cx} {body : List Stmt} {s : ES} {h₀ : ExceptHandler} {hds : List ExceptHandler} {pos : Pos}
def sTryN (s : ES) : ES := fun env S => (s env S).nox
theorem is_tryN (hb : ∀ (pn : List (Addr × Obj)) (xe : Value → Shared → Prop), PassesOwn (model X.prog X.w) X.A X.env xe → ISs T E00 (X.tr pn xe) body s) : IS T E X (.Try body (h₀ :: hds) [] [] pos) (sTryN s) := by
  constructor
  intro pins s1 σ H D I h
  have okX := I.ok
  obtain ⟨w, env, S, r, e, q⟩ := h
  have h : tIs T E00 s D σ H := by
    refine ⟨w, env, S, r, e, ?_⟩
    unfold sTryN at q
    cases z : s env S with
    | ok c S1 => rw [z] at q; exact q
    | err c fs S1 => rw [z] at q; exact q.elim
    | bad => rw [z] at q; exact q.elim
  apply wpAny_Try_except
  refine wpAny_mono ((hb (X.pn ++ pins) (fun e s1 => wpAny (model X.prog X.w) X.A (noteFrame e X.env) (fun _ s2 => wpAny (model X.prog X.w) X.A (setFlight e none) (fun _ s3 =>
    wpAny (model X.prog X.w) X.A (handleBy e X.env (h₀ :: hds)) (SP X pins D) X.xe s3) X.xe s2) X.xe s1) PassesOwn.looking).run [] s1 σ H D (I.toTry _) h) (fun f s1 ended => ?_) (fun e s1 he => he)
  cases f with
  | next =>
    obtain ⟨_, _, J', q⟩ := ended
    exact wpAny_execs_nil ⟨_, _, J'.ofTry okX, q⟩
  | brk =>
    obtain ⟨_, _, J', q⟩ := ended
    exact ⟨_, _, J'.ofTry okX, q⟩
  | cont =>
    obtain ⟨_, _, J', q⟩ := ended
    exact ⟨_, _, J'.ofTry okX, q⟩
  | ret u =>
    obtain ⟨_, _, _, J', r, q⟩ := ended
    exact ⟨_, _, _, J'.ofTry okX, r, q⟩
end
end Ro
end
section
set_option Elab.async false
set_option linter.all false
set_option maxRecDepth 100000
set_option maxHeartbeats 4000000
namespace Ro
open PySem PySem.Spec PyProof.Rows L2
variable {T : Tb} {E : XK} {X : Cx} {a b : Expr} {f g : EX} {fa : AX} {pos : Pos}
def isort (l : List Int) : List Int := l.mergeSort fun a b => decide (a ≤ b)
theorem isort_perm (l : List Int) : (isort l).Perm l := List.mergeSort_perm _ _
theorem isort_pw (l : List Int) : (isort l).Pairwise (· ≤ ·) := by
  have h := List.pairwise_mergeSort (le := fun a b : Int => decide (a ≤ b)) (fun a b c h1 h2 => by simp at *; omega) (fun a b => by simp; omega) l
  exact h.imp fun h => by simpa using h
theorem sorted_one : ∀ {l m : List Int}, l.Perm m → l.Pairwise (· ≤ ·) → m.Pairwise (· ≤ ·) → l = m
  | [], m, p, _, _ => (List.nil_perm.mp p).symm
  | x :: l, [], p, _, _ => by simp at p
  | x :: l, y :: m, p, h1, h2 => by
    rw [List.pairwise_cons] at h1 h2
    have e : x = y := by
      have hx : x ∈ y :: m := p.mem_iff.mp List.mem_cons_self
      have hy : y ∈ x :: l := p.mem_iff.mpr List.mem_cons_self
      rcases List.mem_cons.mp hx with e | hx
      · exact e
      · rcases List.mem_cons.mp hy with e | hy
        · exact e.symm
        · have := h2.1 x hx; have := h1.1 y hy; omega
    subst e
    rw [sorted_one p.cons_inv h1.2 h2.2]
theorem isort_eq {l m : List Int} (p : m.Perm l) (h : m.Pairwise (· ≤ ·)) : m = isort l := sorted_one (p.trans (isort_perm l).symm) h (isort_pw l)
def bSortI : List D → Option D
  | [.lst l] => (dInts l).map fun ns => .lst ((isort ns).map .int)
  | _ => none
theorem reps_ofI {w : Wd} : ∀ ns : List Int, Reps T w (ns.map D.int) (ns.map V.int)
  | [] => .nil
  | n :: ns => .cons (.int n) (reps_ofI ns)
theorem bo_sortI : BOk T (rSortedI T.K) bSortI := fun w S xs vs H d Q r p h k => by
  unfold bSortI at h
  split at h
  · rename_i l
    obtain ⟨v, rfl, p2⟩ := reps_one p
    cases z : dInts l with
    | none => rw [z] at h; cases h
    | some ns =>
      rw [z] at h
      cases h
      cases p2 with
      | lst q1 q2 =>
        obtain rfl := reps_ints q2 z
        refine ⟨_, ns, rfl, SqL.of (r.sub _ _ q1), fun ns' p h1 h2 hp => ?_⟩
        obtain rfl := isort_eq h1 h2
        obtain ⟨l2, r2⟩ := r.new hp (.lst _)
        exact k _ _ _ l2 r2 (.lst upd_same ((reps_ofI _).mono l2))
  · cases h
theorem bo_lenS : BOkS T (rLenH T.K) bLenA := fun w S xs vs H d Q r p h k => by
  cases p with
  | nil => cases h
  | @cons x v xs vs p1 p2 =>
    by_cases hx : ∃ n l, x = .ref n ∧ S[n]? = some (.lst l)
    · obtain ⟨n, l, rfl, hS⟩ := hx
      have hs : seeD (.ref n) S = .lst l := by unfold seeD; dsimp only; rw [hS]
      rw [List.map_cons, hs] at h
      cases p2 with
      | nil =>
        cases p1 with
        | ref hn =>
          obtain ⟨us, c1, c2⟩ := r.cell _ _ _ hS hn
          have h : some (D.int l.length) = some d := h
          cases h
          exact ⟨_, _, rfl, .inl ⟨_, SqL.of c1, rfl⟩, by rw [reps_len_eq c2]; exact k w H _ (Wd.le.refl _) r (.int _)⟩
      | cons _ _ => cases h
    · have hs : seeD x S = x := by
        unfold seeD
        split
        · rename_i n
          split
          · rename_i l hS
            exact absurd ⟨n, l, rfl, hS⟩ hx
          · rfl
        · rfl
      cases p2 with
      | nil =>
        rw [List.map_cons, hs] at h
        exact bo_lenA w S [x] [v] H d Q r (.cons p1 .nil) h k
      | cons _ _ =>
        rw [List.map_cons, List.map_cons] at h
        unfold bLenA bLen at h
        revert h
        generalize seeD x S = y
        intro h
        cases y <;> cases h
theorem hu3 {k : Nat} {A : Around} (hr : RG k A) : A.units + 3 < cLine := by
  have := hr.rm.units
  omega
/-- more turns than any while here takes -/
def FUEL : Nat := 1000000
theorem pu_v {i : Nat} : ∀ env S d S', eVar i env S = .ok d S' → S' = S := fun env S d S' h => by
  rw [u_eVar] at h
  split at h <;> cases h
  rfl
theorem pu_attr {cf : String → List String} {cs : List String} {fn : String} (hf : ∀ env S d S', f env S = .ok d S' → S' = S) : ∀ env S d S', eAttr cf cs fn f env S = .ok d S' → S' = S := fun env S d S' h => by
  obtain ⟨x, S1, h1, h2⟩ := bnd_ok_inv (show (f env S).bnd _ = .ok d S' from h)
  obtain rfl := hf _ _ _ _ h1
  exact (lift_inv h2).2
theorem pu_not (hf : ∀ env S d S', f env S = .ok d S' → S' = S) : ∀ env S d S', eNot f env S = .ok d S' → S' = S := fun env S d S' h => by
  obtain ⟨x, S1, h1, h2⟩ := bnd_ok_inv (show (f env S).bnd _ = .ok d S' from h)
  obtain rfl := hf _ _ _ _ h1
  split at h2
  · cases h2; rfl
  · cases h2
theorem pua_nil : ∀ env S d S', aNil env S = .ok d S' → S' = S := fun env S d S' h => by cases h; rfl
theorem pua_cons (hf : ∀ env S d S', f env S = .ok d S' → S' = S) (hg : ∀ env S d S', fa env S = .ok d S' → S' = S) : ∀ env S d S', aCons f fa env S = .ok d S' → S' = S := fun env S d S' h => by
  obtain ⟨x, S1, h1, h2⟩ := bnd_ok_inv (show (f env S).bnd _ = .ok d S' from h)
  obtain rfl := hf _ _ _ _ h1
  obtain ⟨y, S2, h3, h4⟩ := bnd_ok_inv h2
  obtain rfl := hg _ _ _ _ h3
  cases h4; rfl
theorem pu_tup (hf : ∀ env S d S', fa env S = .ok d S' → S' = S) : ∀ env S d S', eTup fa env S = .ok d S' → S' = S := fun env S d S' h => by
  obtain ⟨x, S1, h1, h2⟩ := bnd_ok_inv (show (fa env S).bnd _ = .ok d S' from h)
  obtain rfl := hf _ _ _ _ h1
  split at h2
  · cases h2; rfl
  · cases h2
end Ro
end
section
set_option Elab.async false
set_option linter.all false
set_option maxRecDepth 100000
set_option maxHeartbeats 4000000
namespace Ro
open PySem
section
variable {E : String → List D → Store → Prop} {env : Env} {S : Store} {a b e : EX} {f : EX} {fb : BX} {s body : ES} {q : D → Store → Prop} {qc : Ctl → Store → Prop}
theorem Ws_sortK (h : WX E (a env S) fun x S1 => WX E (sortK f x S1) q) : WX E (eSortK f a env S) q := by unfold eSortK; rw [WX_bnd]; exact h
theorem Ws_L0 {m : D → Store → R D} (h : WX E (a env S) fun x S1 => tyD x S1 = some (.b "list") ∧ WX E (m x S1) q) : WX E (eL0 m a env S) q := by
  unfold eL0
  rw [WX_bnd]
  refine h.mono fun x S1 ⟨h1, h2⟩ => ?_
  rw [if_pos h1]; exact h2
theorem Ws_L1 {m : D → D → Store → R D} (h : WX E (a env S) fun x S1 => tyD x S1 = some (.b "list") ∧ WX E (b env S1) fun y S2 => WX E (m x y S2) q) : WX E (eL1 m a b env S) q := by
  unfold eL1
  rw [WX_bnd]
  refine h.mono fun x S1 ⟨h1, h2⟩ => ?_
  rw [if_pos h1, WX_bnd]; exact h2
theorem Ws_eqV {cn : String} {m : Fn} {op : Bool → Bool} (h : WX E (a env S) fun x S1 => WX E (b env S1) fun y S2 => WX E (eqMV cn m op x y S2) q) : WX E (eEqV cn m op a b env S) q := by
  unfold eEqV
  rw [WX_bnd]
  refine h.mono fun x S1 h1 => ?_
  rw [WX_bnd]; exact h1
theorem Ws_lenV {cn : String} {m : Fn} (h : WX E (a env S) fun x S1 => WX E (lenMV cn m x S1) q) : WX E (eLenV cn m a env S) q := by unfold eLenV; rw [WX_bnd]; exact h
theorem Ws_boolO {cn : String} {m : Fn} (h : WX E (a env S) fun x S1 => WX E (boolM cn m x S1) q) : WX E (eBoolO cn m a env S) q := by unfold eBoolO; rw [WX_bnd]; exact h
theorem Ws_inA {tab : ETab} {cls : List String} {op : Bool → Bool} (h : WX E (a env S) fun x S1 => WX E (b env S1) fun y S2 => WX E (inAM tab cls op x y S2) q) : WX E (eInA tab cls op a b env S) q := by
  unfold eInA
  rw [WX_bnd]
  refine h.mono fun x S1 h1 => ?_
  rw [WX_bnd]; exact h1
theorem Ws_ixA {tab : ETab} {cls : List String} (h : WX E (a env S) fun x S1 => tyD x S1 = some (.b "list") ∧ WX E (b env S1) fun y S2 => WX E (ixAM tab cls x y S2) q) : WX E (eIxA tab cls a b env S) q := by
  unfold eIxA
  rw [WX_bnd]
  refine h.mono fun x S1 ⟨h1, h2⟩ => ?_
  rw [if_pos h1, WX_bnd]; exact h2
theorem Ws_tryN (h : WX (fun _ _ _ => False) (s env S) qc) : WX E (sTryN s env S) qc := by
  unfold sTryN
  cases z : s env S with
  | ok c S1 => rw [z, WX_ok] at h; rw [nox_ok, WX_ok]; exact h
  | err c fs S1 => rw [z, WX_err] at h; exact h.elim
  | bad => rw [z, WX_bad] at h; exact h.elim
theorem Ws_setA2 {c1 c2 : List String} {f1 f2 : String} {i j : Nat} (h : WX E (e env S) fun d S1 => ∃ x y, d = .tup [x, y] ∧ WX E (sSetAttr c1 f1 (eVar i) (eC x) env S1) fun _ S2 => WX E (sSetAttr c2 f2 (eVar j) (eC y) env S2) qc) : WX E (sSetA2 c1 f1 i c2 f2 j e env S) qc := by
  unfold sSetA2
  rw [WX_bnd]
  refine h.mono fun d S1 ⟨x, y, e1, h1⟩ => ?_
  subst e1
  dsimp only
  rw [WX_bnd]; exact h1
/-- the ends of a while's turn -/
@[irreducible] def Wp (I : Env → Store → Prop) (qc : Ctl → Store → Prop) : Ctl → Store → Prop := fun c S1 => match c with
  | .nx e => I e S1
  | .ct e => I e S1
  | .bk e => qc (.nx e) S1
  | .rt d => qc (.rt d) S1
theorem Wp.nx {I : Env → Store → Prop} {e : Env} (h : I e S) : Wp I qc (.nx e) S := by unfold Wp; exact h
theorem Wp.ct {I : Env → Store → Prop} {e : Env} (h : I e S) : Wp I qc (.ct e) S := by unfold Wp; exact h
theorem Wp.bk {I : Env → Store → Prop} {e : Env} (h : qc (.nx e) S) : Wp I qc (.bk e) S := by unfold Wp; exact h
theorem Wp.rt {I : Env → Store → Prop} {d : D} (h : qc (.rt d) S) : Wp I qc (.rt d) S := by unfold Wp; exact h
theorem Ws_while {I : Env → Store → Prop} {μ : Env → Store → Nat} (step : ∀ env S, I env S → WX E (fb env S) fun k S1 => Br k (WX E (body env S1) (Wp (fun e S2 => I e S2 ∧ μ e S2 < μ env S) qc)) (qc (.nx env) S1)) :
    ∀ {n : Nat} {env : Env} {S : Store}, I env S → μ env S < n → WX E (sWhile n fb body env S) qc
  | 0, _, _, _, h => absurd h (Nat.not_lt_zero _)
  | n + 1, env, S, hI, hm => by
    show WX E (whileM fb body (n + 1) env S) qc
    unfold whileM
    rw [WX_bnd]
    refine (step env S hI).mono fun k S1 ⟨k1, k2⟩ => ?_
    cases k with
    | true =>
      rw [if_pos rfl, WX_bnd]
      refine (k1 rfl).mono fun c S2 hc => ?_
      unfold Wp at hc
      cases c with
      | nx e => exact Ws_while step hc.1 (Nat.lt_of_lt_of_le hc.2 (Nat.le_of_lt_succ hm))
      | ct e => exact Ws_while step hc.1 (Nat.lt_of_lt_of_le hc.2 (Nat.le_of_lt_succ hm))
      | bk e => dsimp only; rw [WX_ok]; exact hc
      | rt d => dsimp only; rw [WX_ok]; exact hc
    | false =>
      rw [if_neg Bool.false_ne_true, WX_ok]
      exact k2 rfl
end
structure Kp (S : Store) (l : List Nat) (S' : Store) : Prop where
  len : S.length ≤ S'.length
  at_ : ∀ i, i < S.length → i ∉ l → S'[i]? = S[i]?
theorem Kp.refl (S : Store) (l : List Nat) : Kp S l S := ⟨Nat.le_refl _, fun _ _ _ => rfl⟩
theorem Kp.trans {S S1 S2 : Store} {l : List Nat} (a : Kp S l S1) (b : Kp S1 l S2) : Kp S l S2 := ⟨Nat.le_trans a.len b.len, fun i h k => (b.at_ i (Nat.lt_of_lt_of_le h a.len) k).trans (a.at_ i h k)⟩
theorem Kp.wide {S S1 : Store} {l m : List Nat} (a : Kp S l S1) (h : ∀ i, i < S.length → i ∈ l → i ∈ m) : Kp S m S1 := ⟨a.len, fun i k z => a.at_ i k fun y => z (h i k y)⟩
theorem Kp.app (S X : Store) (l : List Nat) : Kp S l (S ++ X) := ⟨by simp, fun i h _ => List.getElem?_append_left h⟩
theorem Kp.set {S : Store} {l : List Nat} {n : Nat} {c : Cell} (h : n ∈ l) : Kp S l (S.set n c) := ⟨by simp, fun i _ k => List.getElem?_set_ne fun e => k (by rw [← e]; exact h)⟩
theorem Kp.get {S S' : Store} {l : List Nat} (a : Kp S l S') {i : Nat} {c : Cell} (h : S[i]? = some c) (k : i ∉ l) : S'[i]? = some c := (a.at_ i (List.getElem?_eq_some_iff.mp h).1 k).trans h
theorem Kp.ext {S S' : Store} {l : List Nat} (a : Ext S S') : Kp S l S' := by
  obtain ⟨X, rfl⟩ := a
  exact Kp.app S X l
end Ro
end
local macro_rules
  | `(tactic| wtm_at "w1") => `(tactic| with_reducible first
    | refine Ro.Ws_sortK ?_
    | refine Ro.Ws_L0 ?_
    | refine Ro.Ws_L1 ?_
    | refine Ro.Ws_eqV ?_
    | refine Ro.Ws_lenV ?_
    | refine Ro.Ws_boolO ?_
    | refine Ro.Ws_inA ?_
    | refine Ro.Ws_ixA ?_
    | refine Ro.Ws_tryN ?_
    | refine Ro.Ws_setA2 ?_
    | refine Ro.Wp.rt ?_)
section
set_option Elab.async false
set_option linter.all false
set_option maxRecDepth 100000
set_option maxHeartbeats 4000000
namespace Ro
open PySem PySem.Spec PyProof.Rows L2 L2H LamX PySem.RoXb
noncomputable section
def cf : String → List String
  | "NoSpending" => ["part"]
  | "NoJourney" => ["part"]
  | "TooMany" => ["many", "most"]
  | "NoDay" => ["day"]
  | "NoHeads" => ["heads"]
  | "Spending" => ["kind", "amount", "day", "paper", "heads", "money"]
  | "Journey" => ["own_towns", "own_ends", "own_lines", "own_sums", "own_past"]
  | _ => []
def tysL : List Ty := [.b "NoneType", .b "bool", .b "int", .b "str", .b "tuple", .b "list", .b "dict", .o "Spending", .o "Journey"]
def b__law_towns : ES :=
  (sSeq (sSet 1 (eIdxB (eLst (aCons (eC (.int 1)) (aCons (eOp addD (eC (.int 1)) (eFn (callM m__law_take 2 0 2 [(0, 0), (0, 1)] []) (aCons (eVar 0) (aCons (eC (.int 4)) aNil)) aNil)) (aCons (eOp addD (eC (.int 1)) (eFn (callM m__law_take 2 0 2 [(0, 0), (0, 1)] []) (aCons (eVar 0) (aCons (eC (.int 30)) aNil)) aNil)) aNil)))) (eFn (callM m__law_take 2 0 2 [(0, 0), (0, 1)] []) (aCons (eVar 0) (aCons (eC (.int 3)) aNil)) aNil)))
  (sRet (eB bTuple (aCons (eLC [2] (itR1 (aCons (eVar 1) aNil)) (pName 2) bYes (eFn (callM m__law_take 2 0 2 [(0, 0), (0, 1)] []) (aCons (eVar 0) (aCons (eC (.int 4)) aNil)) aNil)) aNil))))
def m__law_towns : Fn := fnM 3 b__law_towns
def t__law_towns_2 : ES := (sRet (eB bTuple (aCons (eLC [2] (itR1 (aCons (eVar 1) aNil)) (pName 2) bYes (eFn (callM m__law_take 2 0 2 [(0, 0), (0, 1)] []) (aCons (eVar 0) (aCons (eC (.int 4)) aNil)) aNil)) aNil)))
instance : Tl t__law_towns_2 (sRet (eB bTuple (aCons (eLC [2] (itR1 (aCons (eVar 1) aNil)) (pName 2) bYes (eFn (callM m__law_take 2 0 2 [(0, 0), (0, 1)] []) (aCons (eVar 0) (aCons (eC (.int 4)) aNil)) aNil)) aNil))) := ⟨rfl⟩
theorem x__law_towns : b__law_towns = (sSeq (sSet 1 (eIdxB (eLst (aCons (eC (.int 1)) (aCons (eOp addD (eC (.int 1)) (eFn (callM m__law_take 2 0 2 [(0, 0), (0, 1)] []) (aCons (eVar 0) (aCons (eC (.int 4)) aNil)) aNil)) (aCons (eOp addD (eC (.int 1)) (eFn (callM m__law_take 2 0 2 [(0, 0), (0, 1)] []) (aCons (eVar 0) (aCons (eC (.int 30)) aNil)) aNil)) aNil)))) (eFn (callM m__law_take 2 0 2 [(0, 0), (0, 1)] []) (aCons (eVar 0) (aCons (eC (.int 3)) aNil)) aNil))) t__law_towns_2) := rfl
def b__law_sorts : ES :=
  (sRet (eLst (aCons (eC (.str "bed")) (aCons (eC (.str "fee")) (aCons (eC (.str "meal")) (aCons (eC (.str "ride")) (aCons (eC (.str "sundry")) aNil)))))))
def m__law_sorts : Fn := fnM 0 b__law_sorts
def b__law_row : ES :=
  (sSeq (sSet 2 (eIdxB (eFn (callM m__law_sorts 0 0 0 [] []) aNil aNil) (eOp mulD (eFn (callM m__law_take 2 0 2 [(0, 0), (0, 1)] []) (aCons (eVar 0) (aCons (eC (.int 5)) aNil)) aNil) (eFn (callM m__law_take 2 0 2 [(0, 0), (0, 1)] []) (aCons (eVar 0) (aCons (eC (.int 2)) aNil)) aNil))))
  (sSeq (sSet 3 (eIdxB (eLst (aCons (eC (.int 5)) (aCons (eC (.int 8)) (aCons (eC (.int 100)) (aCons (eOp addD (eC (.int 1)) (eFn (callM m__law_take 2 0 2 [(0, 0), (0, 1)] []) (aCons (eVar 0) (aCons (eOp powD (eC (.int 10)) (eC (.int 6))) aNil)) aNil)) aNil))))) (eFn (callM m__law_take 2 0 2 [(0, 0), (0, 1)] []) (aCons (eVar 0) (aCons (eC (.int 4)) aNil)) aNil)))
  (sSeq (sSet 4 (eIdxB (eLst (aCons (eC (.int 0)) (aCons (eFn (callM m__law_take 2 0 2 [(0, 0), (0, 1)] []) (aCons (eVar 0) (aCons (eVar 1) aNil)) aNil) (aCons (eFn (callM m__law_take 2 0 2 [(0, 0), (0, 1)] []) (aCons (eVar 0) (aCons (eVar 1) aNil)) aNil) (aCons (eFn (callM m__law_take 2 0 2 [(0, 0), (0, 1)] []) (aCons (eVar 0) (aCons (eC (.int 60)) aNil)) aNil) aNil))))) (eFn (callM m__law_take 2 0 2 [(0, 0), (0, 1)] []) (aCons (eVar 0) (aCons (eC (.int 4)) aNil)) aNil)))
  (sSeq (sPar2 5 6 (aCons (eIdxB (eLst (aCons (eC (.int 1)) (aCons (eC (.int 1)) (aCons (eC (.int 2)) (aCons (eOp addD (eC (.int 1)) (eFn (callM m__law_take 2 0 2 [(0, 0), (0, 1)] []) (aCons (eVar 0) (aCons (eC (.int 6)) aNil)) aNil)) aNil))))) (eFn (callM m__law_take 2 0 2 [(0, 0), (0, 1)] []) (aCons (eVar 0) (aCons (eC (.int 4)) aNil)) aNil)) (aCons (eIdxB (eLst (aCons (eC (.int 0)) (aCons (eC (.int 0)) (aCons (eFn (callM m__law_take 2 0 2 [(0, 0), (0, 1)] []) (aCons (eVar 0) (aCons (eC (.int 4)) aNil)) aNil) aNil)))) (eFn (callM m__law_take 2 0 2 [(0, 0), (0, 1)] []) (aCons (eVar 0) (aCons (eC (.int 3)) aNil)) aNil)) aNil)))
  (sRet (eTup (aCons (eVar 2) (aCons (eVar 3) (aCons (eVar 4) (aCons (eOp gtD (eFn (callM m__law_take 2 0 2 [(0, 0), (0, 1)] []) (aCons (eVar 0) (aCons (eC (.int 3)) aNil)) aNil) (eC (.int 0))) (aCons (eVar 5) (aCons (eVar 6) aNil))))))))))))
def m__law_row : Fn := fnM 7 b__law_row
def t__law_row_5 : ES := (sRet (eTup (aCons (eVar 2) (aCons (eVar 3) (aCons (eVar 4) (aCons (eOp gtD (eFn (callM m__law_take 2 0 2 [(0, 0), (0, 1)] []) (aCons (eVar 0) (aCons (eC (.int 3)) aNil)) aNil) (eC (.int 0))) (aCons (eVar 5) (aCons (eVar 6) aNil))))))))
instance : Tl t__law_row_5 (sRet (eTup (aCons (eVar 2) (aCons (eVar 3) (aCons (eVar 4) (aCons (eOp gtD (eFn (callM m__law_take 2 0 2 [(0, 0), (0, 1)] []) (aCons (eVar 0) (aCons (eC (.int 3)) aNil)) aNil) (eC (.int 0))) (aCons (eVar 5) (aCons (eVar 6) aNil)))))))) := ⟨rfl⟩
def t__law_row_4 : ES := (sSeq (sPar2 5 6 (aCons (eIdxB (eLst (aCons (eC (.int 1)) (aCons (eC (.int 1)) (aCons (eC (.int 2)) (aCons (eOp addD (eC (.int 1)) (eFn (callM m__law_take 2 0 2 [(0, 0), (0, 1)] []) (aCons (eVar 0) (aCons (eC (.int 6)) aNil)) aNil)) aNil))))) (eFn (callM m__law_take 2 0 2 [(0, 0), (0, 1)] []) (aCons (eVar 0) (aCons (eC (.int 4)) aNil)) aNil)) (aCons (eIdxB (eLst (aCons (eC (.int 0)) (aCons (eC (.int 0)) (aCons (eFn (callM m__law_take 2 0 2 [(0, 0), (0, 1)] []) (aCons (eVar 0) (aCons (eC (.int 4)) aNil)) aNil) aNil)))) (eFn (callM m__law_take 2 0 2 [(0, 0), (0, 1)] []) (aCons (eVar 0) (aCons (eC (.int 3)) aNil)) aNil)) aNil))) t__law_row_5)
instance : Tl t__law_row_4 (sSeq (sPar2 5 6 (aCons (eIdxB (eLst (aCons (eC (.int 1)) (aCons (eC (.int 1)) (aCons (eC (.int 2)) (aCons (eOp addD (eC (.int 1)) (eFn (callM m__law_take 2 0 2 [(0, 0), (0, 1)] []) (aCons (eVar 0) (aCons (eC (.int 6)) aNil)) aNil)) aNil))))) (eFn (callM m__law_take 2 0 2 [(0, 0), (0, 1)] []) (aCons (eVar 0) (aCons (eC (.int 4)) aNil)) aNil)) (aCons (eIdxB (eLst (aCons (eC (.int 0)) (aCons (eC (.int 0)) (aCons (eFn (callM m__law_take 2 0 2 [(0, 0), (0, 1)] []) (aCons (eVar 0) (aCons (eC (.int 4)) aNil)) aNil) aNil)))) (eFn (callM m__law_take 2 0 2 [(0, 0), (0, 1)] []) (aCons (eVar 0) (aCons (eC (.int 3)) aNil)) aNil)) aNil))) t__law_row_5) := ⟨rfl⟩
def t__law_row_3 : ES := (sSeq (sSet 4 (eIdxB (eLst (aCons (eC (.int 0)) (aCons (eFn (callM m__law_take 2 0 2 [(0, 0), (0, 1)] []) (aCons (eVar 0) (aCons (eVar 1) aNil)) aNil) (aCons (eFn (callM m__law_take 2 0 2 [(0, 0), (0, 1)] []) (aCons (eVar 0) (aCons (eVar 1) aNil)) aNil) (aCons (eFn (callM m__law_take 2 0 2 [(0, 0), (0, 1)] []) (aCons (eVar 0) (aCons (eC (.int 60)) aNil)) aNil) aNil))))) (eFn (callM m__law_take 2 0 2 [(0, 0), (0, 1)] []) (aCons (eVar 0) (aCons (eC (.int 4)) aNil)) aNil))) t__law_row_4)
instance : Tl t__law_row_3 (sSeq (sSet 4 (eIdxB (eLst (aCons (eC (.int 0)) (aCons (eFn (callM m__law_take 2 0 2 [(0, 0), (0, 1)] []) (aCons (eVar 0) (aCons (eVar 1) aNil)) aNil) (aCons (eFn (callM m__law_take 2 0 2 [(0, 0), (0, 1)] []) (aCons (eVar 0) (aCons (eVar 1) aNil)) aNil) (aCons (eFn (callM m__law_take 2 0 2 [(0, 0), (0, 1)] []) (aCons (eVar 0) (aCons (eC (.int 60)) aNil)) aNil) aNil))))) (eFn (callM m__law_take 2 0 2 [(0, 0), (0, 1)] []) (aCons (eVar 0) (aCons (eC (.int 4)) aNil)) aNil))) t__law_row_4) := ⟨rfl⟩
def t__law_row_2 : ES := (sSeq (sSet 3 (eIdxB (eLst (aCons (eC (.int 5)) (aCons (eC (.int 8)) (aCons (eC (.int 100)) (aCons (eOp addD (eC (.int 1)) (eFn (callM m__law_take 2 0 2 [(0, 0), (0, 1)] []) (aCons (eVar 0) (aCons (eOp powD (eC (.int 10)) (eC (.int 6))) aNil)) aNil)) aNil))))) (eFn (callM m__law_take 2 0 2 [(0, 0), (0, 1)] []) (aCons (eVar 0) (aCons (eC (.int 4)) aNil)) aNil))) t__law_row_3)
instance : Tl t__law_row_2 (sSeq (sSet 3 (eIdxB (eLst (aCons (eC (.int 5)) (aCons (eC (.int 8)) (aCons (eC (.int 100)) (aCons (eOp addD (eC (.int 1)) (eFn (callM m__law_take 2 0 2 [(0, 0), (0, 1)] []) (aCons (eVar 0) (aCons (eOp powD (eC (.int 10)) (eC (.int 6))) aNil)) aNil)) aNil))))) (eFn (callM m__law_take 2 0 2 [(0, 0), (0, 1)] []) (aCons (eVar 0) (aCons (eC (.int 4)) aNil)) aNil))) t__law_row_3) := ⟨rfl⟩
theorem x__law_row : b__law_row = (sSeq (sSet 2 (eIdxB (eFn (callM m__law_sorts 0 0 0 [] []) aNil aNil) (eOp mulD (eFn (callM m__law_take 2 0 2 [(0, 0), (0, 1)] []) (aCons (eVar 0) (aCons (eC (.int 5)) aNil)) aNil) (eFn (callM m__law_take 2 0 2 [(0, 0), (0, 1)] []) (aCons (eVar 0) (aCons (eC (.int 2)) aNil)) aNil)))) t__law_row_2) := rfl
def b_is_whole : ES :=
  (sRet (eAnd (eIsI tysL (.b "int") (eVar 0)) (eAnd (eNot (eIsI tysL (.b "bool") (eVar 0))) (eChain leD leD (eVar 1) (eVar 0) (eVar 2)))))
def m_is_whole : Fn := fnM 3 b_is_whole
def b_are_towns : ES :=
  (sSeq (sIf (bOr (bNot (bVal (eIsI tysL (.b "tuple") (eVar 0)))) (bNot (bVal (eChain leD leD (eC (.int 1)) (eB bLenA (aCons (eVar 0) aNil)) (eC (.int 30)))))) (sRet (eC (.bl false))) sPass)
  (sRet (eB bAll (aCons (eLC [1] (itAny (eVar 0)) (pName 1) bYes (eFn (callM m_is_whole 3 0 3 [(0, 0), (0, 1), (0, 2)] []) (aCons (eVar 1) (aCons (eC (.int 0)) (aCons (eC (.int 3)) aNil))) aNil)) aNil))))
def m_are_towns : Fn := fnM 2 b_are_towns
def t_are_towns_3 : ES := (sRet (eB bAll (aCons (eLC [1] (itAny (eVar 0)) (pName 1) bYes (eFn (callM m_is_whole 3 0 3 [(0, 0), (0, 1), (0, 2)] []) (aCons (eVar 1) (aCons (eC (.int 0)) (aCons (eC (.int 3)) aNil))) aNil)) aNil)))
instance : Tl t_are_towns_3 (sRet (eB bAll (aCons (eLC [1] (itAny (eVar 0)) (pName 1) bYes (eFn (callM m_is_whole 3 0 3 [(0, 0), (0, 1), (0, 2)] []) (aCons (eVar 1) (aCons (eC (.int 0)) (aCons (eC (.int 3)) aNil))) aNil)) aNil))) := ⟨rfl⟩
def b_Journey_init : ES :=
  (sSeq (sIf (bNot (bVal (eFn (callM m_are_towns 1 0 1 [(0, 0)] []) (aCons (eVar 1) aNil) aNil))) (sRaise "NoJourney" (aChk 1 (aCons (eC (.str "towns")) aNil))) sPass)
  (sSeq (sIf (bNot (bVal (eFn (callM m_is_whole 3 0 3 [(0, 0), (0, 1), (0, 2)] []) (aCons (eVar 2) (aCons (eC (.int 0)) (aCons (eC (.int 10)) aNil))) aNil))) (sRaise "NoJourney" (aChk 1 (aCons (eC (.str "begun")) aNil))) sPass)
  (sSeq (sIf (bNot (bVal (eFn (callM m_is_whole 3 0 3 [(0, 0), (0, 1), (0, 2)] []) (aCons (eVar 3) (aCons (eC (.int 0)) (aCons (eC (.int 10)) aNil))) aNil))) (sRaise "NoJourney" (aChk 1 (aCons (eC (.str "ended")) aNil))) sPass)
  (sSeq (sSetAttr ["Journey"] "own_towns" (eVar 0) (eVar 1))
  (sSeq (sSetAttr ["Journey"] "own_ends" (eVar 0) (eTup (aCons (eVar 2) (aCons (eVar 3) aNil))))
  (sSeq (sSetAttr ["Journey"] "own_lines" (eVar 0) (eLst aNil))
  (sSeq (sSetAttr ["Journey"] "own_sums" (eVar 0) (eLst aNil))
  (sSetAttr ["Journey"] "own_past" (eVar 0) (eLstM aNil)))))))))
def m_Journey_init : Fn := fnM 4 b_Journey_init
def t_Journey_init_11 : ES := (sSetAttr ["Journey"] "own_past" (eVar 0) (eLstM aNil))
instance : Tl t_Journey_init_11 (sSetAttr ["Journey"] "own_past" (eVar 0) (eLstM aNil)) := ⟨rfl⟩
def t_Journey_init_10 : ES := (sSeq (sSetAttr ["Journey"] "own_sums" (eVar 0) (eLst aNil)) t_Journey_init_11)
instance : Tl t_Journey_init_10 (sSeq (sSetAttr ["Journey"] "own_sums" (eVar 0) (eLst aNil)) t_Journey_init_11) := ⟨rfl⟩
def t_Journey_init_9 : ES := (sSeq (sSetAttr ["Journey"] "own_lines" (eVar 0) (eLst aNil)) t_Journey_init_10)
instance : Tl t_Journey_init_9 (sSeq (sSetAttr ["Journey"] "own_lines" (eVar 0) (eLst aNil)) t_Journey_init_10) := ⟨rfl⟩
def t_Journey_init_8 : ES := (sSeq (sSetAttr ["Journey"] "own_ends" (eVar 0) (eTup (aCons (eVar 2) (aCons (eVar 3) aNil)))) t_Journey_init_9)
instance : Tl t_Journey_init_8 (sSeq (sSetAttr ["Journey"] "own_ends" (eVar 0) (eTup (aCons (eVar 2) (aCons (eVar 3) aNil)))) t_Journey_init_9) := ⟨rfl⟩
def t_Journey_init_7 : ES := (sSeq (sSetAttr ["Journey"] "own_towns" (eVar 0) (eVar 1)) t_Journey_init_8)
instance : Tl t_Journey_init_7 (sSeq (sSetAttr ["Journey"] "own_towns" (eVar 0) (eVar 1)) t_Journey_init_8) := ⟨rfl⟩
def t_Journey_init_5 : ES := (sSeq (sIf (bNot (bVal (eFn (callM m_is_whole 3 0 3 [(0, 0), (0, 1), (0, 2)] []) (aCons (eVar 3) (aCons (eC (.int 0)) (aCons (eC (.int 10)) aNil))) aNil))) (sRaise "NoJourney" (aChk 1 (aCons (eC (.str "ended")) aNil))) sPass) t_Journey_init_7)
instance : Tl t_Journey_init_5 (sSeq (sIf (bNot (bVal (eFn (callM m_is_whole 3 0 3 [(0, 0), (0, 1), (0, 2)] []) (aCons (eVar 3) (aCons (eC (.int 0)) (aCons (eC (.int 10)) aNil))) aNil))) (sRaise "NoJourney" (aChk 1 (aCons (eC (.str "ended")) aNil))) sPass) t_Journey_init_7) := ⟨rfl⟩
def t_Journey_init_3 : ES := (sSeq (sIf (bNot (bVal (eFn (callM m_is_whole 3 0 3 [(0, 0), (0, 1), (0, 2)] []) (aCons (eVar 2) (aCons (eC (.int 0)) (aCons (eC (.int 10)) aNil))) aNil))) (sRaise "NoJourney" (aChk 1 (aCons (eC (.str "begun")) aNil))) sPass) t_Journey_init_5)
instance : Tl t_Journey_init_3 (sSeq (sIf (bNot (bVal (eFn (callM m_is_whole 3 0 3 [(0, 0), (0, 1), (0, 2)] []) (aCons (eVar 2) (aCons (eC (.int 0)) (aCons (eC (.int 10)) aNil))) aNil))) (sRaise "NoJourney" (aChk 1 (aCons (eC (.str "begun")) aNil))) sPass) t_Journey_init_5) := ⟨rfl⟩
theorem x_Journey_init : b_Journey_init = (sSeq (sIf (bNot (bVal (eFn (callM m_are_towns 1 0 1 [(0, 0)] []) (aCons (eVar 1) aNil) aNil))) (sRaise "NoJourney" (aChk 1 (aCons (eC (.str "towns")) aNil))) sPass) t_Journey_init_3) := rfl
def b__law_mixed : ES :=
  (sSeq (sPar2 2 3 (aCons (eListM (aCons (eVar 1) aNil)) (aCons (eLstM aNil) aNil)))
  (sSeq (sWhile FUEL (bVal (eOpS neD (eVar 2) (eLst aNil))) (sExpr (eApp (eVar 3) (eL1 popAtM (eVar 2) (eFn (callM m__law_take 2 0 2 [(0, 0), (0, 1)] []) (aCons (eVar 0) (aCons (eBS bLenA (aCons (eVar 2) aNil)) aNil)) aNil)))))
  (sRet (eFrzL (eVar 3)))))
def m__law_mixed : Fn := fnM 4 b__law_mixed
def t__law_mixed_3 : ES := (sExpr (eApp (eVar 3) (eL1 popAtM (eVar 2) (eFn (callM m__law_take 2 0 2 [(0, 0), (0, 1)] []) (aCons (eVar 0) (aCons (eBS bLenA (aCons (eVar 2) aNil)) aNil)) aNil))))
instance : Tl t__law_mixed_3 (sExpr (eApp (eVar 3) (eL1 popAtM (eVar 2) (eFn (callM m__law_take 2 0 2 [(0, 0), (0, 1)] []) (aCons (eVar 0) (aCons (eBS bLenA (aCons (eVar 2) aNil)) aNil)) aNil)))) := ⟨rfl⟩
def t__law_mixed_4 : ES := (sRet (eFrzL (eVar 3)))
instance : Tl t__law_mixed_4 (sRet (eFrzL (eVar 3))) := ⟨rfl⟩
def t__law_mixed_2 : ES := (sSeq (sWhile FUEL (bVal (eOpS neD (eVar 2) (eLst aNil))) t__law_mixed_3) t__law_mixed_4)
instance : Tl t__law_mixed_2 (sSeq (sWhile FUEL (bVal (eOpS neD (eVar 2) (eLst aNil))) t__law_mixed_3) t__law_mixed_4) := ⟨rfl⟩
theorem x__law_mixed : b__law_mixed = (sSeq (sPar2 2 3 (aCons (eListM (aCons (eVar 1) aNil)) (aCons (eLstM aNil) aNil))) t__law_mixed_2) := rfl
def b_Journey_town_on : ES :=
  (sSeq (sIf (bNot (bVal (eFn (callM m_is_whole 3 0 3 [(0, 0), (0, 1), (0, 2)] []) (aCons (eVar 1) (aCons (eC (.int 0)) (aCons (eOp subD (eB bLenA (aCons (eAttr cf ["Journey"] "own_towns" (eVar 0)) aNil)) (eC (.int 1))) aNil))) aNil))) (sRaise "NoDay" (aChk 1 (aCons (eVar 1) aNil))) sPass)
  (sRet (eIdxB (eAttr cf ["Journey"] "own_towns" (eVar 0)) (eVar 1))))
def m_Journey_town_on : Fn := fnM 2 b_Journey_town_on
def t_Journey_town_on_3 : ES := (sRet (eIdxB (eAttr cf ["Journey"] "own_towns" (eVar 0)) (eVar 1)))
instance : Tl t_Journey_town_on_3 (sRet (eIdxB (eAttr cf ["Journey"] "own_towns" (eVar 0)) (eVar 1))) := ⟨rfl⟩
theorem x_Journey_town_on : b_Journey_town_on = (sSeq (sIf (bNot (bVal (eFn (callM m_is_whole 3 0 3 [(0, 0), (0, 1), (0, 2)] []) (aCons (eVar 1) (aCons (eC (.int 0)) (aCons (eOp subD (eB bLenA (aCons (eAttr cf ["Journey"] "own_towns" (eVar 0)) aNil)) (eC (.int 1))) aNil))) aNil))) (sRaise "NoDay" (aChk 1 (aCons (eVar 1) aNil))) sPass) t_Journey_town_on_3) := rfl
def q_order_of : EX := (eTup (aCons (eAttr cf ["Spending"] "day" (eVar 0)) (aCons (eAttr cf ["Spending"] "kind" (eVar 0)) (aCons (eAttr cf ["Spending"] "amount" (eVar 0)) (aCons (eAttr cf ["Spending"] "money" (eVar 0)) (aCons (eAttr cf ["Spending"] "heads" (eVar 0)) (aCons (eNot (eAttr cf ["Spending"] "paper" (eVar 0))) aNil)))))))
def b_Journey_become : ES :=
  (sSeq (sExpr (eApp (eAttr cf ["Journey"] "own_past" (eVar 0)) (eTup (aCons (eAttr cf ["Journey"] "own_lines" (eVar 0)) (aCons (eAttr cf ["Journey"] "own_sums" (eVar 0)) aNil)))))
  (sSeq (sSetAttr ["Journey"] "own_lines" (eVar 0) (eSortK q_order_of (eVar 1)))
  (sSetAttr ["Journey"] "own_sums" (eVar 0) (eB bSortI (aCons (eVar 2) aNil)))))
def m_Journey_become : Fn := fnM 3 b_Journey_become
def t_Journey_become_3 : ES := (sSetAttr ["Journey"] "own_sums" (eVar 0) (eB bSortI (aCons (eVar 2) aNil)))
instance : Tl t_Journey_become_3 (sSetAttr ["Journey"] "own_sums" (eVar 0) (eB bSortI (aCons (eVar 2) aNil))) := ⟨rfl⟩
def t_Journey_become_2 : ES := (sSeq (sSetAttr ["Journey"] "own_lines" (eVar 0) (eSortK q_order_of (eVar 1))) t_Journey_become_3)
instance : Tl t_Journey_become_2 (sSeq (sSetAttr ["Journey"] "own_lines" (eVar 0) (eSortK q_order_of (eVar 1))) t_Journey_become_3) := ⟨rfl⟩
theorem x_Journey_become : b_Journey_become = (sSeq (sExpr (eApp (eAttr cf ["Journey"] "own_past" (eVar 0)) (eTup (aCons (eAttr cf ["Journey"] "own_lines" (eVar 0)) (aCons (eAttr cf ["Journey"] "own_sums" (eVar 0)) aNil))))) t_Journey_become_2) := rfl
def b_Journey_spend : ES :=
  (sSeq (sExpr (eMeth cf "Journey" "town_on" (callM m_Journey_town_on 2 0 2 [(0, 0), (0, 1)] []) (eVar 0) (aCons (eAttr cf ["Spending"] "day" (eVar 1)) aNil) aNil))
  (sSeq (sIf (bVal (eOp eqD (eB bLenA (aCons (eAttr cf ["Journey"] "own_lines" (eVar 0)) aNil)) (eC (.int 40)))) (sRaise "TooMany" (aChk 2 (aCons (eOp addD (eC (.int 40)) (eC (.int 1))) (aCons (eC (.int 40)) aNil)))) sPass)
  (sExpr (eMeth cf "Journey" "become" (callM m_Journey_become 3 0 3 [(0, 0), (0, 1), (0, 2)] []) (eVar 0) (aCons (eOp addD (eAttr cf ["Journey"] "own_lines" (eVar 0)) (eLst (aCons (eVar 1) aNil))) (aCons (eAttr cf ["Journey"] "own_sums" (eVar 0)) aNil)) aNil))))
def m_Journey_spend : Fn := fnM 2 b_Journey_spend
def t_Journey_spend_4 : ES := (sExpr (eMeth cf "Journey" "become" (callM m_Journey_become 3 0 3 [(0, 0), (0, 1), (0, 2)] []) (eVar 0) (aCons (eOp addD (eAttr cf ["Journey"] "own_lines" (eVar 0)) (eLst (aCons (eVar 1) aNil))) (aCons (eAttr cf ["Journey"] "own_sums" (eVar 0)) aNil)) aNil))
instance : Tl t_Journey_spend_4 (sExpr (eMeth cf "Journey" "become" (callM m_Journey_become 3 0 3 [(0, 0), (0, 1), (0, 2)] []) (eVar 0) (aCons (eOp addD (eAttr cf ["Journey"] "own_lines" (eVar 0)) (eLst (aCons (eVar 1) aNil))) (aCons (eAttr cf ["Journey"] "own_sums" (eVar 0)) aNil)) aNil)) := ⟨rfl⟩
def t_Journey_spend_2 : ES := (sSeq (sIf (bVal (eOp eqD (eB bLenA (aCons (eAttr cf ["Journey"] "own_lines" (eVar 0)) aNil)) (eC (.int 40)))) (sRaise "TooMany" (aChk 2 (aCons (eOp addD (eC (.int 40)) (eC (.int 1))) (aCons (eC (.int 40)) aNil)))) sPass) t_Journey_spend_4)
instance : Tl t_Journey_spend_2 (sSeq (sIf (bVal (eOp eqD (eB bLenA (aCons (eAttr cf ["Journey"] "own_lines" (eVar 0)) aNil)) (eC (.int 40)))) (sRaise "TooMany" (aChk 2 (aCons (eOp addD (eC (.int 40)) (eC (.int 1))) (aCons (eC (.int 40)) aNil)))) sPass) t_Journey_spend_4) := ⟨rfl⟩
theorem x_Journey_spend : b_Journey_spend = (sSeq (sExpr (eMeth cf "Journey" "town_on" (callM m_Journey_town_on 2 0 2 [(0, 0), (0, 1)] []) (eVar 0) (aCons (eAttr cf ["Spending"] "day" (eVar 1)) aNil) aNil)) t_Journey_spend_2) := rfl
def b_is_kind : ES :=
  (sRet (eAnd (eIsI tysL (.b "str") (eVar 0)) (eOp inD (eVar 0) (eC (.tup [.str "bed", .str "fee", .str "meal", .str "ride", .str "sundry"])))))
def m_is_kind : Fn := fnM 1 b_is_kind
def b_Spending_init : ES :=
  (sSeq (sIf (bNot (bVal (eFn (callM m_is_kind 1 0 1 [(0, 0)] []) (aCons (eVar 1) aNil) aNil))) (sRaise "NoSpending" (aChk 1 (aCons (eC (.str "kind")) aNil))) sPass)
  (sSeq (sIf (bNot (bVal (eFn (callM m_is_whole 3 0 3 [(0, 0), (0, 1), (0, 2)] []) (aCons (eVar 2) (aCons (eC (.int 1)) (aCons (eC (.int 1000000)) aNil))) aNil))) (sRaise "NoSpending" (aChk 1 (aCons (eC (.str "amount")) aNil))) sPass)
  (sSeq (sIf (bNot (bVal (eFn (callM m_is_whole 3 0 3 [(0, 0), (0, 1), (0, 2)] []) (aCons (eVar 3) (aCons (eC (.int 0)) (aCons (eC (.int 59)) aNil))) aNil))) (sRaise "NoSpending" (aChk 1 (aCons (eC (.str "day")) aNil))) sPass)
  (sSeq (sIf (bNot (bVal (eIsI tysL (.b "bool") (eVar 4)))) (sRaise "NoSpending" (aChk 1 (aCons (eC (.str "paper")) aNil))) sPass)
  (sSeq (sIf (bVal (eFn (callM m_is_whole 3 0 3 [(0, 0), (0, 1), (0, 2)] []) (aCons (eVar 5) (aCons (eC (.int 0)) (aCons (eC (.int 0)) aNil))) aNil)) (sRaise "NoHeads" (aChk 1 (aCons (eVar 5) aNil))) sPass)
  (sSeq (sIf (bNot (bVal (eFn (callM m_is_whole 3 0 3 [(0, 0), (0, 1), (0, 2)] []) (aCons (eVar 5) (aCons (eC (.int 1)) (aCons (eC (.int 6)) aNil))) aNil))) (sRaise "NoSpending" (aChk 1 (aCons (eC (.str "heads")) aNil))) sPass)
  (sSeq (sIf (bNot (bVal (eFn (callM m_is_whole 3 0 3 [(0, 0), (0, 1), (0, 2)] []) (aCons (eVar 6) (aCons (eC (.int 0)) (aCons (eC (.int 3)) aNil))) aNil))) (sRaise "NoSpending" (aChk 1 (aCons (eC (.str "money")) aNil))) sPass)
  (sSeq (sSetAttr ["Spending"] "kind" (eVar 0) (eVar 1))
  (sSeq (sSetAttr ["Spending"] "amount" (eVar 0) (eVar 2))
  (sSeq (sSetAttr ["Spending"] "day" (eVar 0) (eVar 3))
  (sSeq (sSetAttr ["Spending"] "paper" (eVar 0) (eVar 4))
  (sSeq (sSetAttr ["Spending"] "heads" (eVar 0) (eVar 5))
  (sSetAttr ["Spending"] "money" (eVar 0) (eVar 6))))))))))))))
def m_Spending_init : Fn := fnM 7 b_Spending_init
def t_Spending_init_20 : ES := (sSetAttr ["Spending"] "money" (eVar 0) (eVar 6))
instance : Tl t_Spending_init_20 (sSetAttr ["Spending"] "money" (eVar 0) (eVar 6)) := ⟨rfl⟩
def t_Spending_init_19 : ES := (sSeq (sSetAttr ["Spending"] "heads" (eVar 0) (eVar 5)) t_Spending_init_20)
instance : Tl t_Spending_init_19 (sSeq (sSetAttr ["Spending"] "heads" (eVar 0) (eVar 5)) t_Spending_init_20) := ⟨rfl⟩
def t_Spending_init_18 : ES := (sSeq (sSetAttr ["Spending"] "paper" (eVar 0) (eVar 4)) t_Spending_init_19)
instance : Tl t_Spending_init_18 (sSeq (sSetAttr ["Spending"] "paper" (eVar 0) (eVar 4)) t_Spending_init_19) := ⟨rfl⟩
def t_Spending_init_17 : ES := (sSeq (sSetAttr ["Spending"] "day" (eVar 0) (eVar 3)) t_Spending_init_18)
instance : Tl t_Spending_init_17 (sSeq (sSetAttr ["Spending"] "day" (eVar 0) (eVar 3)) t_Spending_init_18) := ⟨rfl⟩
def t_Spending_init_16 : ES := (sSeq (sSetAttr ["Spending"] "amount" (eVar 0) (eVar 2)) t_Spending_init_17)
instance : Tl t_Spending_init_16 (sSeq (sSetAttr ["Spending"] "amount" (eVar 0) (eVar 2)) t_Spending_init_17) := ⟨rfl⟩
def t_Spending_init_15 : ES := (sSeq (sSetAttr ["Spending"] "kind" (eVar 0) (eVar 1)) t_Spending_init_16)
instance : Tl t_Spending_init_15 (sSeq (sSetAttr ["Spending"] "kind" (eVar 0) (eVar 1)) t_Spending_init_16) := ⟨rfl⟩
def t_Spending_init_13 : ES := (sSeq (sIf (bNot (bVal (eFn (callM m_is_whole 3 0 3 [(0, 0), (0, 1), (0, 2)] []) (aCons (eVar 6) (aCons (eC (.int 0)) (aCons (eC (.int 3)) aNil))) aNil))) (sRaise "NoSpending" (aChk 1 (aCons (eC (.str "money")) aNil))) sPass) t_Spending_init_15)
instance : Tl t_Spending_init_13 (sSeq (sIf (bNot (bVal (eFn (callM m_is_whole 3 0 3 [(0, 0), (0, 1), (0, 2)] []) (aCons (eVar 6) (aCons (eC (.int 0)) (aCons (eC (.int 3)) aNil))) aNil))) (sRaise "NoSpending" (aChk 1 (aCons (eC (.str "money")) aNil))) sPass) t_Spending_init_15) := ⟨rfl⟩
def t_Spending_init_11 : ES := (sSeq (sIf (bNot (bVal (eFn (callM m_is_whole 3 0 3 [(0, 0), (0, 1), (0, 2)] []) (aCons (eVar 5) (aCons (eC (.int 1)) (aCons (eC (.int 6)) aNil))) aNil))) (sRaise "NoSpending" (aChk 1 (aCons (eC (.str "heads")) aNil))) sPass) t_Spending_init_13)
instance : Tl t_Spending_init_11 (sSeq (sIf (bNot (bVal (eFn (callM m_is_whole 3 0 3 [(0, 0), (0, 1), (0, 2)] []) (aCons (eVar 5) (aCons (eC (.int 1)) (aCons (eC (.int 6)) aNil))) aNil))) (sRaise "NoSpending" (aChk 1 (aCons (eC (.str "heads")) aNil))) sPass) t_Spending_init_13) := ⟨rfl⟩
def t_Spending_init_9 : ES := (sSeq (sIf (bVal (eFn (callM m_is_whole 3 0 3 [(0, 0), (0, 1), (0, 2)] []) (aCons (eVar 5) (aCons (eC (.int 0)) (aCons (eC (.int 0)) aNil))) aNil)) (sRaise "NoHeads" (aChk 1 (aCons (eVar 5) aNil))) sPass) t_Spending_init_11)
instance : Tl t_Spending_init_9 (sSeq (sIf (bVal (eFn (callM m_is_whole 3 0 3 [(0, 0), (0, 1), (0, 2)] []) (aCons (eVar 5) (aCons (eC (.int 0)) (aCons (eC (.int 0)) aNil))) aNil)) (sRaise "NoHeads" (aChk 1 (aCons (eVar 5) aNil))) sPass) t_Spending_init_11) := ⟨rfl⟩
def t_Spending_init_7 : ES := (sSeq (sIf (bNot (bVal (eIsI tysL (.b "bool") (eVar 4)))) (sRaise "NoSpending" (aChk 1 (aCons (eC (.str "paper")) aNil))) sPass) t_Spending_init_9)
instance : Tl t_Spending_init_7 (sSeq (sIf (bNot (bVal (eIsI tysL (.b "bool") (eVar 4)))) (sRaise "NoSpending" (aChk 1 (aCons (eC (.str "paper")) aNil))) sPass) t_Spending_init_9) := ⟨rfl⟩
def t_Spending_init_5 : ES := (sSeq (sIf (bNot (bVal (eFn (callM m_is_whole 3 0 3 [(0, 0), (0, 1), (0, 2)] []) (aCons (eVar 3) (aCons (eC (.int 0)) (aCons (eC (.int 59)) aNil))) aNil))) (sRaise "NoSpending" (aChk 1 (aCons (eC (.str "day")) aNil))) sPass) t_Spending_init_7)
instance : Tl t_Spending_init_5 (sSeq (sIf (bNot (bVal (eFn (callM m_is_whole 3 0 3 [(0, 0), (0, 1), (0, 2)] []) (aCons (eVar 3) (aCons (eC (.int 0)) (aCons (eC (.int 59)) aNil))) aNil))) (sRaise "NoSpending" (aChk 1 (aCons (eC (.str "day")) aNil))) sPass) t_Spending_init_7) := ⟨rfl⟩
def t_Spending_init_3 : ES := (sSeq (sIf (bNot (bVal (eFn (callM m_is_whole 3 0 3 [(0, 0), (0, 1), (0, 2)] []) (aCons (eVar 2) (aCons (eC (.int 1)) (aCons (eC (.int 1000000)) aNil))) aNil))) (sRaise "NoSpending" (aChk 1 (aCons (eC (.str "amount")) aNil))) sPass) t_Spending_init_5)
instance : Tl t_Spending_init_3 (sSeq (sIf (bNot (bVal (eFn (callM m_is_whole 3 0 3 [(0, 0), (0, 1), (0, 2)] []) (aCons (eVar 2) (aCons (eC (.int 1)) (aCons (eC (.int 1000000)) aNil))) aNil))) (sRaise "NoSpending" (aChk 1 (aCons (eC (.str "amount")) aNil))) sPass) t_Spending_init_5) := ⟨rfl⟩
def b_Spending_all_parts : ES :=
  (sRet (eTup (aCons (eAttr cf ["Spending"] "kind" (eVar 0)) (aCons (eAttr cf ["Spending"] "amount" (eVar 0)) (aCons (eAttr cf ["Spending"] "day" (eVar 0)) (aCons (eAttr cf ["Spending"] "paper" (eVar 0)) (aCons (eAttr cf ["Spending"] "heads" (eVar 0)) (aCons (eAttr cf ["Spending"] "money" (eVar 0)) aNil))))))))
def m_Spending_all_parts : Fn := fnM 1 b_Spending_all_parts
def b_Spending_eq : ES :=
  (sRet (eAnd (eIsI tysL (.o "Spending") (eVar 1)) (eOp eqD (eMeth cf "Spending" "all_parts" (callM m_Spending_all_parts 1 0 1 [(0, 0)] []) (eVar 0) aNil aNil) (eMeth cf "Spending" "all_parts" (callM m_Spending_all_parts 1 0 1 [(0, 0)] []) (eVar 1) aNil aNil))))
def m_Spending_eq : Fn := fnM 2 b_Spending_eq
def cls_0 : List String := ["Spending"]
def tab_0 : ETab := fun c => if c = "Spending" then some m_Spending_eq else none
def b_Journey_undo : ES :=
  (sSeq (sIf (bVal (eEqA tab_0 cls_0 id (eAttr cf ["Journey"] "own_past" (eVar 0)) (eLst aNil))) (sRaise "Nothing" aNil) sPass)
  (sSetA2 ["Journey"] "own_lines" 0 ["Journey"] "own_sums" 0 (eL0 popM (eAttr cf ["Journey"] "own_past" (eVar 0)))))
def m_Journey_undo : Fn := fnM 1 b_Journey_undo
def t_Journey_undo_3 : ES := (sSetA2 ["Journey"] "own_lines" 0 ["Journey"] "own_sums" 0 (eL0 popM (eAttr cf ["Journey"] "own_past" (eVar 0))))
instance : Tl t_Journey_undo_3 (sSetA2 ["Journey"] "own_lines" 0 ["Journey"] "own_sums" 0 (eL0 popM (eAttr cf ["Journey"] "own_past" (eVar 0)))) := ⟨rfl⟩
theorem x_Journey_undo : b_Journey_undo = (sSeq (sIf (bVal (eEqA tab_0 cls_0 id (eAttr cf ["Journey"] "own_past" (eVar 0)) (eLst aNil))) (sRaise "Nothing" aNil) sPass) t_Journey_undo_3) := rfl
def b_Journey_strike : ES :=
  (sSeq (sIf (bVal (eInA tab_0 cls_0 not (eVar 1) (eAttr cf ["Journey"] "own_lines" (eVar 0)))) (sRaise "Absent" aNil) sPass)
  (sSeq (sSet 2 (eIxA tab_0 cls_0 (eAttr cf ["Journey"] "own_lines" (eVar 0)) (eVar 1)))
  (sExpr (eMeth cf "Journey" "become" (callM m_Journey_become 3 0 3 [(0, 0), (0, 1), (0, 2)] []) (eVar 0) (aCons (eOp addD (eCut (eAttr cf ["Journey"] "own_lines" (eVar 0)) oNone (oSome (eVar 2))) (eCut (eAttr cf ["Journey"] "own_lines" (eVar 0)) (oSome (eOp addD (eVar 2) (eC (.int 1)))) oNone)) (aCons (eAttr cf ["Journey"] "own_sums" (eVar 0)) aNil)) aNil))))
def m_Journey_strike : Fn := fnM 3 b_Journey_strike
def t_Journey_strike_4 : ES := (sExpr (eMeth cf "Journey" "become" (callM m_Journey_become 3 0 3 [(0, 0), (0, 1), (0, 2)] []) (eVar 0) (aCons (eOp addD (eCut (eAttr cf ["Journey"] "own_lines" (eVar 0)) oNone (oSome (eVar 2))) (eCut (eAttr cf ["Journey"] "own_lines" (eVar 0)) (oSome (eOp addD (eVar 2) (eC (.int 1)))) oNone)) (aCons (eAttr cf ["Journey"] "own_sums" (eVar 0)) aNil)) aNil))
instance : Tl t_Journey_strike_4 (sExpr (eMeth cf "Journey" "become" (callM m_Journey_become 3 0 3 [(0, 0), (0, 1), (0, 2)] []) (eVar 0) (aCons (eOp addD (eCut (eAttr cf ["Journey"] "own_lines" (eVar 0)) oNone (oSome (eVar 2))) (eCut (eAttr cf ["Journey"] "own_lines" (eVar 0)) (oSome (eOp addD (eVar 2) (eC (.int 1)))) oNone)) (aCons (eAttr cf ["Journey"] "own_sums" (eVar 0)) aNil)) aNil)) := ⟨rfl⟩
def t_Journey_strike_3 : ES := (sSeq (sSet 2 (eIxA tab_0 cls_0 (eAttr cf ["Journey"] "own_lines" (eVar 0)) (eVar 1))) t_Journey_strike_4)
instance : Tl t_Journey_strike_3 (sSeq (sSet 2 (eIxA tab_0 cls_0 (eAttr cf ["Journey"] "own_lines" (eVar 0)) (eVar 1))) t_Journey_strike_4) := ⟨rfl⟩
theorem x_Journey_strike : b_Journey_strike = (sSeq (sIf (bVal (eInA tab_0 cls_0 not (eVar 1) (eAttr cf ["Journey"] "own_lines" (eVar 0)))) (sRaise "Absent" aNil) sPass) t_Journey_strike_3) := rfl
def b__law_spent : ES :=
  (sRet (eFrz cf (eFn (newM "Spending" (callM m_Spending_init 7 0 7 [(0, 0), (0, 1), (0, 2), (0, 3), (0, 4), (0, 5), (0, 6)] [.int 0, .bl true, .int 1, .int 0])) (aCons (eIdxB (eVar 0) (eC (.int 0))) (aCons (eIdxB (eVar 0) (eC (.int 1))) (aCons (eIdxB (eVar 0) (eC (.int 2))) (aCons (eIdxB (eVar 0) (eC (.int 3))) (aCons (eIdxB (eVar 0) (eC (.int 4))) (aCons (eIdxB (eVar 0) (eC (.int 5))) aNil)))))) aNil)))
def m__law_spent : Fn := fnM 1 b__law_spent
def b_Journey_had : ES :=
  (sSeq (sIf (bNot (bVal (eFn (callM m_is_whole 3 0 3 [(0, 0), (0, 1), (0, 2)] []) (aCons (eVar 1) (aCons (eC (.int 1)) (aCons (eC (.int 1000000000)) aNil))) aNil))) (sRaise "NoShare" aNil) sPass)
  (sSeq (sIf (bVal (eOp eqD (eB bLenA (aCons (eAttr cf ["Journey"] "own_sums" (eVar 0)) aNil)) (eC (.int 10)))) (sRaise "TooMany" (aChk 2 (aCons (eOp addD (eC (.int 10)) (eC (.int 1))) (aCons (eC (.int 10)) aNil)))) sPass)
  (sExpr (eMeth cf "Journey" "become" (callM m_Journey_become 3 0 3 [(0, 0), (0, 1), (0, 2)] []) (eVar 0) (aCons (eAttr cf ["Journey"] "own_lines" (eVar 0)) (aCons (eOp addD (eAttr cf ["Journey"] "own_sums" (eVar 0)) (eLst (aCons (eVar 1) aNil))) aNil)) aNil))))
def m_Journey_had : Fn := fnM 2 b_Journey_had
def t_Journey_had_5 : ES := (sExpr (eMeth cf "Journey" "become" (callM m_Journey_become 3 0 3 [(0, 0), (0, 1), (0, 2)] []) (eVar 0) (aCons (eAttr cf ["Journey"] "own_lines" (eVar 0)) (aCons (eOp addD (eAttr cf ["Journey"] "own_sums" (eVar 0)) (eLst (aCons (eVar 1) aNil))) aNil)) aNil))
instance : Tl t_Journey_had_5 (sExpr (eMeth cf "Journey" "become" (callM m_Journey_become 3 0 3 [(0, 0), (0, 1), (0, 2)] []) (eVar 0) (aCons (eAttr cf ["Journey"] "own_lines" (eVar 0)) (aCons (eOp addD (eAttr cf ["Journey"] "own_sums" (eVar 0)) (eLst (aCons (eVar 1) aNil))) aNil)) aNil)) := ⟨rfl⟩
def t_Journey_had_3 : ES := (sSeq (sIf (bVal (eOp eqD (eB bLenA (aCons (eAttr cf ["Journey"] "own_sums" (eVar 0)) aNil)) (eC (.int 10)))) (sRaise "TooMany" (aChk 2 (aCons (eOp addD (eC (.int 10)) (eC (.int 1))) (aCons (eC (.int 10)) aNil)))) sPass) t_Journey_had_5)
instance : Tl t_Journey_had_3 (sSeq (sIf (bVal (eOp eqD (eB bLenA (aCons (eAttr cf ["Journey"] "own_sums" (eVar 0)) aNil)) (eC (.int 10)))) (sRaise "TooMany" (aChk 2 (aCons (eOp addD (eC (.int 10)) (eC (.int 1))) (aCons (eC (.int 10)) aNil)))) sPass) t_Journey_had_5) := ⟨rfl⟩
theorem x_Journey_had : b_Journey_had = (sSeq (sIf (bNot (bVal (eFn (callM m_is_whole 3 0 3 [(0, 0), (0, 1), (0, 2)] []) (aCons (eVar 1) (aCons (eC (.int 1)) (aCons (eC (.int 1000000000)) aNil))) aNil))) (sRaise "NoShare" aNil) sPass) t_Journey_had_3) := rfl
def b__law_among : ES :=
  (sSeq (sSet 5 (eFn (newM "Journey" (callM m_Journey_init 4 0 4 [(0, 0), (0, 1), (0, 2), (0, 3)] [.int 10, .int 10])) (aCons (eVar 1) (aCons (eIdxB (eVar 2) (eC (.int 0))) (aCons (eIdxB (eVar 2) (eC (.int 1))) aNil))) aNil))
  (sSeq (sFor (itAny (eFn (callM m__law_mixed 2 0 2 [(0, 0), (0, 1)] []) (aCons (eVar 0) (aCons (eOp addD (eVar 3) (eVar 4)) aNil)) aNil)) (pName 6) (sSeq (sIf (bVal (eOp eqD (eFn (callM m__law_take 2 0 2 [(0, 0), (0, 1)] []) (aCons (eVar 0) (aCons (eC (.int 3)) aNil)) aNil) (eC (.int 0)))) (sSeq (sExpr (eMeth cf "Journey" "spend" (callM m_Journey_spend 2 0 2 [(0, 0), (0, 1)] []) (eVar 5) (aCons (eFrz cf (eFn (newM "Spending" (callM m_Spending_init 6 0 7 [(0, 0), (0, 1), (0, 2), (0, 3), (0, 4), (0, 5), (1, 3)] [.int 0, .bl true, .int 1, .int 0])) (aCons (eC (.str "sundry")) (aCons (eC (.int 999)) (aCons (eOp subD (eB bLenA (aCons (eVar 1) aNil)) (eC (.int 1))) (aCons (eC (.bl false)) (aCons (eC (.int 6)) aNil))))) aNil)) aNil) aNil))
  (sIf (bVal (eOp eqD (eFn (callM m__law_take 2 0 2 [(0, 0), (0, 1)] []) (aCons (eVar 0) (aCons (eC (.int 2)) aNil)) aNil) (eC (.int 0)))) (sExpr (eMeth cf "Journey" "undo" (callM m_Journey_undo 1 0 1 [(0, 0)] []) (eVar 5) aNil aNil)) (sExpr (eMeth cf "Journey" "strike" (callM m_Journey_strike 2 0 2 [(0, 0), (0, 1)] []) (eVar 5) (aCons (eFrz cf (eFn (newM "Spending" (callM m_Spending_init 6 0 7 [(0, 0), (0, 1), (0, 2), (0, 3), (0, 4), (0, 5), (1, 3)] [.int 0, .bl true, .int 1, .int 0])) (aCons (eC (.str "sundry")) (aCons (eC (.int 999)) (aCons (eOp subD (eB bLenA (aCons (eVar 1) aNil)) (eC (.int 1))) (aCons (eC (.bl false)) (aCons (eC (.int 6)) aNil))))) aNil)) aNil) aNil)))) sPass)
  (sIf (bVal (eIsI tysL (.b "tuple") (eVar 6))) (sExpr (eMeth cf "Journey" "spend" (callM m_Journey_spend 2 0 2 [(0, 0), (0, 1)] []) (eVar 5) (aCons (eFn (callM m__law_spent 1 0 1 [(0, 0)] []) (aCons (eVar 6) aNil) aNil) aNil) aNil)) (sExpr (eMeth cf "Journey" "had" (callM m_Journey_had 2 0 2 [(0, 0), (0, 1)] []) (eVar 5) (aCons (eVar 6) aNil) aNil)))))
  (sRet (eVar 5))))
def m__law_among : Fn := fnM 7 b__law_among
def t__law_among_5 : ES := (sIf (bVal (eOp eqD (eFn (callM m__law_take 2 0 2 [(0, 0), (0, 1)] []) (aCons (eVar 0) (aCons (eC (.int 2)) aNil)) aNil) (eC (.int 0)))) (sExpr (eMeth cf "Journey" "undo" (callM m_Journey_undo 1 0 1 [(0, 0)] []) (eVar 5) aNil aNil)) (sExpr (eMeth cf "Journey" "strike" (callM m_Journey_strike 2 0 2 [(0, 0), (0, 1)] []) (eVar 5) (aCons (eFrz cf (eFn (newM "Spending" (callM m_Spending_init 6 0 7 [(0, 0), (0, 1), (0, 2), (0, 3), (0, 4), (0, 5), (1, 3)] [.int 0, .bl true, .int 1, .int 0])) (aCons (eC (.str "sundry")) (aCons (eC (.int 999)) (aCons (eOp subD (eB bLenA (aCons (eVar 1) aNil)) (eC (.int 1))) (aCons (eC (.bl false)) (aCons (eC (.int 6)) aNil))))) aNil)) aNil) aNil)))
instance : Tl t__law_among_5 (sIf (bVal (eOp eqD (eFn (callM m__law_take 2 0 2 [(0, 0), (0, 1)] []) (aCons (eVar 0) (aCons (eC (.int 2)) aNil)) aNil) (eC (.int 0)))) (sExpr (eMeth cf "Journey" "undo" (callM m_Journey_undo 1 0 1 [(0, 0)] []) (eVar 5) aNil aNil)) (sExpr (eMeth cf "Journey" "strike" (callM m_Journey_strike 2 0 2 [(0, 0), (0, 1)] []) (eVar 5) (aCons (eFrz cf (eFn (newM "Spending" (callM m_Spending_init 6 0 7 [(0, 0), (0, 1), (0, 2), (0, 3), (0, 4), (0, 5), (1, 3)] [.int 0, .bl true, .int 1, .int 0])) (aCons (eC (.str "sundry")) (aCons (eC (.int 999)) (aCons (eOp subD (eB bLenA (aCons (eVar 1) aNil)) (eC (.int 1))) (aCons (eC (.bl false)) (aCons (eC (.int 6)) aNil))))) aNil)) aNil) aNil))) := ⟨rfl⟩
def t__law_among_9 : ES := (sIf (bVal (eIsI tysL (.b "tuple") (eVar 6))) (sExpr (eMeth cf "Journey" "spend" (callM m_Journey_spend 2 0 2 [(0, 0), (0, 1)] []) (eVar 5) (aCons (eFn (callM m__law_spent 1 0 1 [(0, 0)] []) (aCons (eVar 6) aNil) aNil) aNil) aNil)) (sExpr (eMeth cf "Journey" "had" (callM m_Journey_had 2 0 2 [(0, 0), (0, 1)] []) (eVar 5) (aCons (eVar 6) aNil) aNil)))
instance : Tl t__law_among_9 (sIf (bVal (eIsI tysL (.b "tuple") (eVar 6))) (sExpr (eMeth cf "Journey" "spend" (callM m_Journey_spend 2 0 2 [(0, 0), (0, 1)] []) (eVar 5) (aCons (eFn (callM m__law_spent 1 0 1 [(0, 0)] []) (aCons (eVar 6) aNil) aNil) aNil) aNil)) (sExpr (eMeth cf "Journey" "had" (callM m_Journey_had 2 0 2 [(0, 0), (0, 1)] []) (eVar 5) (aCons (eVar 6) aNil) aNil))) := ⟨rfl⟩
def t__law_among_3 : ES := (sSeq (sIf (bVal (eOp eqD (eFn (callM m__law_take 2 0 2 [(0, 0), (0, 1)] []) (aCons (eVar 0) (aCons (eC (.int 3)) aNil)) aNil) (eC (.int 0)))) (sSeq (sExpr (eMeth cf "Journey" "spend" (callM m_Journey_spend 2 0 2 [(0, 0), (0, 1)] []) (eVar 5) (aCons (eFrz cf (eFn (newM "Spending" (callM m_Spending_init 6 0 7 [(0, 0), (0, 1), (0, 2), (0, 3), (0, 4), (0, 5), (1, 3)] [.int 0, .bl true, .int 1, .int 0])) (aCons (eC (.str "sundry")) (aCons (eC (.int 999)) (aCons (eOp subD (eB bLenA (aCons (eVar 1) aNil)) (eC (.int 1))) (aCons (eC (.bl false)) (aCons (eC (.int 6)) aNil))))) aNil)) aNil) aNil)) t__law_among_5) sPass) t__law_among_9)
instance : Tl t__law_among_3 (sSeq (sIf (bVal (eOp eqD (eFn (callM m__law_take 2 0 2 [(0, 0), (0, 1)] []) (aCons (eVar 0) (aCons (eC (.int 3)) aNil)) aNil) (eC (.int 0)))) (sSeq (sExpr (eMeth cf "Journey" "spend" (callM m_Journey_spend 2 0 2 [(0, 0), (0, 1)] []) (eVar 5) (aCons (eFrz cf (eFn (newM "Spending" (callM m_Spending_init 6 0 7 [(0, 0), (0, 1), (0, 2), (0, 3), (0, 4), (0, 5), (1, 3)] [.int 0, .bl true, .int 1, .int 0])) (aCons (eC (.str "sundry")) (aCons (eC (.int 999)) (aCons (eOp subD (eB bLenA (aCons (eVar 1) aNil)) (eC (.int 1))) (aCons (eC (.bl false)) (aCons (eC (.int 6)) aNil))))) aNil)) aNil) aNil)) t__law_among_5) sPass) t__law_among_9) := ⟨rfl⟩
def t__law_among_13 : ES := (sRet (eVar 5))
instance : Tl t__law_among_13 (sRet (eVar 5)) := ⟨rfl⟩
def t__law_among_2 : ES := (sSeq (sFor (itAny (eFn (callM m__law_mixed 2 0 2 [(0, 0), (0, 1)] []) (aCons (eVar 0) (aCons (eOp addD (eVar 3) (eVar 4)) aNil)) aNil)) (pName 6) t__law_among_3) t__law_among_13)
instance : Tl t__law_among_2 (sSeq (sFor (itAny (eFn (callM m__law_mixed 2 0 2 [(0, 0), (0, 1)] []) (aCons (eVar 0) (aCons (eOp addD (eVar 3) (eVar 4)) aNil)) aNil)) (pName 6) t__law_among_3) t__law_among_13) := ⟨rfl⟩
theorem x__law_among : b__law_among = (sSeq (sSet 5 (eFn (newM "Journey" (callM m_Journey_init 4 0 4 [(0, 0), (0, 1), (0, 2), (0, 3)] [.int 10, .int 10])) (aCons (eVar 1) (aCons (eIdxB (eVar 2) (eC (.int 0))) (aCons (eIdxB (eVar 2) (eC (.int 1))) aNil))) aNil)) t__law_among_2) := rfl
def b_Journey_eq : ES :=
  (sSeq (sIf (bNot (bVal (eIsI tysL (.o "Journey") (eVar 1)))) (sRet (eC (.bl false))) sPass)
  (sSeq (sIf (bOr (bVal (eOp neD (eAttr cf ["Journey"] "own_towns" (eVar 0)) (eAttr cf ["Journey"] "own_towns" (eVar 1)))) (bVal (eOp neD (eAttr cf ["Journey"] "own_ends" (eVar 0)) (eAttr cf ["Journey"] "own_ends" (eVar 1))))) (sRet (eC (.bl false))) sPass)
  (sRet (eAnd (eEqA tab_0 cls_0 id (eAttr cf ["Journey"] "own_lines" (eVar 0)) (eAttr cf ["Journey"] "own_lines" (eVar 1))) (eOp eqD (eAttr cf ["Journey"] "own_sums" (eVar 0)) (eAttr cf ["Journey"] "own_sums" (eVar 1)))))))
def m_Journey_eq : Fn := fnM 2 b_Journey_eq
def t_Journey_eq_5 : ES := (sRet (eAnd (eEqA tab_0 cls_0 id (eAttr cf ["Journey"] "own_lines" (eVar 0)) (eAttr cf ["Journey"] "own_lines" (eVar 1))) (eOp eqD (eAttr cf ["Journey"] "own_sums" (eVar 0)) (eAttr cf ["Journey"] "own_sums" (eVar 1)))))
instance : Tl t_Journey_eq_5 (sRet (eAnd (eEqA tab_0 cls_0 id (eAttr cf ["Journey"] "own_lines" (eVar 0)) (eAttr cf ["Journey"] "own_lines" (eVar 1))) (eOp eqD (eAttr cf ["Journey"] "own_sums" (eVar 0)) (eAttr cf ["Journey"] "own_sums" (eVar 1))))) := ⟨rfl⟩
def t_Journey_eq_3 : ES := (sSeq (sIf (bOr (bVal (eOp neD (eAttr cf ["Journey"] "own_towns" (eVar 0)) (eAttr cf ["Journey"] "own_towns" (eVar 1)))) (bVal (eOp neD (eAttr cf ["Journey"] "own_ends" (eVar 0)) (eAttr cf ["Journey"] "own_ends" (eVar 1))))) (sRet (eC (.bl false))) sPass) t_Journey_eq_5)
instance : Tl t_Journey_eq_3 (sSeq (sIf (bOr (bVal (eOp neD (eAttr cf ["Journey"] "own_towns" (eVar 0)) (eAttr cf ["Journey"] "own_towns" (eVar 1)))) (bVal (eOp neD (eAttr cf ["Journey"] "own_ends" (eVar 0)) (eAttr cf ["Journey"] "own_ends" (eVar 1))))) (sRet (eC (.bl false))) sPass) t_Journey_eq_5) := ⟨rfl⟩
theorem x_Journey_eq : b_Journey_eq = (sSeq (sIf (bNot (bVal (eIsI tysL (.o "Journey") (eVar 1)))) (sRet (eC (.bl false))) sPass) t_Journey_eq_3) := rfl
def b_Journey_lines : ES :=
  (sRet (eListM (aCons (eAttr cf ["Journey"] "own_lines" (eVar 0)) aNil)))
def m_Journey_lines : Fn := fnM 1 b_Journey_lines
def b_are_twins : ES :=
  (sSeq (sIf (bOr (bVal (eOp neD (eAttr cf ["Spending"] "kind" (eVar 0)) (eAttr cf ["Spending"] "kind" (eVar 1)))) (bVal (eOp neD (eAttr cf ["Spending"] "amount" (eVar 0)) (eAttr cf ["Spending"] "amount" (eVar 1))))) (sRet (eC (.bl false))) sPass)
  (sRet (eAnd (eOp eqD (eAttr cf ["Spending"] "day" (eVar 0)) (eAttr cf ["Spending"] "day" (eVar 1))) (eOp eqD (eAttr cf ["Spending"] "money" (eVar 0)) (eAttr cf ["Spending"] "money" (eVar 1))))))
def m_are_twins : Fn := fnM 2 b_are_twins
def t_are_twins_3 : ES := (sRet (eAnd (eOp eqD (eAttr cf ["Spending"] "day" (eVar 0)) (eAttr cf ["Spending"] "day" (eVar 1))) (eOp eqD (eAttr cf ["Spending"] "money" (eVar 0)) (eAttr cf ["Spending"] "money" (eVar 1)))))
instance : Tl t_are_twins_3 (sRet (eAnd (eOp eqD (eAttr cf ["Spending"] "day" (eVar 0)) (eAttr cf ["Spending"] "day" (eVar 1))) (eOp eqD (eAttr cf ["Spending"] "money" (eVar 0)) (eAttr cf ["Spending"] "money" (eVar 1))))) := ⟨rfl⟩
theorem x_are_twins : b_are_twins = (sSeq (sIf (bOr (bVal (eOp neD (eAttr cf ["Spending"] "kind" (eVar 0)) (eAttr cf ["Spending"] "kind" (eVar 1)))) (bVal (eOp neD (eAttr cf ["Spending"] "amount" (eVar 0)) (eAttr cf ["Spending"] "amount" (eVar 1))))) (sRet (eC (.bl false))) sPass) t_are_twins_3) := rfl
def b_Journey_twins : ES :=
  (sSeq (sSet 1 (eLstM aNil))
  (sSeq (sFor (itEnum (aCons (eAttr cf ["Journey"] "own_lines" (eVar 0)) aNil)) (pTup (pCons (pName 2) (pCons (pName 3) pNil))) (sIf (bVal (eB bAny (aCons (eLC [4] (itAny (eCut (eAttr cf ["Journey"] "own_lines" (eVar 0)) oNone (oSome (eVar 2)))) (pName 4) bYes (eFn (callM m_are_twins 2 0 2 [(0, 0), (0, 1)] []) (aCons (eVar 3) (aCons (eVar 4) aNil)) aNil)) aNil))) (sExpr (eApp (eVar 1) (eVar 2))) sPass))
  (sRet (eVar 1))))
def m_Journey_twins : Fn := fnM 5 b_Journey_twins
def t_Journey_twins_3 : ES := (sIf (bVal (eB bAny (aCons (eLC [4] (itAny (eCut (eAttr cf ["Journey"] "own_lines" (eVar 0)) oNone (oSome (eVar 2)))) (pName 4) bYes (eFn (callM m_are_twins 2 0 2 [(0, 0), (0, 1)] []) (aCons (eVar 3) (aCons (eVar 4) aNil)) aNil)) aNil))) (sExpr (eApp (eVar 1) (eVar 2))) sPass)
instance : Tl t_Journey_twins_3 (sIf (bVal (eB bAny (aCons (eLC [4] (itAny (eCut (eAttr cf ["Journey"] "own_lines" (eVar 0)) oNone (oSome (eVar 2)))) (pName 4) bYes (eFn (callM m_are_twins 2 0 2 [(0, 0), (0, 1)] []) (aCons (eVar 3) (aCons (eVar 4) aNil)) aNil)) aNil))) (sExpr (eApp (eVar 1) (eVar 2))) sPass) := ⟨rfl⟩
def t_Journey_twins_5 : ES := (sRet (eVar 1))
instance : Tl t_Journey_twins_5 (sRet (eVar 1)) := ⟨rfl⟩
def t_Journey_twins_2 : ES := (sSeq (sFor (itEnum (aCons (eAttr cf ["Journey"] "own_lines" (eVar 0)) aNil)) (pTup (pCons (pName 2) (pCons (pName 3) pNil))) t_Journey_twins_3) t_Journey_twins_5)
instance : Tl t_Journey_twins_2 (sSeq (sFor (itEnum (aCons (eAttr cf ["Journey"] "own_lines" (eVar 0)) aNil)) (pTup (pCons (pName 2) (pCons (pName 3) pNil))) t_Journey_twins_3) t_Journey_twins_5) := ⟨rfl⟩
theorem x_Journey_twins : b_Journey_twins = (sSeq (sSet 1 (eLstM aNil)) t_Journey_twins_2) := rfl
def b__law_travel : ES :=
  (sSeq (sSet 4 (eFn (newM "Journey" (callM m_Journey_init 4 0 4 [(0, 0), (0, 1), (0, 2), (0, 3)] [.int 10, .int 10])) (aCons (eVar 0) (aCons (eIdxB (eVar 1) (eC (.int 0))) (aCons (eIdxB (eVar 1) (eC (.int 1))) aNil))) aNil))
  (sSeq (sFor (itAny (eVar 2)) (pName 5) (sExpr (eMeth cf "Journey" "spend" (callM m_Journey_spend 2 0 2 [(0, 0), (0, 1)] []) (eVar 4) (aCons (eFn (callM m__law_spent 1 0 1 [(0, 0)] []) (aCons (eVar 5) aNil) aNil) aNil) aNil)))
  (sSeq (sFor (itAny (eVar 3)) (pName 6) (sExpr (eMeth cf "Journey" "had" (callM m_Journey_had 2 0 2 [(0, 0), (0, 1)] []) (eVar 4) (aCons (eVar 6) aNil) aNil)))
  (sRet (eVar 4)))))
def m__law_travel : Fn := fnM 7 b__law_travel
def t__law_travel_3 : ES := (sExpr (eMeth cf "Journey" "spend" (callM m_Journey_spend 2 0 2 [(0, 0), (0, 1)] []) (eVar 4) (aCons (eFn (callM m__law_spent 1 0 1 [(0, 0)] []) (aCons (eVar 5) aNil) aNil) aNil) aNil))
instance : Tl t__law_travel_3 (sExpr (eMeth cf "Journey" "spend" (callM m_Journey_spend 2 0 2 [(0, 0), (0, 1)] []) (eVar 4) (aCons (eFn (callM m__law_spent 1 0 1 [(0, 0)] []) (aCons (eVar 5) aNil) aNil) aNil) aNil)) := ⟨rfl⟩
def t__law_travel_5 : ES := (sExpr (eMeth cf "Journey" "had" (callM m_Journey_had 2 0 2 [(0, 0), (0, 1)] []) (eVar 4) (aCons (eVar 6) aNil) aNil))
instance : Tl t__law_travel_5 (sExpr (eMeth cf "Journey" "had" (callM m_Journey_had 2 0 2 [(0, 0), (0, 1)] []) (eVar 4) (aCons (eVar 6) aNil) aNil)) := ⟨rfl⟩
def t__law_travel_6 : ES := (sRet (eVar 4))
instance : Tl t__law_travel_6 (sRet (eVar 4)) := ⟨rfl⟩
def t__law_travel_4 : ES := (sSeq (sFor (itAny (eVar 3)) (pName 6) t__law_travel_5) t__law_travel_6)
instance : Tl t__law_travel_4 (sSeq (sFor (itAny (eVar 3)) (pName 6) t__law_travel_5) t__law_travel_6) := ⟨rfl⟩
def t__law_travel_2 : ES := (sSeq (sFor (itAny (eVar 2)) (pName 5) t__law_travel_3) t__law_travel_4)
instance : Tl t__law_travel_2 (sSeq (sFor (itAny (eVar 2)) (pName 5) t__law_travel_3) t__law_travel_4) := ⟨rfl⟩
theorem x__law_travel : b__law_travel = (sSeq (sSet 4 (eFn (newM "Journey" (callM m_Journey_init 4 0 4 [(0, 0), (0, 1), (0, 2), (0, 3)] [.int 10, .int 10])) (aCons (eVar 0) (aCons (eIdxB (eVar 1) (eC (.int 0))) (aCons (eIdxB (eVar 1) (eC (.int 1))) aNil))) aNil)) t__law_travel_2) := rfl
def b__law_unlike_right : ES :=
  (sSeq (sSet 6 (eLstM (aCons (eTup (aCons (eVar 2) (aCons (eVar 3) (aCons (eOp addD (eVar 4) (eLst (aCons (eTup (aCons (eC (.str "bed")) (aCons (eC (.int 3)) (aCons (eC (.int 0)) (aCons (eC (.bl true)) (aCons (eC (.int 1)) (aCons (eC (.int 0)) aNil))))))) aNil))) (aCons (eVar 5) aNil))))) (aCons (eTup (aCons (eVar 2) (aCons (eVar 3) (aCons (eVar 4) (aCons (eOp addD (eVar 5) (eLst (aCons (eC (.int 1)) aNil))) aNil))))) aNil))))
  (sSeq (sExpr (eApp (eVar 6) (eTup (aCons (eVar 2) (aCons (eTup (aCons (eIdxB (eVar 3) (eC (.int 0))) (aCons (eOp modD (eOp addD (eIdxB (eVar 3) (eC (.int 1))) (eC (.int 1))) (eC (.int 11))) aNil))) (aCons (eVar 4) (aCons (eVar 5) aNil)))))))
  (sSeq (sExpr (eApp (eVar 6) (eTup (aCons (eOp addD (eTup (aCons (eOp modD (eOp addD (eIdxB (eVar 2) (eC (.int 0))) (eC (.int 1))) (eC (.int 4))) aNil)) (eCut (eVar 2) (oSome (eC (.int 1))) oNone)) (aCons (eVar 3) (aCons (eVar 4) (aCons (eVar 5) aNil)))))))
  (sSeq (sIf (bVal (eOp neD (eVar 4) (eLst aNil))) (sSeq (sSet 9 (eFn (callM m__law_take 2 0 2 [(0, 0), (0, 1)] []) (aCons (eVar 0) (aCons (eB bLenA (aCons (eVar 4) aNil)) aNil)) aNil))
  (sSeq (sExpr (eApp (eVar 6) (eTup (aCons (eVar 2) (aCons (eVar 3) (aCons (eOp addD (eCut (eVar 4) oNone (oSome (eVar 9))) (eCut (eVar 4) (oSome (eOp addD (eVar 9) (eC (.int 1)))) oNone)) (aCons (eVar 5) aNil)))))))
  (sSeq (sSet 10 (eOp addD (eOp addD (eCut (eIdxB (eVar 4) (eVar 9)) oNone (oSome (eC (.int 3)))) (eTup (aCons (eNot (eIdxB (eIdxB (eVar 4) (eVar 9)) (eC (.int 3)))) aNil))) (eCut (eIdxB (eVar 4) (eVar 9)) (oSome (eC (.int 4))) oNone)))
  (sExpr (eApp (eVar 6) (eTup (aCons (eVar 2) (aCons (eVar 3) (aCons (eOp addD (eOp addD (eCut (eVar 4) oNone (oSome (eVar 9))) (eLst (aCons (eVar 10) aNil))) (eCut (eVar 4) (oSome (eOp addD (eVar 9) (eC (.int 1)))) oNone)) (aCons (eVar 5) aNil)))))))))) sPass)
  (sSeq (sIf (bVal (eOp neD (eVar 5) (eLst aNil))) (sExpr (eApp (eVar 6) (eTup (aCons (eVar 2) (aCons (eVar 3) (aCons (eVar 4) (aCons (eCut (eVar 5) (oSome (eC (.int 1))) oNone) aNil))))))) sPass)
  (sSeq (sFor (itAny (eFrzL (eVar 6))) (pName 7) (sIf (bVal (eEqV "Journey" m_Journey_eq id (eVar 1) (eFn (callM m__law_travel 4 0 4 [(0, 0), (0, 1), (0, 2), (0, 3)] []) (aCons (eIdxB (eVar 7) (eC (.int 0))) (aCons (eIdxB (eVar 7) (eC (.int 1))) (aCons (eIdxB (eVar 7) (eC (.int 2))) (aCons (eIdxB (eVar 7) (eC (.int 3))) aNil)))) aNil))) (sRet (eC (.bl false))) sPass))
  (sSeq (sSet 8 (eLC [11] (itAny (eLst (aCons (eLst (aCons (eC (.int 1)) (aCons (eC (.int 3)) aNil))) (aCons (eLst (aCons (eC (.int 2)) (aCons (eC (.int 2)) aNil))) (aCons (eLst (aCons (eC (.int 4)) aNil)) aNil))))) (pName 11) bYes (eFn (callM m__law_travel 4 0 4 [(0, 0), (0, 1), (0, 2), (0, 3)] []) (aCons (eVar 2) (aCons (eVar 3) (aCons (eVar 4) (aCons (eOp addD (eVar 5) (eVar 11)) aNil)))) aNil)))
  (sRet (eAnd (eEqV "Journey" m_Journey_eq not (eIdxB (eVar 8) (eC (.int 0))) (eIdxB (eVar 8) (eC (.int 1)))) (eAnd (eEqV "Journey" m_Journey_eq not (eIdxB (eVar 8) (eC (.int 0))) (eIdxB (eVar 8) (eC (.int 2)))) (eEqV "Journey" m_Journey_eq not (eIdxB (eVar 8) (eC (.int 1))) (eIdxB (eVar 8) (eC (.int 2))))))))))))))
def m__law_unlike_right : Fn := fnM 12 b__law_unlike_right
def t__law_unlike_right_8 : ES := (sExpr (eApp (eVar 6) (eTup (aCons (eVar 2) (aCons (eVar 3) (aCons (eOp addD (eOp addD (eCut (eVar 4) oNone (oSome (eVar 9))) (eLst (aCons (eVar 10) aNil))) (eCut (eVar 4) (oSome (eOp addD (eVar 9) (eC (.int 1)))) oNone)) (aCons (eVar 5) aNil)))))))
instance : Tl t__law_unlike_right_8 (sExpr (eApp (eVar 6) (eTup (aCons (eVar 2) (aCons (eVar 3) (aCons (eOp addD (eOp addD (eCut (eVar 4) oNone (oSome (eVar 9))) (eLst (aCons (eVar 10) aNil))) (eCut (eVar 4) (oSome (eOp addD (eVar 9) (eC (.int 1)))) oNone)) (aCons (eVar 5) aNil))))))) := ⟨rfl⟩
def t__law_unlike_right_7 : ES := (sSeq (sSet 10 (eOp addD (eOp addD (eCut (eIdxB (eVar 4) (eVar 9)) oNone (oSome (eC (.int 3)))) (eTup (aCons (eNot (eIdxB (eIdxB (eVar 4) (eVar 9)) (eC (.int 3)))) aNil))) (eCut (eIdxB (eVar 4) (eVar 9)) (oSome (eC (.int 4))) oNone))) t__law_unlike_right_8)
instance : Tl t__law_unlike_right_7 (sSeq (sSet 10 (eOp addD (eOp addD (eCut (eIdxB (eVar 4) (eVar 9)) oNone (oSome (eC (.int 3)))) (eTup (aCons (eNot (eIdxB (eIdxB (eVar 4) (eVar 9)) (eC (.int 3)))) aNil))) (eCut (eIdxB (eVar 4) (eVar 9)) (oSome (eC (.int 4))) oNone))) t__law_unlike_right_8) := ⟨rfl⟩
def t__law_unlike_right_6 : ES := (sSeq (sExpr (eApp (eVar 6) (eTup (aCons (eVar 2) (aCons (eVar 3) (aCons (eOp addD (eCut (eVar 4) oNone (oSome (eVar 9))) (eCut (eVar 4) (oSome (eOp addD (eVar 9) (eC (.int 1)))) oNone)) (aCons (eVar 5) aNil))))))) t__law_unlike_right_7)
instance : Tl t__law_unlike_right_6 (sSeq (sExpr (eApp (eVar 6) (eTup (aCons (eVar 2) (aCons (eVar 3) (aCons (eOp addD (eCut (eVar 4) oNone (oSome (eVar 9))) (eCut (eVar 4) (oSome (eOp addD (eVar 9) (eC (.int 1)))) oNone)) (aCons (eVar 5) aNil))))))) t__law_unlike_right_7) := ⟨rfl⟩
def t__law_unlike_right_12 : ES := (sIf (bVal (eEqV "Journey" m_Journey_eq id (eVar 1) (eFn (callM m__law_travel 4 0 4 [(0, 0), (0, 1), (0, 2), (0, 3)] []) (aCons (eIdxB (eVar 7) (eC (.int 0))) (aCons (eIdxB (eVar 7) (eC (.int 1))) (aCons (eIdxB (eVar 7) (eC (.int 2))) (aCons (eIdxB (eVar 7) (eC (.int 3))) aNil)))) aNil))) (sRet (eC (.bl false))) sPass)
instance : Tl t__law_unlike_right_12 (sIf (bVal (eEqV "Journey" m_Journey_eq id (eVar 1) (eFn (callM m__law_travel 4 0 4 [(0, 0), (0, 1), (0, 2), (0, 3)] []) (aCons (eIdxB (eVar 7) (eC (.int 0))) (aCons (eIdxB (eVar 7) (eC (.int 1))) (aCons (eIdxB (eVar 7) (eC (.int 2))) (aCons (eIdxB (eVar 7) (eC (.int 3))) aNil)))) aNil))) (sRet (eC (.bl false))) sPass) := ⟨rfl⟩
def t__law_unlike_right_15 : ES := (sRet (eAnd (eEqV "Journey" m_Journey_eq not (eIdxB (eVar 8) (eC (.int 0))) (eIdxB (eVar 8) (eC (.int 1)))) (eAnd (eEqV "Journey" m_Journey_eq not (eIdxB (eVar 8) (eC (.int 0))) (eIdxB (eVar 8) (eC (.int 2)))) (eEqV "Journey" m_Journey_eq not (eIdxB (eVar 8) (eC (.int 1))) (eIdxB (eVar 8) (eC (.int 2)))))))
instance : Tl t__law_unlike_right_15 (sRet (eAnd (eEqV "Journey" m_Journey_eq not (eIdxB (eVar 8) (eC (.int 0))) (eIdxB (eVar 8) (eC (.int 1)))) (eAnd (eEqV "Journey" m_Journey_eq not (eIdxB (eVar 8) (eC (.int 0))) (eIdxB (eVar 8) (eC (.int 2)))) (eEqV "Journey" m_Journey_eq not (eIdxB (eVar 8) (eC (.int 1))) (eIdxB (eVar 8) (eC (.int 2))))))) := ⟨rfl⟩
def t__law_unlike_right_14 : ES := (sSeq (sSet 8 (eLC [11] (itAny (eLst (aCons (eLst (aCons (eC (.int 1)) (aCons (eC (.int 3)) aNil))) (aCons (eLst (aCons (eC (.int 2)) (aCons (eC (.int 2)) aNil))) (aCons (eLst (aCons (eC (.int 4)) aNil)) aNil))))) (pName 11) bYes (eFn (callM m__law_travel 4 0 4 [(0, 0), (0, 1), (0, 2), (0, 3)] []) (aCons (eVar 2) (aCons (eVar 3) (aCons (eVar 4) (aCons (eOp addD (eVar 5) (eVar 11)) aNil)))) aNil))) t__law_unlike_right_15)
instance : Tl t__law_unlike_right_14 (sSeq (sSet 8 (eLC [11] (itAny (eLst (aCons (eLst (aCons (eC (.int 1)) (aCons (eC (.int 3)) aNil))) (aCons (eLst (aCons (eC (.int 2)) (aCons (eC (.int 2)) aNil))) (aCons (eLst (aCons (eC (.int 4)) aNil)) aNil))))) (pName 11) bYes (eFn (callM m__law_travel 4 0 4 [(0, 0), (0, 1), (0, 2), (0, 3)] []) (aCons (eVar 2) (aCons (eVar 3) (aCons (eVar 4) (aCons (eOp addD (eVar 5) (eVar 11)) aNil)))) aNil))) t__law_unlike_right_15) := ⟨rfl⟩
def t__law_unlike_right_11 : ES := (sSeq (sFor (itAny (eFrzL (eVar 6))) (pName 7) t__law_unlike_right_12) t__law_unlike_right_14)
instance : Tl t__law_unlike_right_11 (sSeq (sFor (itAny (eFrzL (eVar 6))) (pName 7) t__law_unlike_right_12) t__law_unlike_right_14) := ⟨rfl⟩
def t__law_unlike_right_9 : ES := (sSeq (sIf (bVal (eOp neD (eVar 5) (eLst aNil))) (sExpr (eApp (eVar 6) (eTup (aCons (eVar 2) (aCons (eVar 3) (aCons (eVar 4) (aCons (eCut (eVar 5) (oSome (eC (.int 1))) oNone) aNil))))))) sPass) t__law_unlike_right_11)
instance : Tl t__law_unlike_right_9 (sSeq (sIf (bVal (eOp neD (eVar 5) (eLst aNil))) (sExpr (eApp (eVar 6) (eTup (aCons (eVar 2) (aCons (eVar 3) (aCons (eVar 4) (aCons (eCut (eVar 5) (oSome (eC (.int 1))) oNone) aNil))))))) sPass) t__law_unlike_right_11) := ⟨rfl⟩
def t__law_unlike_right_4 : ES := (sSeq (sIf (bVal (eOp neD (eVar 4) (eLst aNil))) (sSeq (sSet 9 (eFn (callM m__law_take 2 0 2 [(0, 0), (0, 1)] []) (aCons (eVar 0) (aCons (eB bLenA (aCons (eVar 4) aNil)) aNil)) aNil)) t__law_unlike_right_6) sPass) t__law_unlike_right_9)
instance : Tl t__law_unlike_right_4 (sSeq (sIf (bVal (eOp neD (eVar 4) (eLst aNil))) (sSeq (sSet 9 (eFn (callM m__law_take 2 0 2 [(0, 0), (0, 1)] []) (aCons (eVar 0) (aCons (eB bLenA (aCons (eVar 4) aNil)) aNil)) aNil)) t__law_unlike_right_6) sPass) t__law_unlike_right_9) := ⟨rfl⟩
def t__law_unlike_right_3 : ES := (sSeq (sExpr (eApp (eVar 6) (eTup (aCons (eOp addD (eTup (aCons (eOp modD (eOp addD (eIdxB (eVar 2) (eC (.int 0))) (eC (.int 1))) (eC (.int 4))) aNil)) (eCut (eVar 2) (oSome (eC (.int 1))) oNone)) (aCons (eVar 3) (aCons (eVar 4) (aCons (eVar 5) aNil))))))) t__law_unlike_right_4)
instance : Tl t__law_unlike_right_3 (sSeq (sExpr (eApp (eVar 6) (eTup (aCons (eOp addD (eTup (aCons (eOp modD (eOp addD (eIdxB (eVar 2) (eC (.int 0))) (eC (.int 1))) (eC (.int 4))) aNil)) (eCut (eVar 2) (oSome (eC (.int 1))) oNone)) (aCons (eVar 3) (aCons (eVar 4) (aCons (eVar 5) aNil))))))) t__law_unlike_right_4) := ⟨rfl⟩
def t__law_unlike_right_2 : ES := (sSeq (sExpr (eApp (eVar 6) (eTup (aCons (eVar 2) (aCons (eTup (aCons (eIdxB (eVar 3) (eC (.int 0))) (aCons (eOp modD (eOp addD (eIdxB (eVar 3) (eC (.int 1))) (eC (.int 1))) (eC (.int 11))) aNil))) (aCons (eVar 4) (aCons (eVar 5) aNil))))))) t__law_unlike_right_3)
instance : Tl t__law_unlike_right_2 (sSeq (sExpr (eApp (eVar 6) (eTup (aCons (eVar 2) (aCons (eTup (aCons (eIdxB (eVar 3) (eC (.int 0))) (aCons (eOp modD (eOp addD (eIdxB (eVar 3) (eC (.int 1))) (eC (.int 1))) (eC (.int 11))) aNil))) (aCons (eVar 4) (aCons (eVar 5) aNil))))))) t__law_unlike_right_3) := ⟨rfl⟩
theorem x__law_unlike_right : b__law_unlike_right = (sSeq (sSet 6 (eLstM (aCons (eTup (aCons (eVar 2) (aCons (eVar 3) (aCons (eOp addD (eVar 4) (eLst (aCons (eTup (aCons (eC (.str "bed")) (aCons (eC (.int 3)) (aCons (eC (.int 0)) (aCons (eC (.bl true)) (aCons (eC (.int 1)) (aCons (eC (.int 0)) aNil))))))) aNil))) (aCons (eVar 5) aNil))))) (aCons (eTup (aCons (eVar 2) (aCons (eVar 3) (aCons (eVar 4) (aCons (eOp addD (eVar 5) (eLst (aCons (eC (.int 1)) aNil))) aNil))))) aNil)))) t__law_unlike_right_2) := rfl
def b_Journey_twin : ES :=
  (sSeq (sSet 1 (eFn (newM "Journey" (callM m_Journey_init 4 0 4 [(0, 0), (0, 1), (0, 2), (0, 3)] [.int 10, .int 10])) (aCons (eAttr cf ["Journey"] "own_towns" (eVar 0)) (aCons (eIdxB (eAttr cf ["Journey"] "own_ends" (eVar 0)) (eC (.int 0))) (aCons (eIdxB (eAttr cf ["Journey"] "own_ends" (eVar 0)) (eC (.int 1))) aNil))) aNil))
  (sSeq (sSetAttr ["Journey"] "own_lines" (eVar 1) (eAttr cf ["Journey"] "own_lines" (eVar 0)))
  (sSeq (sSetAttr ["Journey"] "own_sums" (eVar 1) (eAttr cf ["Journey"] "own_sums" (eVar 0)))
  (sSeq (sSetAttr ["Journey"] "own_past" (eVar 1) (eListM (aCons (eAttr cf ["Journey"] "own_past" (eVar 0)) aNil)))
  (sRet (eVar 1))))))
def m_Journey_twin : Fn := fnM 2 b_Journey_twin
def t_Journey_twin_5 : ES := (sRet (eVar 1))
instance : Tl t_Journey_twin_5 (sRet (eVar 1)) := ⟨rfl⟩
def t_Journey_twin_4 : ES := (sSeq (sSetAttr ["Journey"] "own_past" (eVar 1) (eListM (aCons (eAttr cf ["Journey"] "own_past" (eVar 0)) aNil))) t_Journey_twin_5)
instance : Tl t_Journey_twin_4 (sSeq (sSetAttr ["Journey"] "own_past" (eVar 1) (eListM (aCons (eAttr cf ["Journey"] "own_past" (eVar 0)) aNil))) t_Journey_twin_5) := ⟨rfl⟩
def t_Journey_twin_3 : ES := (sSeq (sSetAttr ["Journey"] "own_sums" (eVar 1) (eAttr cf ["Journey"] "own_sums" (eVar 0))) t_Journey_twin_4)
instance : Tl t_Journey_twin_3 (sSeq (sSetAttr ["Journey"] "own_sums" (eVar 1) (eAttr cf ["Journey"] "own_sums" (eVar 0))) t_Journey_twin_4) := ⟨rfl⟩
def t_Journey_twin_2 : ES := (sSeq (sSetAttr ["Journey"] "own_lines" (eVar 1) (eAttr cf ["Journey"] "own_lines" (eVar 0))) t_Journey_twin_3)
instance : Tl t_Journey_twin_2 (sSeq (sSetAttr ["Journey"] "own_lines" (eVar 1) (eAttr cf ["Journey"] "own_lines" (eVar 0))) t_Journey_twin_3) := ⟨rfl⟩
theorem x_Journey_twin : b_Journey_twin = (sSeq (sSet 1 (eFn (newM "Journey" (callM m_Journey_init 4 0 4 [(0, 0), (0, 1), (0, 2), (0, 3)] [.int 10, .int 10])) (aCons (eAttr cf ["Journey"] "own_towns" (eVar 0)) (aCons (eIdxB (eAttr cf ["Journey"] "own_ends" (eVar 0)) (eC (.int 0))) (aCons (eIdxB (eAttr cf ["Journey"] "own_ends" (eVar 0)) (eC (.int 1))) aNil))) aNil)) t_Journey_twin_2) := rfl
def b_Journey_len : ES :=
  (sRet (eB bLenA (aCons (eAttr cf ["Journey"] "own_lines" (eVar 0)) aNil)))
def m_Journey_len : Fn := fnM 1 b_Journey_len
def b__law_twin_right : ES :=
  (sSeq (sSet 4 (eMeth cf "Journey" "twin" (callM m_Journey_twin 1 0 1 [(0, 0)] []) (eVar 1) aNil aNil))
  (sSeq (sIf (bOr (bVal (eEqV "Journey" m_Journey_eq not (eVar 4) (eVar 1))) (bNot (bVal (eIsI tysL (.o "Journey") (eVar 4))))) (sRet (eC (.bl false))) sPass)
  (sSeq (sExpr (eMeth cf "Journey" "spend" (callM m_Journey_spend 2 0 2 [(0, 0), (0, 1)] []) (eVar 4) (aCons (eFrz cf (eFn (newM "Spending" (callM m_Spending_init 4 0 7 [(0, 0), (0, 1), (0, 2), (0, 3), (1, 1), (1, 2), (1, 3)] [.int 0, .bl true, .int 1, .int 0])) (aCons (eC (.str "fee")) (aCons (eC (.int 12345)) (aCons (eC (.int 0)) aNil))) aNil)) aNil) aNil))
  (sSeq (sIf (bOr (bVal (eEqV "Journey" m_Journey_eq id (eVar 4) (eVar 1))) (bOr (bVal (eEqV "Journey" m_Journey_eq not (eVar 1) (eVar 2))) (bOr (bVal (eOp neD (eLenV "Journey" m_Journey_len (eVar 1)) (eB bLenA (aCons (eVar 3) aNil)))) (bVal (eOp neD (eLenV "Journey" m_Journey_len (eVar 4)) (eOp addD (eB bLenA (aCons (eVar 3) aNil)) (eC (.int 1)))))))) (sRet (eC (.bl false))) sPass)
  (sSeq (sExpr (eMeth cf "Journey" "undo" (callM m_Journey_undo 1 0 1 [(0, 0)] []) (eVar 4) aNil aNil))
  (sSeq (sExpr (eMeth cf "Journey" "had" (callM m_Journey_had 2 0 2 [(0, 0), (0, 1)] []) (eVar 1) (aCons (eC (.int 77)) aNil) aNil))
  (sSeq (sIf (bOr (bVal (eEqV "Journey" m_Journey_eq not (eVar 4) (eVar 2))) (bVal (eEqV "Journey" m_Journey_eq id (eVar 1) (eVar 2)))) (sRet (eC (.bl false))) sPass)
  (sSeq (sExpr (eMeth cf "Journey" "undo" (callM m_Journey_undo 1 0 1 [(0, 0)] []) (eVar 1) aNil aNil))
  (sSeq (sFor (itR1 (aCons (eB bLenA (aCons (eVar 3) aNil)) aNil)) (pName 5) (sExpr (eMeth cf "Journey" "strike" (callM m_Journey_strike 2 0 2 [(0, 0), (0, 1)] []) (eVar 4) (aCons (eIdxB (eMeth cf "Journey" "lines" (callM m_Journey_lines 1 0 1 [(0, 0)] []) (eVar 4) aNil aNil) (eC (.int 0))) aNil) aNil)))
  (sRet (eAnd (eOp eqD (eLenV "Journey" m_Journey_len (eVar 4)) (eC (.int 0))) (eAnd (eEqV "Journey" m_Journey_eq id (eVar 1) (eVar 2)) (eOp eqD (eLenV "Journey" m_Journey_len (eVar 1)) (eB bLenA (aCons (eVar 3) aNil)))))))))))))))
def m__law_twin_right : Fn := fnM 6 b__law_twin_right
def t__law_twin_right_13 : ES := (sExpr (eMeth cf "Journey" "strike" (callM m_Journey_strike 2 0 2 [(0, 0), (0, 1)] []) (eVar 4) (aCons (eIdxB (eMeth cf "Journey" "lines" (callM m_Journey_lines 1 0 1 [(0, 0)] []) (eVar 4) aNil aNil) (eC (.int 0))) aNil) aNil))
instance : Tl t__law_twin_right_13 (sExpr (eMeth cf "Journey" "strike" (callM m_Journey_strike 2 0 2 [(0, 0), (0, 1)] []) (eVar 4) (aCons (eIdxB (eMeth cf "Journey" "lines" (callM m_Journey_lines 1 0 1 [(0, 0)] []) (eVar 4) aNil aNil) (eC (.int 0))) aNil) aNil)) := ⟨rfl⟩
def t__law_twin_right_14 : ES := (sRet (eAnd (eOp eqD (eLenV "Journey" m_Journey_len (eVar 4)) (eC (.int 0))) (eAnd (eEqV "Journey" m_Journey_eq id (eVar 1) (eVar 2)) (eOp eqD (eLenV "Journey" m_Journey_len (eVar 1)) (eB bLenA (aCons (eVar 3) aNil))))))
instance : Tl t__law_twin_right_14 (sRet (eAnd (eOp eqD (eLenV "Journey" m_Journey_len (eVar 4)) (eC (.int 0))) (eAnd (eEqV "Journey" m_Journey_eq id (eVar 1) (eVar 2)) (eOp eqD (eLenV "Journey" m_Journey_len (eVar 1)) (eB bLenA (aCons (eVar 3) aNil)))))) := ⟨rfl⟩
def t__law_twin_right_12 : ES := (sSeq (sFor (itR1 (aCons (eB bLenA (aCons (eVar 3) aNil)) aNil)) (pName 5) t__law_twin_right_13) t__law_twin_right_14)
instance : Tl t__law_twin_right_12 (sSeq (sFor (itR1 (aCons (eB bLenA (aCons (eVar 3) aNil)) aNil)) (pName 5) t__law_twin_right_13) t__law_twin_right_14) := ⟨rfl⟩
def t__law_twin_right_11 : ES := (sSeq (sExpr (eMeth cf "Journey" "undo" (callM m_Journey_undo 1 0 1 [(0, 0)] []) (eVar 1) aNil aNil)) t__law_twin_right_12)
instance : Tl t__law_twin_right_11 (sSeq (sExpr (eMeth cf "Journey" "undo" (callM m_Journey_undo 1 0 1 [(0, 0)] []) (eVar 1) aNil aNil)) t__law_twin_right_12) := ⟨rfl⟩
def t__law_twin_right_9 : ES := (sSeq (sIf (bOr (bVal (eEqV "Journey" m_Journey_eq not (eVar 4) (eVar 2))) (bVal (eEqV "Journey" m_Journey_eq id (eVar 1) (eVar 2)))) (sRet (eC (.bl false))) sPass) t__law_twin_right_11)
instance : Tl t__law_twin_right_9 (sSeq (sIf (bOr (bVal (eEqV "Journey" m_Journey_eq not (eVar 4) (eVar 2))) (bVal (eEqV "Journey" m_Journey_eq id (eVar 1) (eVar 2)))) (sRet (eC (.bl false))) sPass) t__law_twin_right_11) := ⟨rfl⟩
def t__law_twin_right_8 : ES := (sSeq (sExpr (eMeth cf "Journey" "had" (callM m_Journey_had 2 0 2 [(0, 0), (0, 1)] []) (eVar 1) (aCons (eC (.int 77)) aNil) aNil)) t__law_twin_right_9)
instance : Tl t__law_twin_right_8 (sSeq (sExpr (eMeth cf "Journey" "had" (callM m_Journey_had 2 0 2 [(0, 0), (0, 1)] []) (eVar 1) (aCons (eC (.int 77)) aNil) aNil)) t__law_twin_right_9) := ⟨rfl⟩
def t__law_twin_right_7 : ES := (sSeq (sExpr (eMeth cf "Journey" "undo" (callM m_Journey_undo 1 0 1 [(0, 0)] []) (eVar 4) aNil aNil)) t__law_twin_right_8)
instance : Tl t__law_twin_right_7 (sSeq (sExpr (eMeth cf "Journey" "undo" (callM m_Journey_undo 1 0 1 [(0, 0)] []) (eVar 4) aNil aNil)) t__law_twin_right_8) := ⟨rfl⟩
def t__law_twin_right_5 : ES := (sSeq (sIf (bOr (bVal (eEqV "Journey" m_Journey_eq id (eVar 4) (eVar 1))) (bOr (bVal (eEqV "Journey" m_Journey_eq not (eVar 1) (eVar 2))) (bOr (bVal (eOp neD (eLenV "Journey" m_Journey_len (eVar 1)) (eB bLenA (aCons (eVar 3) aNil)))) (bVal (eOp neD (eLenV "Journey" m_Journey_len (eVar 4)) (eOp addD (eB bLenA (aCons (eVar 3) aNil)) (eC (.int 1)))))))) (sRet (eC (.bl false))) sPass) t__law_twin_right_7)
instance : Tl t__law_twin_right_5 (sSeq (sIf (bOr (bVal (eEqV "Journey" m_Journey_eq id (eVar 4) (eVar 1))) (bOr (bVal (eEqV "Journey" m_Journey_eq not (eVar 1) (eVar 2))) (bOr (bVal (eOp neD (eLenV "Journey" m_Journey_len (eVar 1)) (eB bLenA (aCons (eVar 3) aNil)))) (bVal (eOp neD (eLenV "Journey" m_Journey_len (eVar 4)) (eOp addD (eB bLenA (aCons (eVar 3) aNil)) (eC (.int 1)))))))) (sRet (eC (.bl false))) sPass) t__law_twin_right_7) := ⟨rfl⟩
def t__law_twin_right_4 : ES := (sSeq (sExpr (eMeth cf "Journey" "spend" (callM m_Journey_spend 2 0 2 [(0, 0), (0, 1)] []) (eVar 4) (aCons (eFrz cf (eFn (newM "Spending" (callM m_Spending_init 4 0 7 [(0, 0), (0, 1), (0, 2), (0, 3), (1, 1), (1, 2), (1, 3)] [.int 0, .bl true, .int 1, .int 0])) (aCons (eC (.str "fee")) (aCons (eC (.int 12345)) (aCons (eC (.int 0)) aNil))) aNil)) aNil) aNil)) t__law_twin_right_5)
instance : Tl t__law_twin_right_4 (sSeq (sExpr (eMeth cf "Journey" "spend" (callM m_Journey_spend 2 0 2 [(0, 0), (0, 1)] []) (eVar 4) (aCons (eFrz cf (eFn (newM "Spending" (callM m_Spending_init 4 0 7 [(0, 0), (0, 1), (0, 2), (0, 3), (1, 1), (1, 2), (1, 3)] [.int 0, .bl true, .int 1, .int 0])) (aCons (eC (.str "fee")) (aCons (eC (.int 12345)) (aCons (eC (.int 0)) aNil))) aNil)) aNil) aNil)) t__law_twin_right_5) := ⟨rfl⟩
def t__law_twin_right_2 : ES := (sSeq (sIf (bOr (bVal (eEqV "Journey" m_Journey_eq not (eVar 4) (eVar 1))) (bNot (bVal (eIsI tysL (.o "Journey") (eVar 4))))) (sRet (eC (.bl false))) sPass) t__law_twin_right_4)
instance : Tl t__law_twin_right_2 (sSeq (sIf (bOr (bVal (eEqV "Journey" m_Journey_eq not (eVar 4) (eVar 1))) (bNot (bVal (eIsI tysL (.o "Journey") (eVar 4))))) (sRet (eC (.bl false))) sPass) t__law_twin_right_4) := ⟨rfl⟩
theorem x__law_twin_right : b__law_twin_right = (sSeq (sSet 4 (eMeth cf "Journey" "twin" (callM m_Journey_twin 1 0 1 [(0, 0)] []) (eVar 1) aNil aNil)) t__law_twin_right_2) := rfl
def b__law_undone_right : ES :=
  (sSeq (sPar2 6 7 (aCons (eFn (callM m__law_travel 4 0 4 [(0, 0), (0, 1), (0, 2), (0, 3)] []) (aCons (eVar 0) (aCons (eVar 1) (aCons (eVar 2) (aCons (eVar 3) aNil)))) aNil) (aCons (eFn (newM "Journey" (callM m_Journey_init 4 0 4 [(0, 0), (0, 1), (0, 2), (0, 3)] [.int 10, .int 10])) (aCons (eVar 0) (aCons (eIdxB (eVar 1) (eC (.int 0))) (aCons (eIdxB (eVar 1) (eC (.int 1))) aNil))) aNil) aNil)))
  (sSeq (sSet 4 (eMeth cf "Journey" "twin" (callM m_Journey_twin 1 0 1 [(0, 0)] []) (eVar 6) aNil aNil))
  (sSeq (sFor (itR1 (aCons (eOp addD (eB bLenA (aCons (eVar 2) aNil)) (eB bLenA (aCons (eVar 3) aNil))) aNil)) (pName 5) (sExpr (eMeth cf "Journey" "undo" (callM m_Journey_undo 1 0 1 [(0, 0)] []) (eVar 4) aNil aNil)))
  (sSeq (sIf (bOr (bVal (eEqV "Journey" m_Journey_eq not (eVar 4) (eVar 7))) (bVal (eEqV "Journey" m_Journey_eq not (eVar 6) (eFn (callM m__law_travel 4 0 4 [(0, 0), (0, 1), (0, 2), (0, 3)] []) (aCons (eVar 0) (aCons (eVar 1) (aCons (eVar 2) (aCons (eVar 3) aNil)))) aNil)))) (sRet (eC (.bl false))) sPass)
  (sSeq (sTryN (sFor (itR1 (aCons (eOp addD (eB bLenA (aCons (eVar 2) aNil)) (eB bLenA (aCons (eVar 3) aNil))) aNil)) (pName 5) (sExpr (eMeth cf "Journey" "undo" (callM m_Journey_undo 1 0 1 [(0, 0)] []) (eVar 6) aNil aNil))))
  (sRet (eAnd (eEqV "Journey" m_Journey_eq id (eVar 6) (eVar 7)) (eEqV "Journey" m_Journey_eq id (eVar 4) (eVar 7)))))))))
def m__law_undone_right : Fn := fnM 8 b__law_undone_right
def t__law_undone_right_4 : ES := (sExpr (eMeth cf "Journey" "undo" (callM m_Journey_undo 1 0 1 [(0, 0)] []) (eVar 4) aNil aNil))
instance : Tl t__law_undone_right_4 (sExpr (eMeth cf "Journey" "undo" (callM m_Journey_undo 1 0 1 [(0, 0)] []) (eVar 4) aNil aNil)) := ⟨rfl⟩
def t__law_undone_right_9 : ES := (sExpr (eMeth cf "Journey" "undo" (callM m_Journey_undo 1 0 1 [(0, 0)] []) (eVar 6) aNil aNil))
instance : Tl t__law_undone_right_9 (sExpr (eMeth cf "Journey" "undo" (callM m_Journey_undo 1 0 1 [(0, 0)] []) (eVar 6) aNil aNil)) := ⟨rfl⟩
def t__law_undone_right_12 : ES := (sRet (eAnd (eEqV "Journey" m_Journey_eq id (eVar 6) (eVar 7)) (eEqV "Journey" m_Journey_eq id (eVar 4) (eVar 7))))
instance : Tl t__law_undone_right_12 (sRet (eAnd (eEqV "Journey" m_Journey_eq id (eVar 6) (eVar 7)) (eEqV "Journey" m_Journey_eq id (eVar 4) (eVar 7)))) := ⟨rfl⟩
def t__law_undone_right_7 : ES := (sSeq (sTryN (sFor (itR1 (aCons (eOp addD (eB bLenA (aCons (eVar 2) aNil)) (eB bLenA (aCons (eVar 3) aNil))) aNil)) (pName 5) t__law_undone_right_9)) t__law_undone_right_12)
instance : Tl t__law_undone_right_7 (sSeq (sTryN (sFor (itR1 (aCons (eOp addD (eB bLenA (aCons (eVar 2) aNil)) (eB bLenA (aCons (eVar 3) aNil))) aNil)) (pName 5) t__law_undone_right_9)) t__law_undone_right_12) := ⟨rfl⟩
def t__law_undone_right_5 : ES := (sSeq (sIf (bOr (bVal (eEqV "Journey" m_Journey_eq not (eVar 4) (eVar 7))) (bVal (eEqV "Journey" m_Journey_eq not (eVar 6) (eFn (callM m__law_travel 4 0 4 [(0, 0), (0, 1), (0, 2), (0, 3)] []) (aCons (eVar 0) (aCons (eVar 1) (aCons (eVar 2) (aCons (eVar 3) aNil)))) aNil)))) (sRet (eC (.bl false))) sPass) t__law_undone_right_7)
instance : Tl t__law_undone_right_5 (sSeq (sIf (bOr (bVal (eEqV "Journey" m_Journey_eq not (eVar 4) (eVar 7))) (bVal (eEqV "Journey" m_Journey_eq not (eVar 6) (eFn (callM m__law_travel 4 0 4 [(0, 0), (0, 1), (0, 2), (0, 3)] []) (aCons (eVar 0) (aCons (eVar 1) (aCons (eVar 2) (aCons (eVar 3) aNil)))) aNil)))) (sRet (eC (.bl false))) sPass) t__law_undone_right_7) := ⟨rfl⟩
def t__law_undone_right_3 : ES := (sSeq (sFor (itR1 (aCons (eOp addD (eB bLenA (aCons (eVar 2) aNil)) (eB bLenA (aCons (eVar 3) aNil))) aNil)) (pName 5) t__law_undone_right_4) t__law_undone_right_5)
instance : Tl t__law_undone_right_3 (sSeq (sFor (itR1 (aCons (eOp addD (eB bLenA (aCons (eVar 2) aNil)) (eB bLenA (aCons (eVar 3) aNil))) aNil)) (pName 5) t__law_undone_right_4) t__law_undone_right_5) := ⟨rfl⟩
def t__law_undone_right_2 : ES := (sSeq (sSet 4 (eMeth cf "Journey" "twin" (callM m_Journey_twin 1 0 1 [(0, 0)] []) (eVar 6) aNil aNil)) t__law_undone_right_3)
instance : Tl t__law_undone_right_2 (sSeq (sSet 4 (eMeth cf "Journey" "twin" (callM m_Journey_twin 1 0 1 [(0, 0)] []) (eVar 6) aNil aNil)) t__law_undone_right_3) := ⟨rfl⟩
theorem x__law_undone_right : b__law_undone_right = (sSeq (sPar2 6 7 (aCons (eFn (callM m__law_travel 4 0 4 [(0, 0), (0, 1), (0, 2), (0, 3)] []) (aCons (eVar 0) (aCons (eVar 1) (aCons (eVar 2) (aCons (eVar 3) aNil)))) aNil) (aCons (eFn (newM "Journey" (callM m_Journey_init 4 0 4 [(0, 0), (0, 1), (0, 2), (0, 3)] [.int 10, .int 10])) (aCons (eVar 0) (aCons (eIdxB (eVar 1) (eC (.int 0))) (aCons (eIdxB (eVar 1) (eC (.int 1))) aNil))) aNil) aNil))) t__law_undone_right_2) := rfl
def b_law : ES :=
  (sSeq (sFor (itR1 (aCons (eB bMax2 (aCons (eC (.int 1)) (aCons (eB bMin2 (aCons (eB bLenA (aCons (eVar 0) aNil)) (aCons (eC (.int 2)) aNil))) aNil))) aNil)) (pName 1) (sFor (itR1 (aCons (eC (.int 2)) aNil)) (pName 2) (sSeq (sSet 3 (eFn (callM m__law_box 3 0 3 [(0, 0), (0, 1), (0, 2)] []) (aCons (eVar 0) (aCons (eVar 1) (aCons (eVar 2) aNil))) aNil))
  (sSeq (sPar2 6 7 (aCons (eFn (callM m__law_towns 1 0 1 [(0, 0)] []) (aCons (eVar 3) aNil) aNil) (aCons (eTup (aCons (eFn (callM m__law_take 2 0 2 [(0, 0), (0, 1)] []) (aCons (eVar 3) (aCons (eC (.int 11)) aNil)) aNil) (aCons (eFn (callM m__law_take 2 0 2 [(0, 0), (0, 1)] []) (aCons (eVar 3) (aCons (eC (.int 11)) aNil)) aNil) aNil))) aNil)))
  (sSeq (sSet 4 (eLC [10] (itR1 (aCons (eFn (callM m__law_take 2 0 2 [(0, 0), (0, 1)] []) (aCons (eVar 3) (aCons (eC (.int 13)) aNil)) aNil) aNil)) (pName 10) bYes (eFn (callM m__law_row 2 0 2 [(0, 0), (0, 1)] []) (aCons (eVar 3) (aCons (eB bLenA (aCons (eVar 6) aNil)) aNil)) aNil)))
  (sSeq (sSet 4 (eLC [11] (itAny (eVar 4)) (pName 11) (bVal (eOp ltA (eIdxB (eVar 11) (eC (.int 2))) (eB bLenA (aCons (eVar 6) aNil)))) (eVar 11)))
  (sSeq (sSet 5 (eLC [10] (itR1 (aCons (eFn (callM m__law_take 2 0 2 [(0, 0), (0, 1)] []) (aCons (eVar 3) (aCons (eC (.int 5)) aNil)) aNil) aNil)) (pName 10) bYes (eOp addD (eC (.int 1)) (eFn (callM m__law_take 2 0 2 [(0, 0), (0, 1)] []) (aCons (eVar 3) (aCons (eC (.int 9)) aNil)) aNil))))
  (sSeq (sPar2 8 9 (aCons (eFn (callM m__law_among 5 0 5 [(0, 0), (0, 1), (0, 2), (0, 3), (0, 4)] []) (aCons (eVar 3) (aCons (eVar 6) (aCons (eVar 7) (aCons (eVar 4) (aCons (eVar 5) aNil))))) aNil) (aCons (eFn (callM m__law_among 5 0 5 [(0, 0), (0, 1), (0, 2), (0, 3), (0, 4)] []) (aCons (eVar 3) (aCons (eVar 6) (aCons (eVar 7) (aCons (eVar 4) (aCons (eVar 5) aNil))))) aNil) aNil)))
  (sSeq (sIf (bOr (bVal (eEqV "Journey" m_Journey_eq not (eVar 8) (eVar 9))) (bOr (bVal (eEqA tab_0 cls_0 not (eMeth cf "Journey" "lines" (callM m_Journey_lines 1 0 1 [(0, 0)] []) (eVar 8) aNil aNil) (eMeth cf "Journey" "lines" (callM m_Journey_lines 1 0 1 [(0, 0)] []) (eVar 9) aNil aNil))) (bVal (eOpS neD (eMeth cf "Journey" "twins" (callM m_Journey_twins 1 0 1 [(0, 0)] []) (eVar 8) aNil aNil) (eMeth cf "Journey" "twins" (callM m_Journey_twins 1 0 1 [(0, 0)] []) (eVar 9) aNil aNil))))) (sRet (eC (.bl false))) sPass)
  (sSeq (sExpr (eApp (eMeth cf "Journey" "lines" (callM m_Journey_lines 1 0 1 [(0, 0)] []) (eVar 8) aNil aNil) (eC .non)))
  (sSeq (sExpr (eApp (eMeth cf "Journey" "twins" (callM m_Journey_twins 1 0 1 [(0, 0)] []) (eVar 8) aNil aNil) (eC (.int 0))))
  (sSeq (sExpr (eL0 clrM (eMeth cf "Journey" "lines" (callM m_Journey_lines 1 0 1 [(0, 0)] []) (eVar 9) aNil aNil)))
  (sSeq (sIf (bOr (bVal (eEqV "Journey" m_Journey_eq not (eVar 8) (eVar 9))) (bOr (bVal (eEqV "Journey" m_Journey_eq not (eVar 8) (eFn (callM m__law_travel 4 0 4 [(0, 0), (0, 1), (0, 2), (0, 3)] []) (aCons (eVar 6) (aCons (eVar 7) (aCons (eVar 4) (aCons (eVar 5) aNil)))) aNil))) (bVal (eOp neD (eBS bLenA (aCons (eMeth cf "Journey" "lines" (callM m_Journey_lines 1 0 1 [(0, 0)] []) (eVar 8) aNil aNil) aNil)) (eB bLenA (aCons (eVar 4) aNil)))))) (sRet (eC (.bl false))) sPass)
  (sSeq (sIf (bNot (bVal (eFn (callM m__law_unlike_right 6 0 6 [(0, 0), (0, 1), (0, 2), (0, 3), (0, 4), (0, 5)] []) (aCons (eVar 3) (aCons (eVar 8) (aCons (eVar 6) (aCons (eVar 7) (aCons (eVar 4) (aCons (eVar 5) aNil)))))) aNil))) (sRet (eC (.bl false))) sPass)
  (sIf (bOr (bNot (bVal (eFn (callM m__law_twin_right 4 0 4 [(0, 0), (0, 1), (0, 2), (0, 3)] []) (aCons (eVar 3) (aCons (eVar 8) (aCons (eVar 9) (aCons (eVar 4) aNil)))) aNil))) (bNot (bVal (eFn (callM m__law_undone_right 4 0 4 [(0, 0), (0, 1), (0, 2), (0, 3)] []) (aCons (eVar 6) (aCons (eVar 7) (aCons (eVar 4) (aCons (eVar 5) aNil)))) aNil)))) (sRet (eC (.bl false))) sPass)))))))))))))))
  (sRet (eC (.bl true))))
def m_law : Fn := fnM 12 b_law
def t_law_18 : ES := (sIf (bOr (bNot (bVal (eFn (callM m__law_twin_right 4 0 4 [(0, 0), (0, 1), (0, 2), (0, 3)] []) (aCons (eVar 3) (aCons (eVar 8) (aCons (eVar 9) (aCons (eVar 4) aNil)))) aNil))) (bNot (bVal (eFn (callM m__law_undone_right 4 0 4 [(0, 0), (0, 1), (0, 2), (0, 3)] []) (aCons (eVar 6) (aCons (eVar 7) (aCons (eVar 4) (aCons (eVar 5) aNil)))) aNil)))) (sRet (eC (.bl false))) sPass)
instance : Tl t_law_18 (sIf (bOr (bNot (bVal (eFn (callM m__law_twin_right 4 0 4 [(0, 0), (0, 1), (0, 2), (0, 3)] []) (aCons (eVar 3) (aCons (eVar 8) (aCons (eVar 9) (aCons (eVar 4) aNil)))) aNil))) (bNot (bVal (eFn (callM m__law_undone_right 4 0 4 [(0, 0), (0, 1), (0, 2), (0, 3)] []) (aCons (eVar 6) (aCons (eVar 7) (aCons (eVar 4) (aCons (eVar 5) aNil)))) aNil)))) (sRet (eC (.bl false))) sPass) := ⟨rfl⟩
def t_law_16 : ES := (sSeq (sIf (bNot (bVal (eFn (callM m__law_unlike_right 6 0 6 [(0, 0), (0, 1), (0, 2), (0, 3), (0, 4), (0, 5)] []) (aCons (eVar 3) (aCons (eVar 8) (aCons (eVar 6) (aCons (eVar 7) (aCons (eVar 4) (aCons (eVar 5) aNil)))))) aNil))) (sRet (eC (.bl false))) sPass) t_law_18)
instance : Tl t_law_16 (sSeq (sIf (bNot (bVal (eFn (callM m__law_unlike_right 6 0 6 [(0, 0), (0, 1), (0, 2), (0, 3), (0, 4), (0, 5)] []) (aCons (eVar 3) (aCons (eVar 8) (aCons (eVar 6) (aCons (eVar 7) (aCons (eVar 4) (aCons (eVar 5) aNil)))))) aNil))) (sRet (eC (.bl false))) sPass) t_law_18) := ⟨rfl⟩
def t_law_14 : ES := (sSeq (sIf (bOr (bVal (eEqV "Journey" m_Journey_eq not (eVar 8) (eVar 9))) (bOr (bVal (eEqV "Journey" m_Journey_eq not (eVar 8) (eFn (callM m__law_travel 4 0 4 [(0, 0), (0, 1), (0, 2), (0, 3)] []) (aCons (eVar 6) (aCons (eVar 7) (aCons (eVar 4) (aCons (eVar 5) aNil)))) aNil))) (bVal (eOp neD (eBS bLenA (aCons (eMeth cf "Journey" "lines" (callM m_Journey_lines 1 0 1 [(0, 0)] []) (eVar 8) aNil aNil) aNil)) (eB bLenA (aCons (eVar 4) aNil)))))) (sRet (eC (.bl false))) sPass) t_law_16)
instance : Tl t_law_14 (sSeq (sIf (bOr (bVal (eEqV "Journey" m_Journey_eq not (eVar 8) (eVar 9))) (bOr (bVal (eEqV "Journey" m_Journey_eq not (eVar 8) (eFn (callM m__law_travel 4 0 4 [(0, 0), (0, 1), (0, 2), (0, 3)] []) (aCons (eVar 6) (aCons (eVar 7) (aCons (eVar 4) (aCons (eVar 5) aNil)))) aNil))) (bVal (eOp neD (eBS bLenA (aCons (eMeth cf "Journey" "lines" (callM m_Journey_lines 1 0 1 [(0, 0)] []) (eVar 8) aNil aNil) aNil)) (eB bLenA (aCons (eVar 4) aNil)))))) (sRet (eC (.bl false))) sPass) t_law_16) := ⟨rfl⟩
def t_law_13 : ES := (sSeq (sExpr (eL0 clrM (eMeth cf "Journey" "lines" (callM m_Journey_lines 1 0 1 [(0, 0)] []) (eVar 9) aNil aNil))) t_law_14)
instance : Tl t_law_13 (sSeq (sExpr (eL0 clrM (eMeth cf "Journey" "lines" (callM m_Journey_lines 1 0 1 [(0, 0)] []) (eVar 9) aNil aNil))) t_law_14) := ⟨rfl⟩
def t_law_12 : ES := (sSeq (sExpr (eApp (eMeth cf "Journey" "twins" (callM m_Journey_twins 1 0 1 [(0, 0)] []) (eVar 8) aNil aNil) (eC (.int 0)))) t_law_13)
instance : Tl t_law_12 (sSeq (sExpr (eApp (eMeth cf "Journey" "twins" (callM m_Journey_twins 1 0 1 [(0, 0)] []) (eVar 8) aNil aNil) (eC (.int 0)))) t_law_13) := ⟨rfl⟩
def t_law_11 : ES := (sSeq (sExpr (eApp (eMeth cf "Journey" "lines" (callM m_Journey_lines 1 0 1 [(0, 0)] []) (eVar 8) aNil aNil) (eC .non))) t_law_12)
instance : Tl t_law_11 (sSeq (sExpr (eApp (eMeth cf "Journey" "lines" (callM m_Journey_lines 1 0 1 [(0, 0)] []) (eVar 8) aNil aNil) (eC .non))) t_law_12) := ⟨rfl⟩
def t_law_9 : ES := (sSeq (sIf (bOr (bVal (eEqV "Journey" m_Journey_eq not (eVar 8) (eVar 9))) (bOr (bVal (eEqA tab_0 cls_0 not (eMeth cf "Journey" "lines" (callM m_Journey_lines 1 0 1 [(0, 0)] []) (eVar 8) aNil aNil) (eMeth cf "Journey" "lines" (callM m_Journey_lines 1 0 1 [(0, 0)] []) (eVar 9) aNil aNil))) (bVal (eOpS neD (eMeth cf "Journey" "twins" (callM m_Journey_twins 1 0 1 [(0, 0)] []) (eVar 8) aNil aNil) (eMeth cf "Journey" "twins" (callM m_Journey_twins 1 0 1 [(0, 0)] []) (eVar 9) aNil aNil))))) (sRet (eC (.bl false))) sPass) t_law_11)
instance : Tl t_law_9 (sSeq (sIf (bOr (bVal (eEqV "Journey" m_Journey_eq not (eVar 8) (eVar 9))) (bOr (bVal (eEqA tab_0 cls_0 not (eMeth cf "Journey" "lines" (callM m_Journey_lines 1 0 1 [(0, 0)] []) (eVar 8) aNil aNil) (eMeth cf "Journey" "lines" (callM m_Journey_lines 1 0 1 [(0, 0)] []) (eVar 9) aNil aNil))) (bVal (eOpS neD (eMeth cf "Journey" "twins" (callM m_Journey_twins 1 0 1 [(0, 0)] []) (eVar 8) aNil aNil) (eMeth cf "Journey" "twins" (callM m_Journey_twins 1 0 1 [(0, 0)] []) (eVar 9) aNil aNil))))) (sRet (eC (.bl false))) sPass) t_law_11) := ⟨rfl⟩
def t_law_8 : ES := (sSeq (sPar2 8 9 (aCons (eFn (callM m__law_among 5 0 5 [(0, 0), (0, 1), (0, 2), (0, 3), (0, 4)] []) (aCons (eVar 3) (aCons (eVar 6) (aCons (eVar 7) (aCons (eVar 4) (aCons (eVar 5) aNil))))) aNil) (aCons (eFn (callM m__law_among 5 0 5 [(0, 0), (0, 1), (0, 2), (0, 3), (0, 4)] []) (aCons (eVar 3) (aCons (eVar 6) (aCons (eVar 7) (aCons (eVar 4) (aCons (eVar 5) aNil))))) aNil) aNil))) t_law_9)
instance : Tl t_law_8 (sSeq (sPar2 8 9 (aCons (eFn (callM m__law_among 5 0 5 [(0, 0), (0, 1), (0, 2), (0, 3), (0, 4)] []) (aCons (eVar 3) (aCons (eVar 6) (aCons (eVar 7) (aCons (eVar 4) (aCons (eVar 5) aNil))))) aNil) (aCons (eFn (callM m__law_among 5 0 5 [(0, 0), (0, 1), (0, 2), (0, 3), (0, 4)] []) (aCons (eVar 3) (aCons (eVar 6) (aCons (eVar 7) (aCons (eVar 4) (aCons (eVar 5) aNil))))) aNil) aNil))) t_law_9) := ⟨rfl⟩
def t_law_7 : ES := (sSeq (sSet 5 (eLC [10] (itR1 (aCons (eFn (callM m__law_take 2 0 2 [(0, 0), (0, 1)] []) (aCons (eVar 3) (aCons (eC (.int 5)) aNil)) aNil) aNil)) (pName 10) bYes (eOp addD (eC (.int 1)) (eFn (callM m__law_take 2 0 2 [(0, 0), (0, 1)] []) (aCons (eVar 3) (aCons (eC (.int 9)) aNil)) aNil)))) t_law_8)
instance : Tl t_law_7 (sSeq (sSet 5 (eLC [10] (itR1 (aCons (eFn (callM m__law_take 2 0 2 [(0, 0), (0, 1)] []) (aCons (eVar 3) (aCons (eC (.int 5)) aNil)) aNil) aNil)) (pName 10) bYes (eOp addD (eC (.int 1)) (eFn (callM m__law_take 2 0 2 [(0, 0), (0, 1)] []) (aCons (eVar 3) (aCons (eC (.int 9)) aNil)) aNil)))) t_law_8) := ⟨rfl⟩
def t_law_6 : ES := (sSeq (sSet 4 (eLC [11] (itAny (eVar 4)) (pName 11) (bVal (eOp ltA (eIdxB (eVar 11) (eC (.int 2))) (eB bLenA (aCons (eVar 6) aNil)))) (eVar 11))) t_law_7)
instance : Tl t_law_6 (sSeq (sSet 4 (eLC [11] (itAny (eVar 4)) (pName 11) (bVal (eOp ltA (eIdxB (eVar 11) (eC (.int 2))) (eB bLenA (aCons (eVar 6) aNil)))) (eVar 11))) t_law_7) := ⟨rfl⟩
def t_law_5 : ES := (sSeq (sSet 4 (eLC [10] (itR1 (aCons (eFn (callM m__law_take 2 0 2 [(0, 0), (0, 1)] []) (aCons (eVar 3) (aCons (eC (.int 13)) aNil)) aNil) aNil)) (pName 10) bYes (eFn (callM m__law_row 2 0 2 [(0, 0), (0, 1)] []) (aCons (eVar 3) (aCons (eB bLenA (aCons (eVar 6) aNil)) aNil)) aNil))) t_law_6)
instance : Tl t_law_5 (sSeq (sSet 4 (eLC [10] (itR1 (aCons (eFn (callM m__law_take 2 0 2 [(0, 0), (0, 1)] []) (aCons (eVar 3) (aCons (eC (.int 13)) aNil)) aNil) aNil)) (pName 10) bYes (eFn (callM m__law_row 2 0 2 [(0, 0), (0, 1)] []) (aCons (eVar 3) (aCons (eB bLenA (aCons (eVar 6) aNil)) aNil)) aNil))) t_law_6) := ⟨rfl⟩
def t_law_4 : ES := (sSeq (sPar2 6 7 (aCons (eFn (callM m__law_towns 1 0 1 [(0, 0)] []) (aCons (eVar 3) aNil) aNil) (aCons (eTup (aCons (eFn (callM m__law_take 2 0 2 [(0, 0), (0, 1)] []) (aCons (eVar 3) (aCons (eC (.int 11)) aNil)) aNil) (aCons (eFn (callM m__law_take 2 0 2 [(0, 0), (0, 1)] []) (aCons (eVar 3) (aCons (eC (.int 11)) aNil)) aNil) aNil))) aNil))) t_law_5)
instance : Tl t_law_4 (sSeq (sPar2 6 7 (aCons (eFn (callM m__law_towns 1 0 1 [(0, 0)] []) (aCons (eVar 3) aNil) aNil) (aCons (eTup (aCons (eFn (callM m__law_take 2 0 2 [(0, 0), (0, 1)] []) (aCons (eVar 3) (aCons (eC (.int 11)) aNil)) aNil) (aCons (eFn (callM m__law_take 2 0 2 [(0, 0), (0, 1)] []) (aCons (eVar 3) (aCons (eC (.int 11)) aNil)) aNil) aNil))) aNil))) t_law_5) := ⟨rfl⟩
def t_law_3 : ES := (sSeq (sSet 3 (eFn (callM m__law_box 3 0 3 [(0, 0), (0, 1), (0, 2)] []) (aCons (eVar 0) (aCons (eVar 1) (aCons (eVar 2) aNil))) aNil)) t_law_4)
instance : Tl t_law_3 (sSeq (sSet 3 (eFn (callM m__law_box 3 0 3 [(0, 0), (0, 1), (0, 2)] []) (aCons (eVar 0) (aCons (eVar 1) (aCons (eVar 2) aNil))) aNil)) t_law_4) := ⟨rfl⟩
def t_law_2 : ES := (sFor (itR1 (aCons (eC (.int 2)) aNil)) (pName 2) t_law_3)
instance : Tl t_law_2 (sFor (itR1 (aCons (eC (.int 2)) aNil)) (pName 2) t_law_3) := ⟨rfl⟩
def t_law_20 : ES := (sRet (eC (.bl true)))
instance : Tl t_law_20 (sRet (eC (.bl true))) := ⟨rfl⟩
theorem x_law : b_law = (sSeq (sFor (itR1 (aCons (eB bMax2 (aCons (eC (.int 1)) (aCons (eB bMin2 (aCons (eB bLenA (aCons (eVar 0) aNil)) (aCons (eC (.int 2)) aNil))) aNil))) aNil)) (pName 1) t_law_2) t_law_20) := rfl
def top (i : Nat) : Stmt := (PySem.Challenge.pw_roadpence_k33_whole_journeys_in_any_orde).main.body.getD i (.Pass ⟨0, 0, 0, 0⟩)
def clsBody : Stmt → List Stmt
  | .ClassDef _ _ _ b _ _ _ _ _ _ _ => b
  | _ => []
abbrev meth (i j : Nat) : Stmt := (clsBody (top i)).getD j (.Pass ⟨0, 0, 0, 0⟩)
def d__law_cell : He.DefD := ⟨("_law_cell", none), "_law_cell", "_law_cell", defArgs (top 33), defBody (top 33), defScope (top 33), [], []⟩
def d__law_mix : He.DefD := ⟨("_law_mix", none), "_law_mix", "_law_mix", defArgs (top 34), defBody (top 34), defScope (top 34), [], []⟩
def d__law_box : He.DefD := ⟨("_law_box", none), "_law_box", "_law_box", defArgs (top 35), defBody (top 35), defScope (top 35), [], []⟩
def d__law_take : He.DefD := ⟨("_law_take", none), "_law_take", "_law_take", defArgs (top 36), defBody (top 36), defScope (top 36), [], []⟩
def d__law_towns : He.DefD := ⟨("_law_towns", none), "_law_towns", "_law_towns", defArgs (top 40), defBody (top 40), defScope (top 40), [], []⟩
def d__law_sorts : He.DefD := ⟨("_law_sorts", none), "_law_sorts", "_law_sorts", defArgs (top 37), defBody (top 37), defScope (top 37), [], []⟩
def d__law_row : He.DefD := ⟨("_law_row", none), "_law_row", "_law_row", defArgs (top 38), defBody (top 38), defScope (top 38), [], []⟩
def d_is_whole : He.DefD := ⟨("is_whole", none), "is_whole", "is_whole", defArgs (top 17), defBody (top 17), defScope (top 17), [], []⟩
def d_are_towns : He.DefD := ⟨("are_towns", none), "are_towns", "are_towns", defArgs (top 29), defBody (top 29), defScope (top 29), [], []⟩
def d_NoJourney_init : He.DefD := ⟨("NoJourney", some "__init__"), "__init__", "NoJourney.__init__", defArgs (meth 7 0), defBody (meth 7 0), defScope (meth 7 0), [], []⟩
def d_Journey_init : He.DefD := ⟨("Journey", some "__init__"), "__init__", "Journey.__init__", defArgs (meth 31 0), defBody (meth 31 0), defScope (meth 31 0), [.int 10, .int 10], []⟩
def d__law_mixed : He.DefD := ⟨("_law_mixed", none), "_law_mixed", "_law_mixed", defArgs (top 42), defBody (top 42), defScope (top 42), [], []⟩
def d_NoDay_init : He.DefD := ⟨("NoDay", some "__init__"), "__init__", "NoDay.__init__", defArgs (meth 9 0), defBody (meth 9 0), defScope (meth 9 0), [], []⟩
def d_Journey_town_on : He.DefD := ⟨("Journey", some "town_on"), "town_on", "Journey.town_on", defArgs (meth 31 10), defBody (meth 31 10), defScope (meth 31 10), [], []⟩
def d_TooMany_init : He.DefD := ⟨("TooMany", some "__init__"), "__init__", "TooMany.__init__", defArgs (meth 8 0), defBody (meth 8 0), defScope (meth 8 0), [], []⟩
def d_order_of : He.DefD := ⟨("order_of", none), "order_of", "order_of", defArgs (top 30), defBody (top 30), defScope (top 30), [], []⟩
def d_Journey_become : He.DefD := ⟨("Journey", some "become"), "become", "Journey.become", defArgs (meth 31 3), defBody (meth 31 3), defScope (meth 31 3), [], []⟩
def d_Journey_spend : He.DefD := ⟨("Journey", some "spend"), "spend", "Journey.spend", defArgs (meth 31 4), defBody (meth 31 4), defScope (meth 31 4), [], []⟩
def d_is_kind : He.DefD := ⟨("is_kind", none), "is_kind", "is_kind", defArgs (top 18), defBody (top 18), defScope (top 18), [], []⟩
def d_NoSpending_init : He.DefD := ⟨("NoSpending", some "__init__"), "__init__", "NoSpending.__init__", defArgs (meth 6 0), defBody (meth 6 0), defScope (meth 6 0), [], []⟩
def d_NoHeads_init : He.DefD := ⟨("NoHeads", some "__init__"), "__init__", "NoHeads.__init__", defArgs (meth 10 0), defBody (meth 10 0), defScope (meth 10 0), [], []⟩
def d_Spending_init : He.DefD := ⟨("Spending", some "__init__"), "__init__", "Spending.__init__", defArgs (meth 20 0), defBody (meth 20 0), defScope (meth 20 0), [.int 0, .bl true, .int 1, .int 0], []⟩
def d_Spending_all_parts : He.DefD := ⟨("Spending", some "all_parts"), "all_parts", "Spending.all_parts", defArgs (meth 20 1), defBody (meth 20 1), defScope (meth 20 1), [], []⟩
def d_Spending_eq : He.DefD := ⟨("Spending", some "__eq__"), "__eq__", "Spending.__eq__", defArgs (meth 20 2), defBody (meth 20 2), defScope (meth 20 2), [], []⟩
def d_Journey_undo : He.DefD := ⟨("Journey", some "undo"), "undo", "Journey.undo", defArgs (meth 31 7), defBody (meth 31 7), defScope (meth 31 7), [], []⟩
def d_Journey_strike : He.DefD := ⟨("Journey", some "strike"), "strike", "Journey.strike", defArgs (meth 31 5), defBody (meth 31 5), defScope (meth 31 5), [], []⟩
def d__law_spent : He.DefD := ⟨("_law_spent", none), "_law_spent", "_law_spent", defArgs (top 39), defBody (top 39), defScope (top 39), [], []⟩
def d_Journey_had : He.DefD := ⟨("Journey", some "had"), "had", "Journey.had", defArgs (meth 31 6), defBody (meth 31 6), defScope (meth 31 6), [], []⟩
def d__law_among : He.DefD := ⟨("_law_among", none), "_law_among", "_law_among", defArgs (top 43), defBody (top 43), defScope (top 43), [], []⟩
def d_Journey_eq : He.DefD := ⟨("Journey", some "__eq__"), "__eq__", "Journey.__eq__", defArgs (meth 31 2), defBody (meth 31 2), defScope (meth 31 2), [], []⟩
def d_Journey_lines : He.DefD := ⟨("Journey", some "lines"), "lines", "Journey.lines", defArgs (meth 31 9), defBody (meth 31 9), defScope (meth 31 9), [], []⟩
def d_are_twins : He.DefD := ⟨("are_twins", none), "are_twins", "are_twins", defArgs (top 21), defBody (top 21), defScope (top 21), [], []⟩
def d_Journey_twins : He.DefD := ⟨("Journey", some "twins"), "twins", "Journey.twins", defArgs (meth 31 11), defBody (meth 31 11), defScope (meth 31 11), [], []⟩
def d__law_travel : He.DefD := ⟨("_law_travel", none), "_law_travel", "_law_travel", defArgs (top 41), defBody (top 41), defScope (top 41), [], []⟩
def d__law_unlike_right : He.DefD := ⟨("_law_unlike_right", none), "_law_unlike_right", "_law_unlike_right", defArgs (top 44), defBody (top 44), defScope (top 44), [], []⟩
def d_Journey_twin : He.DefD := ⟨("Journey", some "twin"), "twin", "Journey.twin", defArgs (meth 31 8), defBody (meth 31 8), defScope (meth 31 8), [], []⟩
def d_Journey_len : He.DefD := ⟨("Journey", some "__len__"), "__len__", "Journey.__len__", defArgs (meth 31 1), defBody (meth 31 1), defScope (meth 31 1), [], []⟩
def d__law_twin_right : He.DefD := ⟨("_law_twin_right", none), "_law_twin_right", "_law_twin_right", defArgs (top 45), defBody (top 45), defScope (top 45), [], []⟩
def d__law_undone_right : He.DefD := ⟨("_law_undone_right", none), "_law_undone_right", "_law_undone_right", defArgs (top 46), defBody (top 46), defScope (top 46), [], []⟩
def d_law : He.DefD := ⟨("law", none), "law", "law", defArgs (top 47), defBody (top 47), defScope (top 47), [], []⟩
def lw : Lw where
  glo := ["Absent", "Journey", "KINDS", "NoDay", "NoHeads", "NoJourney", "NoShare", "NoSpending", "Nothing", "PenceError", "Spending", "TooMany", "_law_among", "_law_box", "_law_cell", "_law_mix", "_law_mixed", "_law_row", "_law_sorts", "_law_spent", "_law_take", "_law_towns", "_law_travel", "_law_twin_right", "_law_undone_right", "_law_unlike_right", "are_towns", "are_twins", "is_kind", "is_whole", "law", "order_of"]
  free := ["IndexError", "ZeroDivisionError", "abs", "all", "any", "bool", "divmod", "enumerate", "int", "isinstance", "len", "list", "max", "min", "range", "sorted", "str", "tuple"]
  gins := [("LAST_DAY", 59), ("LAST_MONEY", 3), ("LAST_TOWN", 3), ("MOST_AMOUNT", 1000000), ("MOST_DAYS", 30), ("MOST_HAD", 1000000000), ("MOST_HEADS", 6), ("MOST_LINES", 40), ("MOST_SUMS", 10), ("TENTHS", 10)]
  cls := ["Journey", "Spending"]
  noat := [("Journey", "own_ends"), ("Journey", "own_lines"), ("Journey", "own_past"), ("Journey", "own_sums"), ("Journey", "own_towns"), ("Spending", "amount"), ("Spending", "day"), ("Spending", "heads"), ("Spending", "kind"), ("Spending", "money"), ("Spending", "paper")]
  meth := [("Journey", "__eq__"), ("Journey", "__len__"), ("Journey", "become"), ("Journey", "had"), ("Journey", "lines"), ("Journey", "spend"), ("Journey", "strike"), ("Journey", "town_on"), ("Journey", "twin"), ("Journey", "twins"), ("Journey", "undo"), ("Spending", "__eq__"), ("Spending", "all_parts")]
  mkr := ["Journey", "Spending"]
  isi := ["Journey", "Spending"]
  kit := [(.b "NoneType", .b "bool"), (.b "NoneType", .b "int"), (.b "NoneType", .b "str"), (.b "NoneType", .b "tuple"), (.b "NoneType", .o "Journey"), (.b "NoneType", .o "Spending"), (.b "bool", .b "bool"), (.b "bool", .b "int"), (.b "bool", .b "str"), (.b "bool", .b "tuple"), (.b "bool", .o "Journey"), (.b "bool", .o "Spending"), (.b "dict", .b "bool"), (.b "dict", .b "int"), (.b "dict", .b "str"), (.b "dict", .b "tuple"), (.b "dict", .o "Journey"), (.b "dict", .o "Spending"), (.b "int", .b "bool"), (.b "int", .b "int"), (.b "int", .b "str"), (.b "int", .b "tuple"), (.b "int", .o "Journey"), (.b "int", .o "Spending"), (.b "list", .b "bool"), (.b "list", .b "int"), (.b "list", .b "str"), (.b "list", .b "tuple"), (.b "list", .o "Journey"), (.b "list", .o "Spending"), (.b "str", .b "bool"), (.b "str", .b "int"), (.b "str", .b "str"), (.b "str", .b "tuple"), (.b "str", .o "Journey"), (.b "str", .o "Spending"), (.b "tuple", .b "bool"), (.b "tuple", .b "int"), (.b "tuple", .b "str"), (.b "tuple", .b "tuple"), (.b "tuple", .o "Journey"), (.b "tuple", .o "Spending"), (.o "Journey", .b "bool"), (.o "Journey", .b "int"), (.o "Journey", .b "str"), (.o "Journey", .b "tuple"), (.o "Journey", .o "Journey"), (.o "Journey", .o "Spending"), (.o "Spending", .b "bool"), (.o "Spending", .b "int"), (.o "Spending", .b "str"), (.o "Spending", .b "tuple"), (.o "Spending", .o "Journey"), (.o "Spending", .o "Spending")]
  tups := [("KINDS", [.str "bed", .str "fee", .str "meal", .str "ride", .str "sundry"])]
  defs := [d__law_cell, d__law_mix, d__law_box, d__law_take, d__law_towns, d__law_sorts, d__law_row, d_is_whole, d_are_towns, d_NoJourney_init, d_Journey_init, d__law_mixed, d_NoDay_init, d_Journey_town_on, d_TooMany_init, d_order_of, d_Journey_become, d_Journey_spend, d_is_kind, d_NoSpending_init, d_NoHeads_init, d_Spending_init, d_Spending_all_parts, d_Spending_eq, d_Journey_undo, d_Journey_strike, d__law_spent, d_Journey_had, d__law_among, d_Journey_eq, d_Journey_lines, d_are_twins, d_Journey_twins, d__law_travel, d__law_unlike_right, d_Journey_twin, d_Journey_len, d__law_twin_right, d__law_undone_right, d_law]
  bs := [xiB "NoJourney" btVE "ValueError.__new__" ["part"], ownBaseB "PenceError" "ValueError.__init__", xiB "NoDay" btIE "IndexError.__new__" ["day"], initIsB (.type "IndexError") "IndexError.__init__", xiB "TooMany" btVE "ValueError.__new__" ["many", "most"], xiB "NoSpending" btVE "ValueError.__new__" ["part"], xiB "NoHeads" btZE "ZeroDivisionError.__new__" ["heads"], initIsB (.type "ZeroDivisionError") "ZeroDivisionError.__init__", fun K => decide (PySem.W.findIn K (.ref (He.ga K ("Spending" : PySem.Str))) "__ne__" = some (some (.builtin "object.__ne__"))), fun K => decide (PySem.W.mroIn K (He.ga K ("Spending" : PySem.Str)) (.type "object") = some true), fun K => decide (∀ c ∈ (["Spending"] : List String), ∀ c' ∈ (["Spending"] : List String), He.ga K (c : PySem.Str) = He.ga K (c' : PySem.Str) → c = c'), fun K => (["Spending"] : List String).all fun c => tyNs.all fun t => PySem.W.notFirst K (He.ga K (c : PySem.Str)) (.type t), fun K => (["Spending"] : List String).all fun c => (["Spending"] : List String).all fun c' => PySem.W.notFirst K (He.ga K (c : PySem.Str)) (.ref (He.ga K (c' : PySem.Str))), fun K => (["Spending"] : List String).all fun c => tyNs.all fun t => decide (PySem.W.subIn K (.ref (He.ga K (c : PySem.Str))) (.type t) = some false), fun K => decide (PySem.W.findIn K (.ref (He.ga K ("Journey" : PySem.Str))) "__ne__" = some (some (.builtin "object.__ne__"))), fun K => decide (PySem.W.mroIn K (He.ga K ("Journey" : PySem.Str)) (.type "object") = some true)]
  fas := [.exc "Nothing", .exc "Absent", .exc "NoShare"]
section
variable {T : Tb} {P : Program} {w : World} {mg : Str → Option Value} {base : Heap}
theorem He_exc (F : Fx T mg lw) (i : Nat) {f : He.Fa} (h : lw.fas[i]? = some f := by rfl) : f.ok T.K = true := F.fa i h
theorem nd__law_cell : (["_law_script", "_law_k"] : List Str).Nodup := by decide +kernel
theorem sc__law_cell : FnScope ["_law_script", "_law_k"] ["_law_script", "_law_k"] d__law_cell.scope := ⟨rfl, rfl, rfl, nd__law_cell, rfl, by decide +kernel, by decide +kernel⟩
theorem ok__law_cell (F : Fx T mg lw) (hcf : T.cf = cf) : OkF T P w mg base 1 d__law_cell ["_law_script", "_law_k"] m__law_cell := by
  obtain ⟨fd, FD⟩ := F.defs 0 d__law_cell rfl
  refine OkF.mk' (N := ["_law_script", "_law_k"]) FD sc__law_cell fun cdv A outer s H E hr => ?_
  show ISs T E _ (defBody (top 33)) b__law_cell
  exact (is_cons (is_if (ib_cmp (oi_ltA (by rfl) (by exact hr.rm.units0)) (ie_v 1) (ie_b (by exact call_len) bo_lenA (by rfl) (by exact F.f "len") (by decide +kernel) (ia_cons (ie_v 0) ia_nil)) (by rfl)) (is_one (is_ret (ie_idxB (by rfl) (by exact hu1 hr) (ie_v 0) (ie_v 1)))) is_nil)
  (is_one (is_ret ie_int)))
theorem kb__law_cell_0 (fd : FuncData) (FD : FunD T.K d__law_cell.name d__law_cell.qual d__law_cell.params d__law_cell.body d__law_cell.scope (d__law_cell.dvs T.K) [] (He.fAd T.K d__law_cell.at_) fd) : KBD T fd ["_law_script", "_law_k"] 2 [] [(0, 0), (0, 1)] [] :=
  kbd_n FD fun kV doc pm an cdv ct us ws h1 h2 => match us, ws, h1, h2 with | [_, _], [], _, _ => rfl
theorem nd__law_mix : (["_law_cell_here", "_law_k", "_law_some", "_law_stir"] : List Str).Nodup := by decide +kernel
theorem sc__law_mix : FnScope ["_law_cell_here", "_law_k", "_law_some", "_law_stir"] ["_law_cell_here", "_law_k"] d__law_mix.scope := ⟨rfl, rfl, rfl, nd__law_mix, rfl, by decide +kernel, by decide +kernel⟩
theorem ok__law_mix (F : Fx T mg lw) (hcf : T.cf = cf) : OkF T P w mg base 1 d__law_mix ["_law_cell_here", "_law_k"] m__law_mix := by
  obtain ⟨fd, FD⟩ := F.defs 1 d__law_mix rfl
  refine OkF.mk' (N := ["_law_cell_here", "_law_k", "_law_some", "_law_stir"]) FD sc__law_mix fun cdv A outer s H E hr => ?_
  show ISs T E _ (defBody (top 34)) b__law_mix
  exact (is_cons (is_st 2 nd__law_mix (ie_lst (ia_cons ie_int (ia_cons ie_int (ia_cons ie_int (ia_cons ie_int (ia_cons ie_int (ia_cons ie_int (ia_cons ie_int (ia_cons ie_int (ia_cons ie_int (ia_cons ie_int (ia_cons ie_int (ia_cons ie_int (ia_cons ie_int ia_nil)))))))))))))))
  (is_cons (is_st 3 nd__law_mix (ie_op (oi_mul) (ie_op (oi_add (by rfl)) (ie_op (oi_mod) (ie_v 0) ie_int) ie_int) (ie_idxB (by rfl) (by exact hu1 hr) (ie_v 2) (ie_op (oi_mod) (ie_v 1) ie_int))))
  (is_cons (is_st 3 nd__law_mix (ie_op (oi_add (by rfl)) (ie_op (oi_add (by rfl)) (ie_v 3) (ie_op (oi_mul) ie_int (ie_v 1))) (ie_op (oi_mul) ie_int (ie_op (oi_fdiv) (ie_v 1) ie_int))))
  (is_cons (is_st 3 nd__law_mix (ie_op (oi_mod) (ie_v 3) ie_int))
  (is_one (is_ret (ie_op (oi_fdiv) (ie_op (oi_mod) (ie_op (oi_add (by rfl)) (ie_op (oi_mul) (ie_v 3) (ie_v 3)) (ie_op (oi_mul) ie_int (ie_v 1))) ie_int) ie_int)))))))
theorem kb__law_mix_0 (fd : FuncData) (FD : FunD T.K d__law_mix.name d__law_mix.qual d__law_mix.params d__law_mix.body d__law_mix.scope (d__law_mix.dvs T.K) [] (He.fAd T.K d__law_mix.at_) fd) : KBD T fd ["_law_cell_here", "_law_k"] 2 [] [(0, 0), (0, 1)] [] :=
  kbd_n FD fun kV doc pm an cdv ct us ws h1 h2 => match us, ws, h1, h2 with | [_, _], [], _, _ => rfl
theorem nd__law_box : (["_law_script", "_law_k", "_law_lap", "_law_cell_here", "_law_number", "_law_j"] : List Str).Nodup := by decide +kernel
theorem sc__law_box : FnScope ["_law_script", "_law_k", "_law_lap", "_law_cell_here", "_law_number", "_law_j"] ["_law_script", "_law_k", "_law_lap"] d__law_box.scope := ⟨rfl, rfl, rfl, nd__law_box, rfl, by decide +kernel, by decide +kernel⟩
theorem ok__law_box (F : Fx T mg lw) (hcf : T.cf = cf) : OkF T P w mg base 2 d__law_box ["_law_script", "_law_k", "_law_lap"] m__law_box := by
  obtain ⟨fd, FD⟩ := F.defs 2 d__law_box rfl
  refine OkF.mk' (N := ["_law_script", "_law_k", "_law_lap", "_law_cell_here", "_law_number", "_law_j"]) FD sc__law_box fun cdv A outer s H E hr => ?_
  show ISs T E _ (defBody (top 35)) b__law_box
  exact (is_cons (is_st 3 nd__law_box (ie_fnF (by exact ok__law_cell F hcf) (by rfl) (by exact hr.mono (by decide)) (by rfl) (by exact F.g "_law_cell") kb__law_cell_0 (by exact tk_cx) (ak_cons (ia_cons (ie_v 0) (ia_cons (ie_v 1) ia_nil)) ik_nil)))
  (is_cons (is_if (iw_pt (iw_and (ib_cmp (oi_eqP (by rfl) (by exact hr.rm.units)) (ie_op (oi_mod) (ie_v 3) ie_int) ie_int (by rfl)) (iw_and1 (ib_cmp (oi_eqP (by rfl) (by exact hr.rm.units)) (ie_v 2) ie_int (by rfl))))) (is_one (is_ret (ie_lstM (ia_cons (ie_op (oi_fdiv) (ie_b (by exact call_abs) bo_abs (by rfl) (by exact F.f "abs") (by decide +kernel) (ia_cons (ie_v 3) ia_nil)) ie_int) ia_nil)))) is_nil)
  (is_cons (is_st 4 nd__law_box ie_int)
  (is_cons (is_for (vs := allN 6) (by exact passes_of rfl) (by rfl) (ii_r1 (by rfl) (by exact F.f "range") (ia_cons ie_int ia_nil)) (ig_n 5 nd__law_box) (is_one (is_st 4 nd__law_box (ie_op (oi_add (by rfl)) (ie_op (oi_mul) (ie_v 4) ie_int) (ie_fnF (by exact ok__law_mix F hcf) (by rfl) (by exact hr.mono (by decide)) (by rfl) (by exact F.g "_law_mix") kb__law_mix_0 (by exact tk_cx) (ak_cons (ia_cons (ie_v 3) (ia_cons (ie_op (oi_add (by rfl)) (ie_op (oi_mul) ie_int (ie_v 2)) (ie_v 5)) ia_nil)) ik_nil))))))
  (is_one (is_ret (ie_lstM (ia_cons (ie_v 4) ia_nil))))))))
theorem kb__law_box_0 (fd : FuncData) (FD : FunD T.K d__law_box.name d__law_box.qual d__law_box.params d__law_box.body d__law_box.scope (d__law_box.dvs T.K) [] (He.fAd T.K d__law_box.at_) fd) : KBD T fd ["_law_script", "_law_k", "_law_lap"] 3 [] [(0, 0), (0, 1), (0, 2)] [] :=
  kbd_n FD fun kV doc pm an cdv ct us ws h1 h2 => match us, ws, h1, h2 with | [_, _, _], [], _, _ => rfl
theorem nd__law_take : (["_law_box_here", "_law_count", "_law_left", "_law_digit"] : List Str).Nodup := by decide +kernel
theorem sc__law_take : FnScope ["_law_box_here", "_law_count", "_law_left", "_law_digit"] ["_law_box_here", "_law_count"] d__law_take.scope := ⟨rfl, rfl, rfl, nd__law_take, rfl, by decide +kernel, by decide +kernel⟩
theorem ok__law_take (F : Fx T mg lw) (hcf : T.cf = cf) : OkF T P w mg base 1 d__law_take ["_law_box_here", "_law_count"] m__law_take := by
  obtain ⟨fd, FD⟩ := F.defs 3 d__law_take rfl
  refine OkF.mk' (N := ["_law_box_here", "_law_count", "_law_left", "_law_digit"]) FD sc__law_take fun cdv A outer s H E hr => ?_
  show ISs T E _ (defBody (top 36)) b__law_take
  exact (is_cons (is_unp (vs := allN 4) (ie_b (by exact call_divmodW) bo_divmod (by rfl) (by exact F.f "divmod") (by decide +kernel) (ia_cons (ie_idxB (by rfl) (by exact hu1 hr) (ie_v 0) ie_int) (ia_cons (ie_v 1) ia_nil))) (ig_tup (by rfl) (igs_cons (ig_n 2 nd__law_take) (igs_cons (ig_n 3 nd__law_take) igs_nil)) (len_cons (len_cons len_nil))))
  (is_cons (is_setit (ie_v 2) (ie_v 0) ie_int)
  (is_one (is_ret (ie_v 3)))))
theorem kb__law_take_0 (fd : FuncData) (FD : FunD T.K d__law_take.name d__law_take.qual d__law_take.params d__law_take.body d__law_take.scope (d__law_take.dvs T.K) [] (He.fAd T.K d__law_take.at_) fd) : KBD T fd ["_law_box_here", "_law_count"] 2 [] [(0, 0), (0, 1)] [] :=
  kbd_n FD fun kV doc pm an cdv ct us ws h1 h2 => match us, ws, h1, h2 with | [_, _], [], _, _ => rfl
theorem nd__law_towns : (["_law_box_here", "_law_many", "_law_turn"] : List Str).Nodup := by decide +kernel
theorem sc__law_towns : FnScope ["_law_box_here", "_law_many", "_law_turn"] ["_law_box_here"] d__law_towns.scope := ⟨rfl, rfl, rfl, nd__law_towns, rfl, by decide +kernel, by decide +kernel⟩
theorem ok__law_towns (F : Fx T mg lw) (hcf : T.cf = cf) : OkF T P w mg base 2 d__law_towns ["_law_box_here"] m__law_towns := by
  obtain ⟨fd, FD⟩ := F.defs 4 d__law_towns rfl
  refine OkF.mk' (N := ["_law_box_here", "_law_many", "_law_turn"]) FD sc__law_towns fun cdv A outer s H E hr => ?_
  show ISs T E _ (defBody (top 40)) b__law_towns
  exact (is_cons (is_st 1 nd__law_towns (ie_idxB (by rfl) (by exact hu1 hr) (ie_lst (ia_cons ie_int (ia_cons (ie_op (oi_add (by rfl)) ie_int (ie_fnF (by exact ok__law_take F hcf) (by rfl) (by exact hr.mono (by decide)) (by rfl) (by exact F.g "_law_take") kb__law_take_0 (by exact tk_cx) (ak_cons (ia_cons (ie_v 0) (ia_cons ie_int ia_nil)) ik_nil))) (ia_cons (ie_op (oi_add (by rfl)) ie_int (ie_fnF (by exact ok__law_take F hcf) (by rfl) (by exact hr.mono (by decide)) (by rfl) (by exact F.g "_law_take") kb__law_take_0 (by exact tk_cx) (ak_cons (ia_cons (ie_v 0) (ia_cons ie_int ia_nil)) ik_nil))) ia_nil)))) (ie_fnF (by exact ok__law_take F hcf) (by rfl) (by exact hr.mono (by decide)) (by rfl) (by exact F.g "_law_take") kb__law_take_0 (by exact tk_cx) (ak_cons (ia_cons (ie_v 0) (ia_cons ie_int ia_nil)) ik_nil))))
  (is_one (is_ret (ie_bt (by exact call_tuple_of) bo_tuple (by rfl) (by exact F.f "tuple") (by decide +kernel) (ia_cons (ie_lc (own := [("_law_turn", 2)]) (by rfl) nd__law_towns (ii_r1 (by rfl) (by exact F.f "range") (ia_cons (ie_v 1) ia_nil)) (blk_by (by kernel_rfl)) (fun _ _ _ _ _ => (ig_n 2 nd__law_towns)) (fun _ _ _ _ _ => its_nil) (fun _ _ _ _ _ => (ie_fnF (by exact ok__law_take F hcf) (by rfl) (by exact hr.mono (by decide)) (by rfl) (by exact F.g "_law_take") kb__law_take_0 (by exact tk_no) (ak_cons (ia_cons (ie_v 0) (ia_cons ie_int ia_nil)) ik_nil)))) ia_nil)))))
theorem kb__law_towns_0 (fd : FuncData) (FD : FunD T.K d__law_towns.name d__law_towns.qual d__law_towns.params d__law_towns.body d__law_towns.scope (d__law_towns.dvs T.K) [] (He.fAd T.K d__law_towns.at_) fd) : KBD T fd ["_law_box_here"] 1 [] [(0, 0)] [] :=
  kbd_n FD fun kV doc pm an cdv ct us ws h1 h2 => match us, ws, h1, h2 with | [_], [], _, _ => rfl
theorem nd__law_sorts : ([] : List Str).Nodup := by decide +kernel
theorem sc__law_sorts : FnScope [] [] d__law_sorts.scope := ⟨rfl, rfl, rfl, nd__law_sorts, rfl, by decide +kernel, by decide +kernel⟩
theorem ok__law_sorts (F : Fx T mg lw) (hcf : T.cf = cf) : OkF T P w mg base 1 d__law_sorts [] m__law_sorts := by
  obtain ⟨fd, FD⟩ := F.defs 5 d__law_sorts rfl
  refine OkF.mk' (N := []) FD sc__law_sorts fun cdv A outer s H E hr => ?_
  show ISs T E _ (defBody (top 37)) b__law_sorts
  exact (is_one (is_ret (ie_lst (ia_cons ie_str (ia_cons ie_str (ia_cons ie_str (ia_cons ie_str (ia_cons ie_str ia_nil))))))))
theorem kb__law_sorts_0 (fd : FuncData) (FD : FunD T.K d__law_sorts.name d__law_sorts.qual d__law_sorts.params d__law_sorts.body d__law_sorts.scope (d__law_sorts.dvs T.K) [] (He.fAd T.K d__law_sorts.at_) fd) : KBD T fd [] 0 [] [] [] :=
  kbd_n FD fun kV doc pm an cdv ct us ws h1 h2 => match us, ws, h1, h2 with | [], [], _, _ => rfl
theorem nd__law_row : (["_law_box_here", "_law_many", "_law_sort", "_law_bill", "_law_when", "_law_sharers", "_law_coin"] : List Str).Nodup := by decide +kernel
theorem sc__law_row : FnScope ["_law_box_here", "_law_many", "_law_sort", "_law_bill", "_law_when", "_law_sharers", "_law_coin"] ["_law_box_here", "_law_many"] d__law_row.scope := ⟨rfl, rfl, rfl, nd__law_row, rfl, by decide +kernel, by decide +kernel⟩
theorem ok__law_row (F : Fx T mg lw) (hcf : T.cf = cf) : OkF T P w mg base 2 d__law_row ["_law_box_here", "_law_many"] m__law_row := by
  obtain ⟨fd, FD⟩ := F.defs 6 d__law_row rfl
  refine OkF.mk' (N := ["_law_box_here", "_law_many", "_law_sort", "_law_bill", "_law_when", "_law_sharers", "_law_coin"]) FD sc__law_row fun cdv A outer s H E hr => ?_
  show ISs T E _ (defBody (top 38)) b__law_row
  exact (is_cons (is_st 2 nd__law_row (ie_idxB (by rfl) (by exact hu1 hr) (ie_fnF (by exact ok__law_sorts F hcf) (by rfl) (by exact hr.mono (by decide)) (by rfl) (by exact F.g "_law_sorts") kb__law_sorts_0 (by exact tk_cx) (ak_nil ik_nil)) (ie_op (oi_mul) (ie_fnF (by exact ok__law_take F hcf) (by rfl) (by exact hr.mono (by decide)) (by rfl) (by exact F.g "_law_take") kb__law_take_0 (by exact tk_cx) (ak_cons (ia_cons (ie_v 0) (ia_cons ie_int ia_nil)) ik_nil)) (ie_fnF (by exact ok__law_take F hcf) (by rfl) (by exact hr.mono (by decide)) (by rfl) (by exact F.g "_law_take") kb__law_take_0 (by exact tk_cx) (ak_cons (ia_cons (ie_v 0) (ia_cons ie_int ia_nil)) ik_nil)))))
  (is_cons (is_st 3 nd__law_row (ie_idxB (by rfl) (by exact hu1 hr) (ie_lst (ia_cons ie_int (ia_cons ie_int (ia_cons ie_int (ia_cons (ie_op (oi_add (by rfl)) ie_int (ie_fnF (by exact ok__law_take F hcf) (by rfl) (by exact hr.mono (by decide)) (by rfl) (by exact F.g "_law_take") kb__law_take_0 (by exact tk_cx) (ak_cons (ia_cons (ie_v 0) (ia_cons (ie_op (oi_pow) ie_int ie_int) ia_nil)) ik_nil))) ia_nil))))) (ie_fnF (by exact ok__law_take F hcf) (by rfl) (by exact hr.mono (by decide)) (by rfl) (by exact F.g "_law_take") kb__law_take_0 (by exact tk_cx) (ak_cons (ia_cons (ie_v 0) (ia_cons ie_int ia_nil)) ik_nil))))
  (is_cons (is_st 4 nd__law_row (ie_idxB (by rfl) (by exact hu1 hr) (ie_lst (ia_cons ie_int (ia_cons (ie_fnF (by exact ok__law_take F hcf) (by rfl) (by exact hr.mono (by decide)) (by rfl) (by exact F.g "_law_take") kb__law_take_0 (by exact tk_cx) (ak_cons (ia_cons (ie_v 0) (ia_cons (ie_v 1) ia_nil)) ik_nil)) (ia_cons (ie_fnF (by exact ok__law_take F hcf) (by rfl) (by exact hr.mono (by decide)) (by rfl) (by exact F.g "_law_take") kb__law_take_0 (by exact tk_cx) (ak_cons (ia_cons (ie_v 0) (ia_cons (ie_v 1) ia_nil)) ik_nil)) (ia_cons (ie_fnF (by exact ok__law_take F hcf) (by rfl) (by exact hr.mono (by decide)) (by rfl) (by exact F.g "_law_take") kb__law_take_0 (by exact tk_cx) (ak_cons (ia_cons (ie_v 0) (ia_cons ie_int ia_nil)) ik_nil)) ia_nil))))) (ie_fnF (by exact ok__law_take F hcf) (by rfl) (by exact hr.mono (by decide)) (by rfl) (by exact F.g "_law_take") kb__law_take_0 (by exact tk_cx) (ak_cons (ia_cons (ie_v 0) (ia_cons ie_int ia_nil)) ik_nil))))
  (is_cons (by first | exact (is_par2 5 6 nd__law_row (ia_cons (ie_idxB (by rfl) (by exact hu1 hr) (ie_lst (ia_cons ie_int (ia_cons ie_int (ia_cons ie_int (ia_cons (ie_op (oi_add (by rfl)) ie_int (ie_fnF (by exact ok__law_take F hcf) (by rfl) (by exact hr.mono (by decide)) (by rfl) (by exact F.g "_law_take") kb__law_take_0 (by exact tk_cx) (ak_cons (ia_cons (ie_v 0) (ia_cons ie_int ia_nil)) ik_nil))) ia_nil))))) (ie_fnF (by exact ok__law_take F hcf) (by rfl) (by exact hr.mono (by decide)) (by rfl) (by exact F.g "_law_take") kb__law_take_0 (by exact tk_cx) (ak_cons (ia_cons (ie_v 0) (ia_cons ie_int ia_nil)) ik_nil))) (ia_cons (ie_idxB (by rfl) (by exact hu1 hr) (ie_lst (ia_cons ie_int (ia_cons ie_int (ia_cons (ie_fnF (by exact ok__law_take F hcf) (by rfl) (by exact hr.mono (by decide)) (by rfl) (by exact F.g "_law_take") kb__law_take_0 (by exact tk_cx) (ak_cons (ia_cons (ie_v 0) (ia_cons ie_int ia_nil)) ik_nil)) ia_nil)))) (ie_fnF (by exact ok__law_take F hcf) (by rfl) (by exact hr.mono (by decide)) (by rfl) (by exact F.g "_law_take") kb__law_take_0 (by exact tk_cx) (ak_cons (ia_cons (ie_v 0) (ia_cons ie_int ia_nil)) ik_nil))) ia_nil))) | exact (is_par2u (is_unp (vs := allN 7) (ie_tup (ia_cons (ie_idxB (by rfl) (by exact hu1 hr) (ie_lst (ia_cons ie_int (ia_cons ie_int (ia_cons ie_int (ia_cons (ie_op (oi_add (by rfl)) ie_int (ie_fnF (by exact ok__law_take F hcf) (by rfl) (by exact hr.mono (by decide)) (by rfl) (by exact F.g "_law_take") kb__law_take_0 (by exact tk_cx) (ak_cons (ia_cons (ie_v 0) (ia_cons ie_int ia_nil)) ik_nil))) ia_nil))))) (ie_fnF (by exact ok__law_take F hcf) (by rfl) (by exact hr.mono (by decide)) (by rfl) (by exact F.g "_law_take") kb__law_take_0 (by exact tk_cx) (ak_cons (ia_cons (ie_v 0) (ia_cons ie_int ia_nil)) ik_nil))) (ia_cons (ie_idxB (by rfl) (by exact hu1 hr) (ie_lst (ia_cons ie_int (ia_cons ie_int (ia_cons (ie_fnF (by exact ok__law_take F hcf) (by rfl) (by exact hr.mono (by decide)) (by rfl) (by exact F.g "_law_take") kb__law_take_0 (by exact tk_cx) (ak_cons (ia_cons (ie_v 0) (ia_cons ie_int ia_nil)) ik_nil)) ia_nil)))) (ie_fnF (by exact ok__law_take F hcf) (by rfl) (by exact hr.mono (by decide)) (by rfl) (by exact F.g "_law_take") kb__law_take_0 (by exact tk_cx) (ak_cons (ia_cons (ie_v 0) (ia_cons ie_int ia_nil)) ik_nil))) ia_nil))) (ig_tup (by rfl) (igs_cons (ig_n 5 nd__law_row) (igs_cons (ig_n 6 nd__law_row) igs_nil)) (len_cons (len_cons len_nil))))))
  (is_one (is_ret (ie_tup (ia_cons (ie_v 2) (ia_cons (ie_v 3) (ia_cons (ie_v 4) (ia_cons (ie_cmp (oi_gt) (ie_fnF (by exact ok__law_take F hcf) (by rfl) (by exact hr.mono (by decide)) (by rfl) (by exact F.g "_law_take") kb__law_take_0 (by exact tk_cx) (ak_cons (ia_cons (ie_v 0) (ia_cons ie_int ia_nil)) ik_nil)) ie_int (by rfl)) (ia_cons (ie_v 5) (ia_cons (ie_v 6) ia_nil)))))))))))))
theorem kb__law_row_0 (fd : FuncData) (FD : FunD T.K d__law_row.name d__law_row.qual d__law_row.params d__law_row.body d__law_row.scope (d__law_row.dvs T.K) [] (He.fAd T.K d__law_row.at_) fd) : KBD T fd ["_law_box_here", "_law_many"] 2 [] [(0, 0), (0, 1)] [] :=
  kbd_n FD fun kV doc pm an cdv ct us ws h1 h2 => match us, ws, h1, h2 with | [_, _], [], _, _ => rfl
theorem nd_is_whole : (["thing", "low", "high"] : List Str).Nodup := by decide +kernel
theorem sc_is_whole : FnScope ["thing", "low", "high"] ["thing", "low", "high"] d_is_whole.scope := ⟨rfl, rfl, rfl, nd_is_whole, rfl, by decide +kernel, by decide +kernel⟩
theorem ok_is_whole (F : Fx T mg lw) (hcf : T.cf = cf) : OkF T P w mg base 1 d_is_whole ["thing", "low", "high"] m_is_whole := by
  obtain ⟨fd, FD⟩ := F.defs 7 d_is_whole rfl
  refine OkF.mk' (N := ["thing", "low", "high"]) FD sc_is_whole fun cdv A outer s H E hr => ?_
  show ISs T E _ (defBody (top 17)) b_is_whole
  exact (is_one (is_ret (ie_and (ie_isi (tys := tysL) (Tt := .b "int") (by rfl) (by rfl) (by exact F.f "isinstance") (ie_v 0) (isTy_b (by rfl) (by exact F.f "int") (by decide +kernel)) (by exact F.is' tysL) (by exact F.ki tysL (.b "int"))) (ie_and (ie_not (ie_isi (tys := tysL) (Tt := .b "bool") (by rfl) (by rfl) (by exact F.f "isinstance") (ie_v 0) (isTy_b (by rfl) (by exact F.f "bool") (by decide +kernel)) (by exact F.is' tysL) (by exact F.ki tysL (.b "bool")))) (ie_one (ie_chain (oi_le) (oi_le) (ie_v 1) (ie_v 0) (ie_v 2)))))))
theorem kb_is_whole_0 (fd : FuncData) (FD : FunD T.K d_is_whole.name d_is_whole.qual d_is_whole.params d_is_whole.body d_is_whole.scope (d_is_whole.dvs T.K) [] (He.fAd T.K d_is_whole.at_) fd) : KBD T fd ["thing", "low", "high"] 3 [] [(0, 0), (0, 1), (0, 2)] [] :=
  kbd_n FD fun kV doc pm an cdv ct us ws h1 h2 => match us, ws, h1, h2 with | [_, _, _], [], _, _ => rfl
theorem nd_are_towns : (["thing", "town"] : List Str).Nodup := by decide +kernel
theorem sc_are_towns : FnScope ["thing", "town"] ["thing"] d_are_towns.scope := ⟨rfl, rfl, rfl, nd_are_towns, rfl, by decide +kernel, by decide +kernel⟩
theorem ok_are_towns (F : Fx T mg lw) (hcf : T.cf = cf) : OkF T P w mg base 2 d_are_towns ["thing"] m_are_towns := by
  obtain ⟨fd, FD⟩ := F.defs 8 d_are_towns rfl
  refine OkF.mk' (N := ["thing", "town"]) FD sc_are_towns fun cdv A outer s H E hr => ?_
  show ISs T E _ (defBody (top 29)) b_are_towns
  exact (is_cons (is_if (iw_pt (iw_or (ib_not (ib_val (ie_isi (tys := tysL) (Tt := .b "tuple") (by rfl) (by rfl) (by exact F.f "isinstance") (ie_v 0) (isTy_b (by rfl) (by exact F.f "tuple") (by decide +kernel)) (by exact F.is' tysL) (by exact F.ki tysL (.b "tuple"))))) (iw_or1 (ib_not (ib_chain (oi_le) (oi_le) ie_int (ie_b (by exact call_len) bo_lenA (by rfl) (by exact F.f "len") (by decide +kernel) (ia_cons (ie_v 0) ia_nil)) (ie_gint (by rfl) (by exact F.i "MOST_DAYS" 30))))))) (is_one (is_ret ie_bl)) is_nil)
  (is_one (is_ret (ie_b (by exact cr_all rfl) bo_all (by rfl) (by exact F.f "all") (by decide +kernel) (ia_cons (ie_lc (own := [("town", 1)]) (by rfl) nd_are_towns (ii_any (by rfl) (ie_v 0)) (blk_by (by kernel_rfl)) (fun _ _ _ _ _ => (ig_n 1 nd_are_towns)) (fun _ _ _ _ _ => its_nil) (fun _ _ _ _ _ => (ie_fnF (by exact ok_is_whole F hcf) (by rfl) (by exact hr.mono (by decide)) (by rfl) (by exact F.g "is_whole") kb_is_whole_0 (by exact tk_no) (ak_cons (ia_cons (ie_v 1) (ia_cons ie_int (ia_cons (ie_gint (by rfl) (by exact F.i "LAST_TOWN" 3)) ia_nil))) ik_nil)))) ia_nil)))))
theorem kb_are_towns_0 (fd : FuncData) (FD : FunD T.K d_are_towns.name d_are_towns.qual d_are_towns.params d_are_towns.body d_are_towns.scope (d_are_towns.dvs T.K) [] (He.fAd T.K d_are_towns.at_) fd) : KBD T fd ["thing"] 1 [] [(0, 0)] [] :=
  kbd_n FD fun kV doc pm an cdv ct us ws h1 h2 => match us, ws, h1, h2 with | [_], [], _, _ => rfl
theorem nd_NoJourney_init : (["self", "part"] : List Str).Nodup := by decide +kernel
theorem sc_NoJourney_init : FnScope ["self", "part"] ["self", "part"] d_NoJourney_init.scope := ⟨rfl, rfl, rfl, nd_NoJourney_init, rfl, by decide +kernel, by decide +kernel⟩
theorem bi_NoJourney_init (fd : FuncData) (FD : FunD T.K d_NoJourney_init.name d_NoJourney_init.qual d_NoJourney_init.params d_NoJourney_init.body d_NoJourney_init.scope (d_NoJourney_init.dvs T.K) [] (He.fAd T.K d_NoJourney_init.at_) fd) : L2.Binds T.K fd ["self", "part"] [] := FunD.bindsN FD fun _ _ _ _ _ _ us hl => match us, hl with | [_, _], _ => rfl
theorem oi_NoJourney (F : Fx T mg lw) : InitOk T P w mg base 1 d_NoJourney_init ["self", "part"] "NoJourney" ["part"] btVE "ValueError" "ValueError.__new__" "ValueError.__init__" := by
  obtain ⟨fd, FD⟩ := F.defs 9 d_NoJourney_init rfl
  have X := xi_of (F.b 0)
  have ob := ownBase_of (F.b 1)
  exact InitOk.of1 xbVE X.xc FD sc_NoJourney_init (by rfl) (X.no "part" (by simp)) (hcall := fun cdv A outer s H E ta ha => pe_xin_own xbVE (by rfl) (by exact F.g "PenceError") ob.1 ob.2.1 ob.2.2 ha)
theorem nd_Journey_init : (["self", "towns", "begun", "ended"] : List Str).Nodup := by decide +kernel
theorem sc_Journey_init : FnScope ["self", "towns", "begun", "ended"] ["self", "towns", "begun", "ended"] d_Journey_init.scope := ⟨rfl, rfl, rfl, nd_Journey_init, rfl, by decide +kernel, by decide +kernel⟩
theorem ok_Journey_init (F : Fx T mg lw) (hcf : T.cf = cf) : OkF T P w mg base 3 d_Journey_init ["self", "towns", "begun", "ended"] m_Journey_init := by
  obtain ⟨fd, FD⟩ := F.defs 10 d_Journey_init rfl
  refine OkF.mk' (N := ["self", "towns", "begun", "ended"]) FD sc_Journey_init fun cdv A outer s H E hr => ?_
  show ISs T E _ (defBody (meth 31 0)) b_Journey_init
  exact (is_cons (is_if (ib_not (ib_val (ie_fnF (by exact ok_are_towns F hcf) (by rfl) (by exact hr.mono (by decide)) (by rfl) (by exact F.g "are_towns") kb_are_towns_0 (by exact tk_cx) (ak_cons (ia_cons (ie_v 1) ia_nil) ik_nil)))) (is_one (is_raiseF (c := "NoJourney") (by rfl) (by rfl) (by exact tk_cx) (oi_NoJourney F) rfl (xi_of (F.b 0)) (by exact hr.mono (by decide)) bi_NoJourney_init rfl (by rfl) (by exact F.g "NoJourney") (ia_cons ie_str ia_nil) (hlk1 (by rw [hcf]; rfl)))) is_nil)
  (is_cons (is_if (ib_not (ib_val (ie_fnF (by exact ok_is_whole F hcf) (by rfl) (by exact hr.mono (by decide)) (by rfl) (by exact F.g "is_whole") kb_is_whole_0 (by exact tk_cx) (ak_cons (ia_cons (ie_v 2) (ia_cons ie_int (ia_cons (ie_gint (by rfl) (by exact F.i "TENTHS" 10)) ia_nil))) ik_nil)))) (is_one (is_raiseF (c := "NoJourney") (by rfl) (by rfl) (by exact tk_cx) (oi_NoJourney F) rfl (xi_of (F.b 0)) (by exact hr.mono (by decide)) bi_NoJourney_init rfl (by rfl) (by exact F.g "NoJourney") (ia_cons ie_str ia_nil) (hlk1 (by rw [hcf]; rfl)))) is_nil)
  (is_cons (is_if (ib_not (ib_val (ie_fnF (by exact ok_is_whole F hcf) (by rfl) (by exact hr.mono (by decide)) (by rfl) (by exact F.g "is_whole") kb_is_whole_0 (by exact tk_cx) (ak_cons (ia_cons (ie_v 3) (ia_cons ie_int (ia_cons (ie_gint (by rfl) (by exact F.i "TENTHS" 10)) ia_nil))) ik_nil)))) (is_one (is_raiseF (c := "NoJourney") (by rfl) (by rfl) (by exact tk_cx) (oi_NoJourney F) rfl (xi_of (F.b 0)) (by exact hr.mono (by decide)) bi_NoJourney_init rfl (by rfl) (by exact F.g "NoJourney") (ia_cons ie_str ia_nil) (hlk1 (by rw [hcf]; rfl)))) is_nil)
  (is_cons (is_setattr (by rfl) (by exact F.at' ["Journey"] "own_towns") (ie_v 0) (ie_v 1))
  (is_cons (is_setattr (by rfl) (by exact F.at' ["Journey"] "own_ends") (ie_v 0) (ie_tup (ia_cons (ie_v 2) (ia_cons (ie_v 3) ia_nil))))
  (is_cons (is_setattr (by rfl) (by exact F.at' ["Journey"] "own_lines") (ie_v 0) (ie_lst ia_nil))
  (is_cons (is_setattr (by rfl) (by exact F.at' ["Journey"] "own_sums") (ie_v 0) (ie_lst ia_nil))
  (is_one (is_setattr (by rfl) (by exact F.at' ["Journey"] "own_past") (ie_v 0) (ie_lstM ia_nil))))))))))
theorem kb_Journey_init_0 (fd : FuncData) (FD : FunD T.K d_Journey_init.name d_Journey_init.qual d_Journey_init.params d_Journey_init.body d_Journey_init.scope (d_Journey_init.dvs T.K) [] (He.fAd T.K d_Journey_init.at_) fd) : KBD T fd ["self", "towns", "begun", "ended"] 4 [] [(0, 0), (0, 1), (0, 2), (0, 3)] [.int 10, .int 10] :=
  kbd_d (l := [.int 10, .int 10]) FD rfl (by decide) fun Ta kV doc pm an cdv ct us its ws h1 h2 h3 => match us, its, ws, h1, h2, h3 with | [_, _, _, _], [_, _], [], _, _, _ => ⟨_, rfl, rfl⟩
theorem nd__law_mixed : (["_law_box_here", "_law_things", "_law_left", "_law_found"] : List Str).Nodup := by decide +kernel
theorem sc__law_mixed : FnScope ["_law_box_here", "_law_things", "_law_left", "_law_found"] ["_law_box_here", "_law_things"] d__law_mixed.scope := ⟨rfl, rfl, rfl, nd__law_mixed, rfl, by decide +kernel, by decide +kernel⟩
theorem ok__law_mixed (F : Fx T mg lw) (hcf : T.cf = cf) : OkF T P w mg base 2 d__law_mixed ["_law_box_here", "_law_things"] m__law_mixed := by
  obtain ⟨fd, FD⟩ := F.defs 11 d__law_mixed rfl
  refine OkF.mk' (N := ["_law_box_here", "_law_things", "_law_left", "_law_found"]) FD sc__law_mixed fun cdv A outer s H E hr => ?_
  show ISs T E _ (defBody (top 42)) b__law_mixed
  exact (is_cons (by first | exact (is_par2 2 3 nd__law_mixed (ia_cons (ie_listM (by rfl) (by rfl) (by exact F.f "list") (by decide +kernel) (ia_cons (ie_v 1) ia_nil)) (ia_cons (ie_lstM ia_nil) ia_nil))) | exact (is_par2u (is_unp (vs := allN 4) (ie_tup (ia_cons (ie_listM (by rfl) (by rfl) (by exact F.f "list") (by decide +kernel) (ia_cons (ie_v 1) ia_nil)) (ia_cons (ie_lstM ia_nil) ia_nil))) (ig_tup (by rfl) (igs_cons (ig_n 2 nd__law_mixed) (igs_cons (ig_n 3 nd__law_mixed) igs_nil)) (len_cons (len_cons len_nil))))))
  (is_cons (is_while (by exact passes_of rfl) (ib_cmpS (os_neP (by rfl) (by exact hr.rm.units)) (ie_v 2) (ie_lst ia_nil) (by rfl)) (is_one (is_expr (ie_app (by rfl) (ie_v 3) (ie_popAt (by rfl) (ie_v 2) (ie_fnF (by exact ok__law_take F hcf) (by rfl) (by exact hr.mono (by decide)) (by rfl) (by exact F.g "_law_take") kb__law_take_0 (by exact tk_cx) (ak_cons (ia_cons (ie_v 0) (ia_cons (ie_bS (by exact call_len) bo_lenS (by rfl) (by exact F.f "len") (by decide +kernel) (ia_cons (ie_v 2) ia_nil)) ia_nil)) ik_nil)))))))
  (is_one (is_ret (ie_frzL (ie_v 3))))))
theorem kb__law_mixed_0 (fd : FuncData) (FD : FunD T.K d__law_mixed.name d__law_mixed.qual d__law_mixed.params d__law_mixed.body d__law_mixed.scope (d__law_mixed.dvs T.K) [] (He.fAd T.K d__law_mixed.at_) fd) : KBD T fd ["_law_box_here", "_law_things"] 2 [] [(0, 0), (0, 1)] [] :=
  kbd_n FD fun kV doc pm an cdv ct us ws h1 h2 => match us, ws, h1, h2 with | [_, _], [], _, _ => rfl
theorem nd_NoDay_init : (["self", "day"] : List Str).Nodup := by decide +kernel
theorem sc_NoDay_init : FnScope ["self", "day"] ["self", "day"] d_NoDay_init.scope := ⟨rfl, rfl, rfl, nd_NoDay_init, rfl, by decide +kernel, by decide +kernel⟩
theorem bi_NoDay_init (fd : FuncData) (FD : FunD T.K d_NoDay_init.name d_NoDay_init.qual d_NoDay_init.params d_NoDay_init.body d_NoDay_init.scope (d_NoDay_init.dvs T.K) [] (He.fAd T.K d_NoDay_init.at_) fd) : L2.Binds T.K fd ["self", "day"] [] := FunD.bindsN FD fun _ _ _ _ _ _ us hl => match us, hl with | [_, _], _ => rfl
theorem oi_NoDay (F : Fx T mg lw) : InitOk T P w mg base 1 d_NoDay_init ["self", "day"] "NoDay" ["day"] btIE "IndexError" "IndexError.__new__" "IndexError.__init__" := by
  obtain ⟨fd, FD⟩ := F.defs 12 d_NoDay_init rfl
  have X := xi_of (F.b 2)
  have ob := initIs_of (F.b 3)
  exact InitOk.of1 xbIE X.xc FD sc_NoDay_init (by rfl) (X.no "day" (by simp)) (hcall := fun cdv A outer s H E ta ha => pe_xin_blt xbIE (by rfl) (by exact F.f "IndexError") (by kernel_rfl) tyIE (by decide +kernel) ob ha)
theorem nd_Journey_town_on : (["self", "day"] : List Str).Nodup := by decide +kernel
theorem sc_Journey_town_on : FnScope ["self", "day"] ["self", "day"] d_Journey_town_on.scope := ⟨rfl, rfl, rfl, nd_Journey_town_on, rfl, by decide +kernel, by decide +kernel⟩
theorem ok_Journey_town_on (F : Fx T mg lw) (hcf : T.cf = cf) : OkF T P w mg base 3 d_Journey_town_on ["self", "day"] m_Journey_town_on := by
  obtain ⟨fd, FD⟩ := F.defs 13 d_Journey_town_on rfl
  refine OkF.mk' (N := ["self", "day"]) FD sc_Journey_town_on fun cdv A outer s H E hr => ?_
  show ISs T E _ (defBody (meth 31 10)) b_Journey_town_on
  exact (is_cons (is_if (ib_not (ib_val (ie_fnF (by exact ok_is_whole F hcf) (by rfl) (by exact hr.mono (by decide)) (by rfl) (by exact F.g "is_whole") kb_is_whole_0 (by exact tk_cx) (ak_cons (ia_cons (ie_v 1) (ia_cons ie_int (ia_cons (ie_op (oi_sub) (ie_b (by exact call_len) bo_lenA (by rfl) (by exact F.f "len") (by decide +kernel) (ia_cons (ie_attr (by exact hcf) (by rfl) (by exact F.at' ["Journey"] "own_towns") (ie_v 0)) ia_nil)) ie_int) ia_nil))) ik_nil)))) (is_one (is_raiseF (c := "NoDay") (by rfl) (by rfl) (by exact tk_cx) (oi_NoDay F) rfl (xi_of (F.b 2)) (by exact hr.mono (by decide)) bi_NoDay_init rfl (by rfl) (by exact F.g "NoDay") (ia_cons (ie_v 1) ia_nil) (hlk1 (by rw [hcf]; rfl)))) is_nil)
  (is_one (is_ret (ie_idxB (by rfl) (by exact hu1 hr) (ie_attr (by exact hcf) (by rfl) (by exact F.at' ["Journey"] "own_towns") (ie_v 0)) (ie_v 1)))))
theorem kb_Journey_town_on_0 (fd : FuncData) (FD : FunD T.K d_Journey_town_on.name d_Journey_town_on.qual d_Journey_town_on.params d_Journey_town_on.body d_Journey_town_on.scope (d_Journey_town_on.dvs T.K) [] (He.fAd T.K d_Journey_town_on.at_) fd) : KBD T fd ["self", "day"] 2 [] [(0, 0), (0, 1)] [] :=
  kbd_n FD fun kV doc pm an cdv ct us ws h1 h2 => match us, ws, h1, h2 with | [_, _], [], _, _ => rfl
theorem nd_TooMany_init : (["self", "many", "most"] : List Str).Nodup := by decide +kernel
theorem sc_TooMany_init : FnScope ["self", "many", "most"] ["self", "many", "most"] d_TooMany_init.scope := ⟨rfl, rfl, rfl, nd_TooMany_init, rfl, by decide +kernel, by decide +kernel⟩
theorem bi_TooMany_init (fd : FuncData) (FD : FunD T.K d_TooMany_init.name d_TooMany_init.qual d_TooMany_init.params d_TooMany_init.body d_TooMany_init.scope (d_TooMany_init.dvs T.K) [] (He.fAd T.K d_TooMany_init.at_) fd) : L2.Binds T.K fd ["self", "many", "most"] [] := FunD.bindsN FD fun _ _ _ _ _ _ us hl => match us, hl with | [_, _, _], _ => rfl
theorem oi_TooMany (F : Fx T mg lw) : InitOk T P w mg base 1 d_TooMany_init ["self", "many", "most"] "TooMany" ["many", "most"] btVE "ValueError" "ValueError.__new__" "ValueError.__init__" := by
  obtain ⟨fd, FD⟩ := F.defs 14 d_TooMany_init rfl
  have X := xi_of (F.b 4)
  have ob := ownBase_of (F.b 1)
  exact InitOk.of2 xbVE X.xc FD sc_TooMany_init (by rfl) (X.no "many" (by simp)) (X.no "most" (by simp)) (hcall := fun cdv A outer s H E ta ha => pe_xin_own xbVE (by rfl) (by exact F.g "PenceError") ob.1 ob.2.1 ob.2.2 ha)
theorem nd_order_of : (["spending"] : List Str).Nodup := by decide +kernel
theorem sc_order_of : FnScope ["spending"] ["spending"] d_order_of.scope := ⟨rfl, rfl, rfl, nd_order_of, rfl, by decide +kernel, by decide +kernel⟩
theorem bi_order_of (fd : FuncData) (FD : FunD T.K d_order_of.name d_order_of.qual d_order_of.params d_order_of.body d_order_of.scope (d_order_of.dvs T.K) [] (He.fAd T.K d_order_of.at_) fd) : L2.Binds T.K fd ["spending"] [] := FunD.bindsN FD fun _ _ _ _ _ _ us hl => match us, hl with | [_], _ => rfl
theorem kf_order_of (F : Fx T mg lw) (hcf : T.cf = cf) : KeyF T P w mg base 1 d_order_of q_order_of := by
  obtain ⟨fd, FD⟩ := F.defs 15 d_order_of rfl
  exact KeyF.mk' FD sc_order_of (bi_order_of fd FD) (show defBody (top 30) = _ from rfl) (fun cdv A outer s H E hr => (qi_tup (qa_cons (qi_attr (by exact hcf) (by rfl) (by exact F.at' ["Spending"] "day") (qi_v 0)) (qa_cons (qi_attr (by exact hcf) (by rfl) (by exact F.at' ["Spending"] "kind") (qi_v 0)) (qa_cons (qi_attr (by exact hcf) (by rfl) (by exact F.at' ["Spending"] "amount") (qi_v 0)) (qa_cons (qi_attr (by exact hcf) (by rfl) (by exact F.at' ["Spending"] "money") (qi_v 0)) (qa_cons (qi_attr (by exact hcf) (by rfl) (by exact F.at' ["Spending"] "heads") (qi_v 0)) (qa_cons (qi_not (qi_attr (by exact hcf) (by rfl) (by exact F.at' ["Spending"] "paper") (qi_v 0))) qa_nil)))))))) (pu_tup (pua_cons (pu_attr pu_v) (pua_cons (pu_attr pu_v) (pua_cons (pu_attr pu_v) (pua_cons (pu_attr pu_v) (pua_cons (pu_attr pu_v) (pua_cons (pu_not (pu_attr pu_v)) pua_nil)))))))
theorem nd_Journey_become : (["self", "lines", "sums"] : List Str).Nodup := by decide +kernel
theorem sc_Journey_become : FnScope ["self", "lines", "sums"] ["self", "lines", "sums"] d_Journey_become.scope := ⟨rfl, rfl, rfl, nd_Journey_become, rfl, by decide +kernel, by decide +kernel⟩
theorem ok_Journey_become (F : Fx T mg lw) (hcf : T.cf = cf) : OkF T P w mg base 4 d_Journey_become ["self", "lines", "sums"] m_Journey_become := by
  obtain ⟨fd, FD⟩ := F.defs 16 d_Journey_become rfl
  refine OkF.mk' (N := ["self", "lines", "sums"]) FD sc_Journey_become fun cdv A outer s H E hr => ?_
  show ISs T E _ (defBody (meth 31 3)) b_Journey_become
  exact (is_cons (is_expr (ie_app (by rfl) (ie_attr (by exact hcf) (by rfl) (by exact F.at' ["Journey"] "own_past") (ie_v 0)) (ie_tup (ia_cons (ie_attr (by exact hcf) (by rfl) (by exact F.at' ["Journey"] "own_lines") (ie_v 0)) (ia_cons (ie_attr (by exact hcf) (by rfl) (by exact F.at' ["Journey"] "own_sums") (ie_v 0)) ia_nil)))))
  (is_cons (is_setattr (by rfl) (by exact F.at' ["Journey"] "own_lines") (ie_v 0) (ie_sortK (by rfl) (by exact kf_order_of F hcf) (by exact RG.in1 (RG.in1 (hr.mono (by decide)))) (by exact hu3 hr) (by rfl) (by exact F.f "sorted") (by rfl) (by exact F.g "order_of") (ie_v 1)))
  (is_one (is_setattr (by rfl) (by exact F.at' ["Journey"] "own_sums") (ie_v 0) (ie_b (by exact cr_sortedI) bo_sortI (by rfl) (by exact F.f "sorted") (by decide +kernel) (ia_cons (ie_v 2) ia_nil))))))
theorem kb_Journey_become_0 (fd : FuncData) (FD : FunD T.K d_Journey_become.name d_Journey_become.qual d_Journey_become.params d_Journey_become.body d_Journey_become.scope (d_Journey_become.dvs T.K) [] (He.fAd T.K d_Journey_become.at_) fd) : KBD T fd ["self", "lines", "sums"] 3 [] [(0, 0), (0, 1), (0, 2)] [] :=
  kbd_n FD fun kV doc pm an cdv ct us ws h1 h2 => match us, ws, h1, h2 with | [_, _, _], [], _, _ => rfl
theorem nd_Journey_spend : (["self", "spending"] : List Str).Nodup := by decide +kernel
theorem sc_Journey_spend : FnScope ["self", "spending"] ["self", "spending"] d_Journey_spend.scope := ⟨rfl, rfl, rfl, nd_Journey_spend, rfl, by decide +kernel, by decide +kernel⟩
theorem ok_Journey_spend (F : Fx T mg lw) (hcf : T.cf = cf) : OkF T P w mg base 5 d_Journey_spend ["self", "spending"] m_Journey_spend := by
  obtain ⟨fd, FD⟩ := F.defs 17 d_Journey_spend rfl
  refine OkF.mk' (N := ["self", "spending"]) FD sc_Journey_spend fun cdv A outer s H E hr => ?_
  show ISs T E _ (defBody (meth 31 4)) b_Journey_spend
  exact (is_cons (is_expr (ie_methF (cn := "Journey") (mn := "town_on") (n := 1) (by exact hcf) (by exact ok_Journey_town_on F hcf) (by rfl) (by exact hr.mono (by decide)) (by exact F.c "Journey") (by exact F.m "Journey" "town_on") kb_Journey_town_on_0 (by exact tk_cx) (ie_v 0) (ak_cons (ia_cons (ie_attr (by exact hcf) (by rfl) (by exact F.at' ["Spending"] "day") (ie_v 1)) ia_nil) ik_nil) rfl))
  (is_cons (is_if (ib_cmp (oi_eqP (by rfl) (by exact hr.rm.units)) (ie_b (by exact call_len) bo_lenA (by rfl) (by exact F.f "len") (by decide +kernel) (ia_cons (ie_attr (by exact hcf) (by rfl) (by exact F.at' ["Journey"] "own_lines") (ie_v 0)) ia_nil)) (ie_gint (by rfl) (by exact F.i "MOST_LINES" 40)) (by rfl)) (is_one (is_raiseF (c := "TooMany") (by rfl) (by rfl) (by exact tk_cx) (oi_TooMany F) rfl (xi_of (F.b 4)) (by exact hr.mono (by decide)) bi_TooMany_init rfl (by rfl) (by exact F.g "TooMany") (ia_cons (ie_op (oi_add (by rfl)) (ie_gint (by rfl) (by exact F.i "MOST_LINES" 40)) ie_int) (ia_cons (ie_gint (by rfl) (by exact F.i "MOST_LINES" 40)) ia_nil)) (hlk2 (by rw [hcf]; rfl) (by decide +kernel)))) is_nil)
  (is_one (is_expr (ie_methF (cn := "Journey") (mn := "become") (n := 2) (by exact hcf) (by exact ok_Journey_become F hcf) (by rfl) (by exact hr.mono (by decide)) (by exact F.c "Journey") (by exact F.m "Journey" "become") kb_Journey_become_0 (by exact tk_cx) (ie_v 0) (ak_cons (ia_cons (ie_op (oi_add (by rfl)) (ie_attr (by exact hcf) (by rfl) (by exact F.at' ["Journey"] "own_lines") (ie_v 0)) (ie_lst (ia_cons (ie_v 1) ia_nil))) (ia_cons (ie_attr (by exact hcf) (by rfl) (by exact F.at' ["Journey"] "own_sums") (ie_v 0)) ia_nil)) ik_nil) rfl)))))
theorem kb_Journey_spend_0 (fd : FuncData) (FD : FunD T.K d_Journey_spend.name d_Journey_spend.qual d_Journey_spend.params d_Journey_spend.body d_Journey_spend.scope (d_Journey_spend.dvs T.K) [] (He.fAd T.K d_Journey_spend.at_) fd) : KBD T fd ["self", "spending"] 2 [] [(0, 0), (0, 1)] [] :=
  kbd_n FD fun kV doc pm an cdv ct us ws h1 h2 => match us, ws, h1, h2 with | [_, _], [], _, _ => rfl
theorem nd_is_kind : (["thing"] : List Str).Nodup := by decide +kernel
theorem sc_is_kind : FnScope ["thing"] ["thing"] d_is_kind.scope := ⟨rfl, rfl, rfl, nd_is_kind, rfl, by decide +kernel, by decide +kernel⟩
theorem ok_is_kind (F : Fx T mg lw) (hcf : T.cf = cf) : OkF T P w mg base 1 d_is_kind ["thing"] m_is_kind := by
  obtain ⟨fd, FD⟩ := F.defs 18 d_is_kind rfl
  refine OkF.mk' (N := ["thing"]) FD sc_is_kind fun cdv A outer s H E hr => ?_
  show ISs T E _ (defBody (top 18)) b_is_kind
  exact (is_one (is_ret (ie_and (ie_isi (tys := tysL) (Tt := .b "str") (by rfl) (by rfl) (by exact F.f "isinstance") (ie_v 0) (isTy_b (by rfl) (by exact F.f "str") (by decide +kernel)) (by exact F.is' tysL) (by exact F.ki tysL (.b "str"))) (ie_one (ie_cmp (oi_in (by rfl) (by exact hr.rm.units)) (ie_v 0) (ie_gtup (l := [.str "bed", .str "fee", .str "meal", .str "ride", .str "sundry"]) (by rfl) (by exact F.g "KINDS") (by exact F.tp 0) rfl) (by rfl))))))
theorem kb_is_kind_0 (fd : FuncData) (FD : FunD T.K d_is_kind.name d_is_kind.qual d_is_kind.params d_is_kind.body d_is_kind.scope (d_is_kind.dvs T.K) [] (He.fAd T.K d_is_kind.at_) fd) : KBD T fd ["thing"] 1 [] [(0, 0)] [] :=
  kbd_n FD fun kV doc pm an cdv ct us ws h1 h2 => match us, ws, h1, h2 with | [_], [], _, _ => rfl
theorem nd_NoSpending_init : (["self", "part"] : List Str).Nodup := by decide +kernel
theorem sc_NoSpending_init : FnScope ["self", "part"] ["self", "part"] d_NoSpending_init.scope := ⟨rfl, rfl, rfl, nd_NoSpending_init, rfl, by decide +kernel, by decide +kernel⟩
theorem bi_NoSpending_init (fd : FuncData) (FD : FunD T.K d_NoSpending_init.name d_NoSpending_init.qual d_NoSpending_init.params d_NoSpending_init.body d_NoSpending_init.scope (d_NoSpending_init.dvs T.K) [] (He.fAd T.K d_NoSpending_init.at_) fd) : L2.Binds T.K fd ["self", "part"] [] := FunD.bindsN FD fun _ _ _ _ _ _ us hl => match us, hl with | [_, _], _ => rfl
theorem oi_NoSpending (F : Fx T mg lw) : InitOk T P w mg base 1 d_NoSpending_init ["self", "part"] "NoSpending" ["part"] btVE "ValueError" "ValueError.__new__" "ValueError.__init__" := by
  obtain ⟨fd, FD⟩ := F.defs 19 d_NoSpending_init rfl
  have X := xi_of (F.b 5)
  have ob := ownBase_of (F.b 1)
  exact InitOk.of1 xbVE X.xc FD sc_NoSpending_init (by rfl) (X.no "part" (by simp)) (hcall := fun cdv A outer s H E ta ha => pe_xin_own xbVE (by rfl) (by exact F.g "PenceError") ob.1 ob.2.1 ob.2.2 ha)
theorem nd_NoHeads_init : (["self", "heads"] : List Str).Nodup := by decide +kernel
theorem sc_NoHeads_init : FnScope ["self", "heads"] ["self", "heads"] d_NoHeads_init.scope := ⟨rfl, rfl, rfl, nd_NoHeads_init, rfl, by decide +kernel, by decide +kernel⟩
theorem bi_NoHeads_init (fd : FuncData) (FD : FunD T.K d_NoHeads_init.name d_NoHeads_init.qual d_NoHeads_init.params d_NoHeads_init.body d_NoHeads_init.scope (d_NoHeads_init.dvs T.K) [] (He.fAd T.K d_NoHeads_init.at_) fd) : L2.Binds T.K fd ["self", "heads"] [] := FunD.bindsN FD fun _ _ _ _ _ _ us hl => match us, hl with | [_, _], _ => rfl
theorem oi_NoHeads (F : Fx T mg lw) : InitOk T P w mg base 1 d_NoHeads_init ["self", "heads"] "NoHeads" ["heads"] btZE "ZeroDivisionError" "ZeroDivisionError.__new__" "ZeroDivisionError.__init__" := by
  obtain ⟨fd, FD⟩ := F.defs 20 d_NoHeads_init rfl
  have X := xi_of (F.b 6)
  have ob := initIs_of (F.b 7)
  exact InitOk.of1 xbZE X.xc FD sc_NoHeads_init (by rfl) (X.no "heads" (by simp)) (hcall := fun cdv A outer s H E ta ha => pe_xin_blt xbZE (by rfl) (by exact F.f "ZeroDivisionError") (by kernel_rfl) tyZE (by decide +kernel) ob ha)
theorem nd_Spending_init : (["self", "kind", "amount", "day", "paper", "heads", "money"] : List Str).Nodup := by decide +kernel
theorem sc_Spending_init : FnScope ["self", "kind", "amount", "day", "paper", "heads", "money"] ["self", "kind", "amount", "day", "paper", "heads", "money"] d_Spending_init.scope := ⟨rfl, rfl, rfl, nd_Spending_init, rfl, by decide +kernel, by decide +kernel⟩
theorem ok_Spending_init (F : Fx T mg lw) (hcf : T.cf = cf) : OkF T P w mg base 3 d_Spending_init ["self", "kind", "amount", "day", "paper", "heads", "money"] m_Spending_init := by
  obtain ⟨fd, FD⟩ := F.defs 21 d_Spending_init rfl
  refine OkF.mk' (N := ["self", "kind", "amount", "day", "paper", "heads", "money"]) FD sc_Spending_init fun cdv A outer s H E hr => ?_
  show ISs T E _ (defBody (meth 20 0)) b_Spending_init
  exact (is_cons (is_if (ib_not (ib_val (ie_fnF (by exact ok_is_kind F hcf) (by rfl) (by exact hr.mono (by decide)) (by rfl) (by exact F.g "is_kind") kb_is_kind_0 (by exact tk_cx) (ak_cons (ia_cons (ie_v 1) ia_nil) ik_nil)))) (is_one (is_raiseF (c := "NoSpending") (by rfl) (by rfl) (by exact tk_cx) (oi_NoSpending F) rfl (xi_of (F.b 5)) (by exact hr.mono (by decide)) bi_NoSpending_init rfl (by rfl) (by exact F.g "NoSpending") (ia_cons ie_str ia_nil) (hlk1 (by rw [hcf]; rfl)))) is_nil)
  (is_cons (is_if (ib_not (ib_val (ie_fnF (by exact ok_is_whole F hcf) (by rfl) (by exact hr.mono (by decide)) (by rfl) (by exact F.g "is_whole") kb_is_whole_0 (by exact tk_cx) (ak_cons (ia_cons (ie_v 2) (ia_cons ie_int (ia_cons (ie_gint (by rfl) (by exact F.i "MOST_AMOUNT" 1000000)) ia_nil))) ik_nil)))) (is_one (is_raiseF (c := "NoSpending") (by rfl) (by rfl) (by exact tk_cx) (oi_NoSpending F) rfl (xi_of (F.b 5)) (by exact hr.mono (by decide)) bi_NoSpending_init rfl (by rfl) (by exact F.g "NoSpending") (ia_cons ie_str ia_nil) (hlk1 (by rw [hcf]; rfl)))) is_nil)
  (is_cons (is_if (ib_not (ib_val (ie_fnF (by exact ok_is_whole F hcf) (by rfl) (by exact hr.mono (by decide)) (by rfl) (by exact F.g "is_whole") kb_is_whole_0 (by exact tk_cx) (ak_cons (ia_cons (ie_v 3) (ia_cons ie_int (ia_cons (ie_gint (by rfl) (by exact F.i "LAST_DAY" 59)) ia_nil))) ik_nil)))) (is_one (is_raiseF (c := "NoSpending") (by rfl) (by rfl) (by exact tk_cx) (oi_NoSpending F) rfl (xi_of (F.b 5)) (by exact hr.mono (by decide)) bi_NoSpending_init rfl (by rfl) (by exact F.g "NoSpending") (ia_cons ie_str ia_nil) (hlk1 (by rw [hcf]; rfl)))) is_nil)
  (is_cons (is_if (ib_not (ib_val (ie_isi (tys := tysL) (Tt := .b "bool") (by rfl) (by rfl) (by exact F.f "isinstance") (ie_v 4) (isTy_b (by rfl) (by exact F.f "bool") (by decide +kernel)) (by exact F.is' tysL) (by exact F.ki tysL (.b "bool"))))) (is_one (is_raiseF (c := "NoSpending") (by rfl) (by rfl) (by exact tk_cx) (oi_NoSpending F) rfl (xi_of (F.b 5)) (by exact hr.mono (by decide)) bi_NoSpending_init rfl (by rfl) (by exact F.g "NoSpending") (ia_cons ie_str ia_nil) (hlk1 (by rw [hcf]; rfl)))) is_nil)
  (is_cons (is_if (ib_val (ie_fnF (by exact ok_is_whole F hcf) (by rfl) (by exact hr.mono (by decide)) (by rfl) (by exact F.g "is_whole") kb_is_whole_0 (by exact tk_cx) (ak_cons (ia_cons (ie_v 5) (ia_cons ie_int (ia_cons ie_int ia_nil))) ik_nil))) (is_one (is_raiseF (c := "NoHeads") (by rfl) (by rfl) (by exact tk_cx) (oi_NoHeads F) rfl (xi_of (F.b 6)) (by exact hr.mono (by decide)) bi_NoHeads_init rfl (by rfl) (by exact F.g "NoHeads") (ia_cons (ie_v 5) ia_nil) (hlk1 (by rw [hcf]; rfl)))) is_nil)
  (is_cons (is_if (ib_not (ib_val (ie_fnF (by exact ok_is_whole F hcf) (by rfl) (by exact hr.mono (by decide)) (by rfl) (by exact F.g "is_whole") kb_is_whole_0 (by exact tk_cx) (ak_cons (ia_cons (ie_v 5) (ia_cons ie_int (ia_cons (ie_gint (by rfl) (by exact F.i "MOST_HEADS" 6)) ia_nil))) ik_nil)))) (is_one (is_raiseF (c := "NoSpending") (by rfl) (by rfl) (by exact tk_cx) (oi_NoSpending F) rfl (xi_of (F.b 5)) (by exact hr.mono (by decide)) bi_NoSpending_init rfl (by rfl) (by exact F.g "NoSpending") (ia_cons ie_str ia_nil) (hlk1 (by rw [hcf]; rfl)))) is_nil)
  (is_cons (is_if (ib_not (ib_val (ie_fnF (by exact ok_is_whole F hcf) (by rfl) (by exact hr.mono (by decide)) (by rfl) (by exact F.g "is_whole") kb_is_whole_0 (by exact tk_cx) (ak_cons (ia_cons (ie_v 6) (ia_cons ie_int (ia_cons (ie_gint (by rfl) (by exact F.i "LAST_MONEY" 3)) ia_nil))) ik_nil)))) (is_one (is_raiseF (c := "NoSpending") (by rfl) (by rfl) (by exact tk_cx) (oi_NoSpending F) rfl (xi_of (F.b 5)) (by exact hr.mono (by decide)) bi_NoSpending_init rfl (by rfl) (by exact F.g "NoSpending") (ia_cons ie_str ia_nil) (hlk1 (by rw [hcf]; rfl)))) is_nil)
  (is_cons (is_setattr (by rfl) (by exact F.at' ["Spending"] "kind") (ie_v 0) (ie_v 1))
  (is_cons (is_setattr (by rfl) (by exact F.at' ["Spending"] "amount") (ie_v 0) (ie_v 2))
  (is_cons (is_setattr (by rfl) (by exact F.at' ["Spending"] "day") (ie_v 0) (ie_v 3))
  (is_cons (is_setattr (by rfl) (by exact F.at' ["Spending"] "paper") (ie_v 0) (ie_v 4))
  (is_cons (is_setattr (by rfl) (by exact F.at' ["Spending"] "heads") (ie_v 0) (ie_v 5))
  (is_one (is_setattr (by rfl) (by exact F.at' ["Spending"] "money") (ie_v 0) (ie_v 6)))))))))))))))
theorem kb_Spending_init_0 (fd : FuncData) (FD : FunD T.K d_Spending_init.name d_Spending_init.qual d_Spending_init.params d_Spending_init.body d_Spending_init.scope (d_Spending_init.dvs T.K) [] (He.fAd T.K d_Spending_init.at_) fd) : KBD T fd ["self", "kind", "amount", "day", "paper", "heads", "money"] 6 [] [(0, 0), (0, 1), (0, 2), (0, 3), (0, 4), (0, 5), (1, 3)] [.int 0, .bl true, .int 1, .int 0] :=
  kbd_d (l := [.int 0, .bl true, .int 1, .int 0]) FD rfl (by decide) fun Ta kV doc pm an cdv ct us its ws h1 h2 h3 => match us, its, ws, h1, h2, h3 with | [_, _, _, _, _, _], [_, _, _, _], [], _, _, _ => ⟨_, rfl, rfl⟩
theorem kb_Spending_init_1 (fd : FuncData) (FD : FunD T.K d_Spending_init.name d_Spending_init.qual d_Spending_init.params d_Spending_init.body d_Spending_init.scope (d_Spending_init.dvs T.K) [] (He.fAd T.K d_Spending_init.at_) fd) : KBD T fd ["self", "kind", "amount", "day", "paper", "heads", "money"] 7 [] [(0, 0), (0, 1), (0, 2), (0, 3), (0, 4), (0, 5), (0, 6)] [.int 0, .bl true, .int 1, .int 0] :=
  kbd_d (l := [.int 0, .bl true, .int 1, .int 0]) FD rfl (by decide) fun Ta kV doc pm an cdv ct us its ws h1 h2 h3 => match us, its, ws, h1, h2, h3 with | [_, _, _, _, _, _, _], [_, _, _, _], [], _, _, _ => ⟨_, rfl, rfl⟩
theorem kb_Spending_init_2 (fd : FuncData) (FD : FunD T.K d_Spending_init.name d_Spending_init.qual d_Spending_init.params d_Spending_init.body d_Spending_init.scope (d_Spending_init.dvs T.K) [] (He.fAd T.K d_Spending_init.at_) fd) : KBD T fd ["self", "kind", "amount", "day", "paper", "heads", "money"] 4 [] [(0, 0), (0, 1), (0, 2), (0, 3), (1, 1), (1, 2), (1, 3)] [.int 0, .bl true, .int 1, .int 0] :=
  kbd_d (l := [.int 0, .bl true, .int 1, .int 0]) FD rfl (by decide) fun Ta kV doc pm an cdv ct us its ws h1 h2 h3 => match us, its, ws, h1, h2, h3 with | [_, _, _, _], [_, _, _, _], [], _, _, _ => ⟨_, rfl, rfl⟩
theorem nd_Spending_all_parts : (["self"] : List Str).Nodup := by decide +kernel
theorem sc_Spending_all_parts : FnScope ["self"] ["self"] d_Spending_all_parts.scope := ⟨rfl, rfl, rfl, nd_Spending_all_parts, rfl, by decide +kernel, by decide +kernel⟩
theorem ok_Spending_all_parts (F : Fx T mg lw) (hcf : T.cf = cf) : OkF T P w mg base 1 d_Spending_all_parts ["self"] m_Spending_all_parts := by
  obtain ⟨fd, FD⟩ := F.defs 22 d_Spending_all_parts rfl
  refine OkF.mk' (N := ["self"]) FD sc_Spending_all_parts fun cdv A outer s H E hr => ?_
  show ISs T E _ (defBody (meth 20 1)) b_Spending_all_parts
  exact (is_one (is_ret (ie_tup (ia_cons (ie_attr (by exact hcf) (by rfl) (by exact F.at' ["Spending"] "kind") (ie_v 0)) (ia_cons (ie_attr (by exact hcf) (by rfl) (by exact F.at' ["Spending"] "amount") (ie_v 0)) (ia_cons (ie_attr (by exact hcf) (by rfl) (by exact F.at' ["Spending"] "day") (ie_v 0)) (ia_cons (ie_attr (by exact hcf) (by rfl) (by exact F.at' ["Spending"] "paper") (ie_v 0)) (ia_cons (ie_attr (by exact hcf) (by rfl) (by exact F.at' ["Spending"] "heads") (ie_v 0)) (ia_cons (ie_attr (by exact hcf) (by rfl) (by exact F.at' ["Spending"] "money") (ie_v 0)) ia_nil)))))))))
theorem kb_Spending_all_parts_0 (fd : FuncData) (FD : FunD T.K d_Spending_all_parts.name d_Spending_all_parts.qual d_Spending_all_parts.params d_Spending_all_parts.body d_Spending_all_parts.scope (d_Spending_all_parts.dvs T.K) [] (He.fAd T.K d_Spending_all_parts.at_) fd) : KBD T fd ["self"] 1 [] [(0, 0)] [] :=
  kbd_n FD fun kV doc pm an cdv ct us ws h1 h2 => match us, ws, h1, h2 with | [_], [], _, _ => rfl
theorem nd_Spending_eq : (["self", "other"] : List Str).Nodup := by decide +kernel
theorem sc_Spending_eq : FnScope ["self", "other"] ["self", "other"] d_Spending_eq.scope := ⟨rfl, rfl, rfl, nd_Spending_eq, rfl, by decide +kernel, by decide +kernel⟩
theorem at_Spending_eq : d_Spending_eq.at_ = (("Spending" : PySem.Str), some ("__eq__" : PySem.Str)) := rfl
theorem bi_Spending_eq (fd : FuncData) (FD : FunD T.K d_Spending_eq.name d_Spending_eq.qual d_Spending_eq.params d_Spending_eq.body d_Spending_eq.scope (d_Spending_eq.dvs T.K) [] (He.fAd T.K d_Spending_eq.at_) fd) : L2.Binds T.K fd ["self", "other"] [] := FunD.bindsN FD fun _ _ _ _ _ _ us hl => match us, hl with | [_, _], _ => rfl
theorem ok_Spending_eq (F : Fx T mg lw) (hcf : T.cf = cf) : OkF T P w mg base 2 d_Spending_eq ["self", "other"] m_Spending_eq := by
  obtain ⟨fd, FD⟩ := F.defs 23 d_Spending_eq rfl
  refine OkF.mk' (N := ["self", "other"]) FD sc_Spending_eq fun cdv A outer s H E hr => ?_
  show ISs T E _ (defBody (meth 20 2)) b_Spending_eq
  exact (is_one (is_ret (ie_and (ie_isi (tys := tysL) (Tt := .o "Spending") (by rfl) (by rfl) (by exact F.f "isinstance") (ie_v 1) (isTy_o (by rfl) (by exact F.g "Spending")) (by exact F.is' tysL) (by exact F.ki tysL (.o "Spending"))) (ie_one (ie_cmp (oi_eqP (by rfl) (by exact hr.rm.units)) (ie_methF (cn := "Spending") (mn := "all_parts") (n := 0) (by exact hcf) (by exact ok_Spending_all_parts F hcf) (by rfl) (by exact hr.mono (by decide)) (by exact F.c "Spending") (by exact F.m "Spending" "all_parts") kb_Spending_all_parts_0 (by exact tk_cx) (ie_v 0) (ak_nil ik_nil) rfl) (ie_methF (cn := "Spending") (mn := "all_parts") (n := 0) (by exact hcf) (by exact ok_Spending_all_parts F hcf) (by rfl) (by exact hr.mono (by decide)) (by exact F.c "Spending") (by exact F.m "Spending" "all_parts") kb_Spending_all_parts_0 (by exact tk_cx) (ie_v 1) (ak_nil ik_nil) rfl) (by rfl))))))
theorem mem_tab_0 {c : String} {m : Fn} (h : tab_0 c = some m) : c ∈ cls_0 := by
  unfold tab_0 at h
  split at h
  · rename_i hc; subst hc; decide
  cases h
theorem eqh_0 (F : Fx T mg lw) (hcf : T.cf = cf) {X : Cx} (h1 : X.K = T.K) (h2 : X.prog = P) (h3 : X.w = w) (h4 : X.mg = mg) (h5 : X.base = base) : EqH T X tab_0 cls_0 2 where
  K := h1
  cl := fun c m h => by
    unfold tab_0 at h
    split at h
    · rename_i hc; subst hc; cases h
      exact ⟨⟨2, d_Spending_eq, by decide, by rw [h2, h3, h4, h5]; exact ok_Spending_eq F hcf, by rw [at_Spending_eq]; exact F.m "Spending" "__eq__", bi_Spending_eq⟩, of_decide_eq_true (F.b 8), of_decide_eq_true (F.b 9)⟩
    cases h
  inj := of_decide_eq_true (F.b 10)
  nf := fun c m h t ht => List.all_eq_true.mp (List.all_eq_true.mp (F.b 11) c (mem_tab_0 h)) t ht
  sub := fun c m h t ht => of_decide_eq_true (List.all_eq_true.mp (List.all_eq_true.mp (F.b 13) c (mem_tab_0 h)) t ht)
  nfo := fun c m h c2 hc => List.all_eq_true.mp (List.all_eq_true.mp (F.b 12) c (mem_tab_0 h)) c2 hc
theorem nd_Journey_undo : (["self"] : List Str).Nodup := by decide +kernel
theorem sc_Journey_undo : FnScope ["self"] ["self"] d_Journey_undo.scope := ⟨rfl, rfl, rfl, nd_Journey_undo, rfl, by decide +kernel, by decide +kernel⟩
theorem ok_Journey_undo (F : Fx T mg lw) (hcf : T.cf = cf) : OkF T P w mg base 12 d_Journey_undo ["self"] m_Journey_undo := by
  obtain ⟨fd, FD⟩ := F.defs 24 d_Journey_undo rfl
  refine OkF.mk' (N := ["self"]) FD sc_Journey_undo fun cdv A outer s H E hr => ?_
  show ISs T E _ (defBody (meth 31 7)) b_Journey_undo
  exact (is_cons (is_if (ib_eqA (oi_eqA (by exact eqh_0 F hcf (by rfl) (by rfl) (by rfl) (by rfl) (by rfl)) (by exact hr.mono (by decide))) (ie_attr (by exact hcf) (by rfl) (by exact F.at' ["Journey"] "own_past") (ie_v 0)) (ie_lst ia_nil) (by rfl)) (is_one (is_raise0 (c := "Nothing") (by rfl) (by rfl) (by exact tk_cx) (by exact He_exc F 0) (by rfl) (by exact F.g "Nothing"))) is_nil)
  (is_one (is_setA2 0 0 (by rfl) (by rfl) (by exact F.at' ["Journey"] "own_lines") (by exact F.at' ["Journey"] "own_sums") (pe_vr 0) (pe_vr 0) (ie_pop (by rfl) (ie_attr (by exact hcf) (by rfl) (by exact F.at' ["Journey"] "own_past") (ie_v 0))))))
theorem kb_Journey_undo_0 (fd : FuncData) (FD : FunD T.K d_Journey_undo.name d_Journey_undo.qual d_Journey_undo.params d_Journey_undo.body d_Journey_undo.scope (d_Journey_undo.dvs T.K) [] (He.fAd T.K d_Journey_undo.at_) fd) : KBD T fd ["self"] 1 [] [(0, 0)] [] :=
  kbd_n FD fun kV doc pm an cdv ct us ws h1 h2 => match us, ws, h1, h2 with | [_], [], _, _ => rfl
theorem nd_Journey_strike : (["self", "spending", "at"] : List Str).Nodup := by decide +kernel
theorem sc_Journey_strike : FnScope ["self", "spending", "at"] ["self", "spending"] d_Journey_strike.scope := ⟨rfl, rfl, rfl, nd_Journey_strike, rfl, by decide +kernel, by decide +kernel⟩
theorem ok_Journey_strike (F : Fx T mg lw) (hcf : T.cf = cf) : OkF T P w mg base 12 d_Journey_strike ["self", "spending"] m_Journey_strike := by
  obtain ⟨fd, FD⟩ := F.defs 25 d_Journey_strike rfl
  refine OkF.mk' (N := ["self", "spending", "at"]) FD sc_Journey_strike fun cdv A outer s H E hr => ?_
  show ISs T E _ (defBody (meth 31 5)) b_Journey_strike
  exact (is_cons (is_if (ib_inA (oi_ninA (by exact eqh_0 F hcf (by rfl) (by rfl) (by rfl) (by rfl) (by rfl)) (by exact hr.mono (by decide))) (ie_v 1) (ie_attr (by exact hcf) (by rfl) (by exact F.at' ["Journey"] "own_lines") (ie_v 0)) (by rfl)) (is_one (is_raise0 (c := "Absent") (by rfl) (by rfl) (by exact tk_cx) (by exact He_exc F 1) (by rfl) (by exact F.g "Absent"))) is_nil)
  (is_cons (is_st 2 nd_Journey_strike (ie_ixA (by exact eqh_0 F hcf (by rfl) (by rfl) (by rfl) (by rfl) (by rfl)) (by exact hr.mono (by decide)) (by rfl) (ie_attr (by exact hcf) (by rfl) (by exact F.at' ["Journey"] "own_lines") (ie_v 0)) (ie_v 1)))
  (is_one (is_expr (ie_methF (cn := "Journey") (mn := "become") (n := 2) (by exact hcf) (by exact ok_Journey_become F hcf) (by rfl) (by exact hr.mono (by decide)) (by exact F.c "Journey") (by exact F.m "Journey" "become") kb_Journey_become_0 (by exact tk_cx) (ie_v 0) (ak_cons (ia_cons (ie_op (oi_add (by rfl)) (ie_cut (by rfl) (ie_attr (by exact hcf) (by rfl) (by exact F.at' ["Journey"] "own_lines") (ie_v 0)) io_none (io_some (ie_v 2))) (ie_cut (by rfl) (ie_attr (by exact hcf) (by rfl) (by exact F.at' ["Journey"] "own_lines") (ie_v 0)) (io_some (ie_op (oi_add (by rfl)) (ie_v 2) ie_int)) io_none)) (ia_cons (ie_attr (by exact hcf) (by rfl) (by exact F.at' ["Journey"] "own_sums") (ie_v 0)) ia_nil)) ik_nil) rfl)))))
theorem kb_Journey_strike_0 (fd : FuncData) (FD : FunD T.K d_Journey_strike.name d_Journey_strike.qual d_Journey_strike.params d_Journey_strike.body d_Journey_strike.scope (d_Journey_strike.dvs T.K) [] (He.fAd T.K d_Journey_strike.at_) fd) : KBD T fd ["self", "spending"] 2 [] [(0, 0), (0, 1)] [] :=
  kbd_n FD fun kV doc pm an cdv ct us ws h1 h2 => match us, ws, h1, h2 with | [_, _], [], _, _ => rfl
theorem nd__law_spent : (["_law_row_here"] : List Str).Nodup := by decide +kernel
theorem sc__law_spent : FnScope ["_law_row_here"] ["_law_row_here"] d__law_spent.scope := ⟨rfl, rfl, rfl, nd__law_spent, rfl, by decide +kernel, by decide +kernel⟩
theorem ok__law_spent (F : Fx T mg lw) (hcf : T.cf = cf) : OkF T P w mg base 5 d__law_spent ["_law_row_here"] m__law_spent := by
  obtain ⟨fd, FD⟩ := F.defs 26 d__law_spent rfl
  refine OkF.mk' (N := ["_law_row_here"]) FD sc__law_spent fun cdv A outer s H E hr => ?_
  show ISs T E _ (defBody (top 39)) b__law_spent
  exact (is_one (is_ret (ie_frz (by exact hcf) (ie_newF (cn := "Spending") (by exact ok_Spending_init F hcf) (by exact F.mk' "Spending") (by rfl) (by exact hr.mono (by decide)) (by rfl) (by exact F.g "Spending") kb_Spending_init_1 (by exact tk_cx) (ak_cons (ia_cons (ie_idxB (by rfl) (by exact hu1 hr) (ie_v 0) ie_int) (ia_cons (ie_idxB (by rfl) (by exact hu1 hr) (ie_v 0) ie_int) (ia_cons (ie_idxB (by rfl) (by exact hu1 hr) (ie_v 0) ie_int) (ia_cons (ie_idxB (by rfl) (by exact hu1 hr) (ie_v 0) ie_int) (ia_cons (ie_idxB (by rfl) (by exact hu1 hr) (ie_v 0) ie_int) (ia_cons (ie_idxB (by rfl) (by exact hu1 hr) (ie_v 0) ie_int) ia_nil)))))) ik_nil) rfl))))
theorem kb__law_spent_0 (fd : FuncData) (FD : FunD T.K d__law_spent.name d__law_spent.qual d__law_spent.params d__law_spent.body d__law_spent.scope (d__law_spent.dvs T.K) [] (He.fAd T.K d__law_spent.at_) fd) : KBD T fd ["_law_row_here"] 1 [] [(0, 0)] [] :=
  kbd_n FD fun kV doc pm an cdv ct us ws h1 h2 => match us, ws, h1, h2 with | [_], [], _, _ => rfl
theorem nd_Journey_had : (["self", "amount"] : List Str).Nodup := by decide +kernel
theorem sc_Journey_had : FnScope ["self", "amount"] ["self", "amount"] d_Journey_had.scope := ⟨rfl, rfl, rfl, nd_Journey_had, rfl, by decide +kernel, by decide +kernel⟩
theorem ok_Journey_had (F : Fx T mg lw) (hcf : T.cf = cf) : OkF T P w mg base 5 d_Journey_had ["self", "amount"] m_Journey_had := by
  obtain ⟨fd, FD⟩ := F.defs 27 d_Journey_had rfl
  refine OkF.mk' (N := ["self", "amount"]) FD sc_Journey_had fun cdv A outer s H E hr => ?_
  show ISs T E _ (defBody (meth 31 6)) b_Journey_had
  exact (is_cons (is_if (ib_not (ib_val (ie_fnF (by exact ok_is_whole F hcf) (by rfl) (by exact hr.mono (by decide)) (by rfl) (by exact F.g "is_whole") kb_is_whole_0 (by exact tk_cx) (ak_cons (ia_cons (ie_v 1) (ia_cons ie_int (ia_cons (ie_gint (by rfl) (by exact F.i "MOST_HAD" 1000000000)) ia_nil))) ik_nil)))) (is_one (is_raise0 (c := "NoShare") (by rfl) (by rfl) (by exact tk_cx) (by exact He_exc F 2) (by rfl) (by exact F.g "NoShare"))) is_nil)
  (is_cons (is_if (ib_cmp (oi_eqP (by rfl) (by exact hr.rm.units)) (ie_b (by exact call_len) bo_lenA (by rfl) (by exact F.f "len") (by decide +kernel) (ia_cons (ie_attr (by exact hcf) (by rfl) (by exact F.at' ["Journey"] "own_sums") (ie_v 0)) ia_nil)) (ie_gint (by rfl) (by exact F.i "MOST_SUMS" 10)) (by rfl)) (is_one (is_raiseF (c := "TooMany") (by rfl) (by rfl) (by exact tk_cx) (oi_TooMany F) rfl (xi_of (F.b 4)) (by exact hr.mono (by decide)) bi_TooMany_init rfl (by rfl) (by exact F.g "TooMany") (ia_cons (ie_op (oi_add (by rfl)) (ie_gint (by rfl) (by exact F.i "MOST_SUMS" 10)) ie_int) (ia_cons (ie_gint (by rfl) (by exact F.i "MOST_SUMS" 10)) ia_nil)) (hlk2 (by rw [hcf]; rfl) (by decide +kernel)))) is_nil)
  (is_one (is_expr (ie_methF (cn := "Journey") (mn := "become") (n := 2) (by exact hcf) (by exact ok_Journey_become F hcf) (by rfl) (by exact hr.mono (by decide)) (by exact F.c "Journey") (by exact F.m "Journey" "become") kb_Journey_become_0 (by exact tk_cx) (ie_v 0) (ak_cons (ia_cons (ie_attr (by exact hcf) (by rfl) (by exact F.at' ["Journey"] "own_lines") (ie_v 0)) (ia_cons (ie_op (oi_add (by rfl)) (ie_attr (by exact hcf) (by rfl) (by exact F.at' ["Journey"] "own_sums") (ie_v 0)) (ie_lst (ia_cons (ie_v 1) ia_nil))) ia_nil)) ik_nil) rfl)))))
theorem kb_Journey_had_0 (fd : FuncData) (FD : FunD T.K d_Journey_had.name d_Journey_had.qual d_Journey_had.params d_Journey_had.body d_Journey_had.scope (d_Journey_had.dvs T.K) [] (He.fAd T.K d_Journey_had.at_) fd) : KBD T fd ["self", "amount"] 2 [] [(0, 0), (0, 1)] [] :=
  kbd_n FD fun kV doc pm an cdv ct us ws h1 h2 => match us, ws, h1, h2 with | [_, _], [], _, _ => rfl
theorem nd__law_among : (["_law_box_here", "_law_towns_here", "_law_parts", "_law_rows", "_law_sums", "_law_found", "_law_thing"] : List Str).Nodup := by decide +kernel
theorem sc__law_among : FnScope ["_law_box_here", "_law_towns_here", "_law_parts", "_law_rows", "_law_sums", "_law_found", "_law_thing"] ["_law_box_here", "_law_towns_here", "_law_parts", "_law_rows", "_law_sums"] d__law_among.scope := ⟨rfl, rfl, rfl, nd__law_among, rfl, by decide +kernel, by decide +kernel⟩
theorem ok__law_among (F : Fx T mg lw) (hcf : T.cf = cf) : OkF T P w mg base 13 d__law_among ["_law_box_here", "_law_towns_here", "_law_parts", "_law_rows", "_law_sums"] m__law_among := by
  obtain ⟨fd, FD⟩ := F.defs 28 d__law_among rfl
  refine OkF.mk' (N := ["_law_box_here", "_law_towns_here", "_law_parts", "_law_rows", "_law_sums", "_law_found", "_law_thing"]) FD sc__law_among fun cdv A outer s H E hr => ?_
  show ISs T E _ (defBody (top 43)) b__law_among
  exact (is_cons (is_st 5 nd__law_among (ie_newF (cn := "Journey") (by exact ok_Journey_init F hcf) (by exact F.mk' "Journey") (by rfl) (by exact hr.mono (by decide)) (by rfl) (by exact F.g "Journey") kb_Journey_init_0 (by exact tk_cx) (ak_cons (ia_cons (ie_v 1) (ia_cons (ie_idxB (by rfl) (by exact hu1 hr) (ie_v 2) ie_int) (ia_cons (ie_idxB (by rfl) (by exact hu1 hr) (ie_v 2) ie_int) ia_nil))) ik_nil) rfl))
  (is_cons (is_for (vs := allN 7) (by exact passes_of rfl) (by rfl) (ii_any (by rfl) (ie_fnF (by exact ok__law_mixed F hcf) (by rfl) (by exact hr.mono (by decide)) (by rfl) (by exact F.g "_law_mixed") kb__law_mixed_0 (by exact tk_cx) (ak_cons (ia_cons (ie_v 0) (ia_cons (ie_op (oi_add (by rfl)) (ie_v 3) (ie_v 4)) ia_nil)) ik_nil))) (ig_n 6 nd__law_among) (is_cons (is_if (ib_cmp (oi_eqP (by rfl) (by exact hr.rm.units)) (ie_fnF (by exact ok__law_take F hcf) (by rfl) (by exact hr.mono (by decide)) (by rfl) (by exact F.g "_law_take") kb__law_take_0 (by exact tk_cx) (ak_cons (ia_cons (ie_v 0) (ia_cons ie_int ia_nil)) ik_nil)) ie_int (by rfl)) (is_cons (is_expr (ie_methF (cn := "Journey") (mn := "spend") (n := 1) (by exact hcf) (by exact ok_Journey_spend F hcf) (by rfl) (by exact hr.mono (by decide)) (by exact F.c "Journey") (by exact F.m "Journey" "spend") kb_Journey_spend_0 (by exact tk_cx) (ie_v 5) (ak_cons (ia_cons (ie_frz (by exact hcf) (ie_newF (cn := "Spending") (by exact ok_Spending_init F hcf) (by exact F.mk' "Spending") (by rfl) (by exact hr.mono (by decide)) (by rfl) (by exact F.g "Spending") kb_Spending_init_0 (by exact tk_cx) (ak_cons (ia_cons ie_str (ia_cons ie_int (ia_cons (ie_op (oi_sub) (ie_b (by exact call_len) bo_lenA (by rfl) (by exact F.f "len") (by decide +kernel) (ia_cons (ie_v 1) ia_nil)) ie_int) (ia_cons ie_bl (ia_cons ie_int ia_nil))))) ik_nil) rfl)) ia_nil) ik_nil) rfl))
  (is_one (is_if (ib_cmp (oi_eqP (by rfl) (by exact hr.rm.units)) (ie_fnF (by exact ok__law_take F hcf) (by rfl) (by exact hr.mono (by decide)) (by rfl) (by exact F.g "_law_take") kb__law_take_0 (by exact tk_cx) (ak_cons (ia_cons (ie_v 0) (ia_cons ie_int ia_nil)) ik_nil)) ie_int (by rfl)) (is_one (is_expr (ie_methF (cn := "Journey") (mn := "undo") (n := 0) (by exact hcf) (by exact ok_Journey_undo F hcf) (by rfl) (by exact hr.mono (by decide)) (by exact F.c "Journey") (by exact F.m "Journey" "undo") kb_Journey_undo_0 (by exact tk_cx) (ie_v 5) (ak_nil ik_nil) rfl))) (is_one (is_expr (ie_methF (cn := "Journey") (mn := "strike") (n := 1) (by exact hcf) (by exact ok_Journey_strike F hcf) (by rfl) (by exact hr.mono (by decide)) (by exact F.c "Journey") (by exact F.m "Journey" "strike") kb_Journey_strike_0 (by exact tk_cx) (ie_v 5) (ak_cons (ia_cons (ie_frz (by exact hcf) (ie_newF (cn := "Spending") (by exact ok_Spending_init F hcf) (by exact F.mk' "Spending") (by rfl) (by exact hr.mono (by decide)) (by rfl) (by exact F.g "Spending") kb_Spending_init_0 (by exact tk_cx) (ak_cons (ia_cons ie_str (ia_cons ie_int (ia_cons (ie_op (oi_sub) (ie_b (by exact call_len) bo_lenA (by rfl) (by exact F.f "len") (by decide +kernel) (ia_cons (ie_v 1) ia_nil)) ie_int) (ia_cons ie_bl (ia_cons ie_int ia_nil))))) ik_nil) rfl)) ia_nil) ik_nil) rfl)))))) is_nil)
  (is_one (is_if (ib_val (ie_isi (tys := tysL) (Tt := .b "tuple") (by rfl) (by rfl) (by exact F.f "isinstance") (ie_v 6) (isTy_b (by rfl) (by exact F.f "tuple") (by decide +kernel)) (by exact F.is' tysL) (by exact F.ki tysL (.b "tuple")))) (is_one (is_expr (ie_methF (cn := "Journey") (mn := "spend") (n := 1) (by exact hcf) (by exact ok_Journey_spend F hcf) (by rfl) (by exact hr.mono (by decide)) (by exact F.c "Journey") (by exact F.m "Journey" "spend") kb_Journey_spend_0 (by exact tk_cx) (ie_v 5) (ak_cons (ia_cons (ie_fnF (by exact ok__law_spent F hcf) (by rfl) (by exact hr.mono (by decide)) (by rfl) (by exact F.g "_law_spent") kb__law_spent_0 (by exact tk_cx) (ak_cons (ia_cons (ie_v 6) ia_nil) ik_nil)) ia_nil) ik_nil) rfl))) (is_one (is_expr (ie_methF (cn := "Journey") (mn := "had") (n := 1) (by exact hcf) (by exact ok_Journey_had F hcf) (by rfl) (by exact hr.mono (by decide)) (by exact F.c "Journey") (by exact F.m "Journey" "had") kb_Journey_had_0 (by exact tk_cx) (ie_v 5) (ak_cons (ia_cons (ie_v 6) ia_nil) ik_nil) rfl)))))))
  (is_one (is_ret (ie_v 5)))))
theorem kb__law_among_0 (fd : FuncData) (FD : FunD T.K d__law_among.name d__law_among.qual d__law_among.params d__law_among.body d__law_among.scope (d__law_among.dvs T.K) [] (He.fAd T.K d__law_among.at_) fd) : KBD T fd ["_law_box_here", "_law_towns_here", "_law_parts", "_law_rows", "_law_sums"] 5 [] [(0, 0), (0, 1), (0, 2), (0, 3), (0, 4)] [] :=
  kbd_n FD fun kV doc pm an cdv ct us ws h1 h2 => match us, ws, h1, h2 with | [_, _, _, _, _], [], _, _ => rfl
theorem nd_Journey_eq : (["self", "other"] : List Str).Nodup := by decide +kernel
theorem sc_Journey_eq : FnScope ["self", "other"] ["self", "other"] d_Journey_eq.scope := ⟨rfl, rfl, rfl, nd_Journey_eq, rfl, by decide +kernel, by decide +kernel⟩
theorem at_Journey_eq : d_Journey_eq.at_ = (("Journey" : PySem.Str), some ("__eq__" : PySem.Str)) := rfl
theorem bi_Journey_eq (fd : FuncData) (FD : FunD T.K d_Journey_eq.name d_Journey_eq.qual d_Journey_eq.params d_Journey_eq.body d_Journey_eq.scope (d_Journey_eq.dvs T.K) [] (He.fAd T.K d_Journey_eq.at_) fd) : L2.Binds T.K fd ["self", "other"] [] := FunD.bindsN FD fun _ _ _ _ _ _ us hl => match us, hl with | [_, _], _ => rfl
theorem ok_Journey_eq (F : Fx T mg lw) (hcf : T.cf = cf) : OkF T P w mg base 12 d_Journey_eq ["self", "other"] m_Journey_eq := by
  obtain ⟨fd, FD⟩ := F.defs 29 d_Journey_eq rfl
  refine OkF.mk' (N := ["self", "other"]) FD sc_Journey_eq fun cdv A outer s H E hr => ?_
  show ISs T E _ (defBody (meth 31 2)) b_Journey_eq
  exact (is_cons (is_if (ib_not (ib_val (ie_isi (tys := tysL) (Tt := .o "Journey") (by rfl) (by rfl) (by exact F.f "isinstance") (ie_v 1) (isTy_o (by rfl) (by exact F.g "Journey")) (by exact F.is' tysL) (by exact F.ki tysL (.o "Journey"))))) (is_one (is_ret ie_bl)) is_nil)
  (is_cons (is_if (iw_pt (iw_or (ib_cmp (oi_neP (by rfl) (by exact hr.rm.units)) (ie_attr (by exact hcf) (by rfl) (by exact F.at' ["Journey"] "own_towns") (ie_v 0)) (ie_attr (by exact hcf) (by rfl) (by exact F.at' ["Journey"] "own_towns") (ie_v 1)) (by rfl)) (iw_or1 (ib_cmp (oi_neP (by rfl) (by exact hr.rm.units)) (ie_attr (by exact hcf) (by rfl) (by exact F.at' ["Journey"] "own_ends") (ie_v 0)) (ie_attr (by exact hcf) (by rfl) (by exact F.at' ["Journey"] "own_ends") (ie_v 1)) (by rfl))))) (is_one (is_ret ie_bl)) is_nil)
  (is_one (is_ret (ie_and (ie_eqA (oi_eqA (by exact eqh_0 F hcf (by rfl) (by rfl) (by rfl) (by rfl) (by rfl)) (by exact hr.mono (by decide))) (ie_attr (by exact hcf) (by rfl) (by exact F.at' ["Journey"] "own_lines") (ie_v 0)) (ie_attr (by exact hcf) (by rfl) (by exact F.at' ["Journey"] "own_lines") (ie_v 1)) (by rfl)) (ie_one (ie_cmp (oi_eqP (by rfl) (by exact hr.rm.units)) (ie_attr (by exact hcf) (by rfl) (by exact F.at' ["Journey"] "own_sums") (ie_v 0)) (ie_attr (by exact hcf) (by rfl) (by exact F.at' ["Journey"] "own_sums") (ie_v 1)) (by rfl))))))))
theorem nd_Journey_lines : (["self"] : List Str).Nodup := by decide +kernel
theorem sc_Journey_lines : FnScope ["self"] ["self"] d_Journey_lines.scope := ⟨rfl, rfl, rfl, nd_Journey_lines, rfl, by decide +kernel, by decide +kernel⟩
theorem ok_Journey_lines (F : Fx T mg lw) (hcf : T.cf = cf) : OkF T P w mg base 1 d_Journey_lines ["self"] m_Journey_lines := by
  obtain ⟨fd, FD⟩ := F.defs 30 d_Journey_lines rfl
  refine OkF.mk' (N := ["self"]) FD sc_Journey_lines fun cdv A outer s H E hr => ?_
  show ISs T E _ (defBody (meth 31 9)) b_Journey_lines
  exact (is_one (is_ret (ie_listM (by rfl) (by rfl) (by exact F.f "list") (by decide +kernel) (ia_cons (ie_attr (by exact hcf) (by rfl) (by exact F.at' ["Journey"] "own_lines") (ie_v 0)) ia_nil))))
theorem kb_Journey_lines_0 (fd : FuncData) (FD : FunD T.K d_Journey_lines.name d_Journey_lines.qual d_Journey_lines.params d_Journey_lines.body d_Journey_lines.scope (d_Journey_lines.dvs T.K) [] (He.fAd T.K d_Journey_lines.at_) fd) : KBD T fd ["self"] 1 [] [(0, 0)] [] :=
  kbd_n FD fun kV doc pm an cdv ct us ws h1 h2 => match us, ws, h1, h2 with | [_], [], _, _ => rfl
theorem nd_are_twins : (["one", "other"] : List Str).Nodup := by decide +kernel
theorem sc_are_twins : FnScope ["one", "other"] ["one", "other"] d_are_twins.scope := ⟨rfl, rfl, rfl, nd_are_twins, rfl, by decide +kernel, by decide +kernel⟩
theorem ok_are_twins (F : Fx T mg lw) (hcf : T.cf = cf) : OkF T P w mg base 1 d_are_twins ["one", "other"] m_are_twins := by
  obtain ⟨fd, FD⟩ := F.defs 31 d_are_twins rfl
  refine OkF.mk' (N := ["one", "other"]) FD sc_are_twins fun cdv A outer s H E hr => ?_
  show ISs T E _ (defBody (top 21)) b_are_twins
  exact (is_cons (is_if (iw_pt (iw_or (ib_cmp (oi_neP (by rfl) (by exact hr.rm.units)) (ie_attr (by exact hcf) (by rfl) (by exact F.at' ["Spending"] "kind") (ie_v 0)) (ie_attr (by exact hcf) (by rfl) (by exact F.at' ["Spending"] "kind") (ie_v 1)) (by rfl)) (iw_or1 (ib_cmp (oi_neP (by rfl) (by exact hr.rm.units)) (ie_attr (by exact hcf) (by rfl) (by exact F.at' ["Spending"] "amount") (ie_v 0)) (ie_attr (by exact hcf) (by rfl) (by exact F.at' ["Spending"] "amount") (ie_v 1)) (by rfl))))) (is_one (is_ret ie_bl)) is_nil)
  (is_one (is_ret (ie_and (ie_cmp (oi_eqP (by rfl) (by exact hr.rm.units)) (ie_attr (by exact hcf) (by rfl) (by exact F.at' ["Spending"] "day") (ie_v 0)) (ie_attr (by exact hcf) (by rfl) (by exact F.at' ["Spending"] "day") (ie_v 1)) (by rfl)) (ie_one (ie_cmp (oi_eqP (by rfl) (by exact hr.rm.units)) (ie_attr (by exact hcf) (by rfl) (by exact F.at' ["Spending"] "money") (ie_v 0)) (ie_attr (by exact hcf) (by rfl) (by exact F.at' ["Spending"] "money") (ie_v 1)) (by rfl)))))))
theorem kb_are_twins_0 (fd : FuncData) (FD : FunD T.K d_are_twins.name d_are_twins.qual d_are_twins.params d_are_twins.body d_are_twins.scope (d_are_twins.dvs T.K) [] (He.fAd T.K d_are_twins.at_) fd) : KBD T fd ["one", "other"] 2 [] [(0, 0), (0, 1)] [] :=
  kbd_n FD fun kV doc pm an cdv ct us ws h1 h2 => match us, ws, h1, h2 with | [_, _], [], _, _ => rfl
theorem nd_Journey_twins : (["self", "found", "place", "line", "other"] : List Str).Nodup := by decide +kernel
theorem sc_Journey_twins : FnScope ["self", "found", "place", "line", "other"] ["self"] d_Journey_twins.scope := ⟨rfl, rfl, rfl, nd_Journey_twins, rfl, by decide +kernel, by decide +kernel⟩
theorem ok_Journey_twins (F : Fx T mg lw) (hcf : T.cf = cf) : OkF T P w mg base 2 d_Journey_twins ["self"] m_Journey_twins := by
  obtain ⟨fd, FD⟩ := F.defs 32 d_Journey_twins rfl
  refine OkF.mk' (N := ["self", "found", "place", "line", "other"]) FD sc_Journey_twins fun cdv A outer s H E hr => ?_
  show ISs T E _ (defBody (meth 31 11)) b_Journey_twins
  exact (is_cons (is_st 1 nd_Journey_twins (ie_lstM ia_nil))
  (is_cons (is_for (vs := allN 5) (by exact passes_of rfl) (by rfl) (ii_enum (by rfl) (by rfl) (by exact F.f "enumerate") (ia_cons (ie_attr (by exact hcf) (by rfl) (by exact F.at' ["Journey"] "own_lines") (ie_v 0)) ia_nil)) (ig_tup (by rfl) (igs_cons (ig_n 2 nd_Journey_twins) (igs_cons (ig_n 3 nd_Journey_twins) igs_nil)) (len_cons (len_cons len_nil))) (is_one (is_if (ib_val (ie_b (by exact cr_any rfl) bo_any (by rfl) (by exact F.f "any") (by decide +kernel) (ia_cons (ie_lc (own := [("other", 4)]) (by rfl) nd_Journey_twins (ii_any (by rfl) (ie_cut (by rfl) (ie_attr (by exact hcf) (by rfl) (by exact F.at' ["Journey"] "own_lines") (ie_v 0)) io_none (io_some (ie_v 2)))) (blk_by (by kernel_rfl)) (fun _ _ _ _ _ => (ig_n 4 nd_Journey_twins)) (fun _ _ _ _ _ => its_nil) (fun _ _ _ _ _ => (ie_fnF (by exact ok_are_twins F hcf) (by rfl) (by exact hr.mono (by decide)) (by rfl) (by exact F.g "are_twins") kb_are_twins_0 (by exact tk_no) (ak_cons (ia_cons (ie_v 3) (ia_cons (ie_v 4) ia_nil)) ik_nil)))) ia_nil))) (is_one (is_expr (ie_app (by rfl) (ie_v 1) (ie_v 2)))) is_nil)))
  (is_one (is_ret (ie_v 1)))))
theorem kb_Journey_twins_0 (fd : FuncData) (FD : FunD T.K d_Journey_twins.name d_Journey_twins.qual d_Journey_twins.params d_Journey_twins.body d_Journey_twins.scope (d_Journey_twins.dvs T.K) [] (He.fAd T.K d_Journey_twins.at_) fd) : KBD T fd ["self"] 1 [] [(0, 0)] [] :=
  kbd_n FD fun kV doc pm an cdv ct us ws h1 h2 => match us, ws, h1, h2 with | [_], [], _, _ => rfl
theorem nd__law_travel : (["_law_towns_here", "_law_parts", "_law_rows", "_law_sums", "_law_found", "_law_row_here", "_law_bill"] : List Str).Nodup := by decide +kernel
theorem sc__law_travel : FnScope ["_law_towns_here", "_law_parts", "_law_rows", "_law_sums", "_law_found", "_law_row_here", "_law_bill"] ["_law_towns_here", "_law_parts", "_law_rows", "_law_sums"] d__law_travel.scope := ⟨rfl, rfl, rfl, nd__law_travel, rfl, by decide +kernel, by decide +kernel⟩
theorem ok__law_travel (F : Fx T mg lw) (hcf : T.cf = cf) : OkF T P w mg base 6 d__law_travel ["_law_towns_here", "_law_parts", "_law_rows", "_law_sums"] m__law_travel := by
  obtain ⟨fd, FD⟩ := F.defs 33 d__law_travel rfl
  refine OkF.mk' (N := ["_law_towns_here", "_law_parts", "_law_rows", "_law_sums", "_law_found", "_law_row_here", "_law_bill"]) FD sc__law_travel fun cdv A outer s H E hr => ?_
  show ISs T E _ (defBody (top 41)) b__law_travel
  exact (is_cons (is_st 4 nd__law_travel (ie_newF (cn := "Journey") (by exact ok_Journey_init F hcf) (by exact F.mk' "Journey") (by rfl) (by exact hr.mono (by decide)) (by rfl) (by exact F.g "Journey") kb_Journey_init_0 (by exact tk_cx) (ak_cons (ia_cons (ie_v 0) (ia_cons (ie_idxB (by rfl) (by exact hu1 hr) (ie_v 1) ie_int) (ia_cons (ie_idxB (by rfl) (by exact hu1 hr) (ie_v 1) ie_int) ia_nil))) ik_nil) rfl))
  (is_cons (is_for (vs := allN 7) (by exact passes_of rfl) (by rfl) (ii_any (by rfl) (ie_v 2)) (ig_n 5 nd__law_travel) (is_one (is_expr (ie_methF (cn := "Journey") (mn := "spend") (n := 1) (by exact hcf) (by exact ok_Journey_spend F hcf) (by rfl) (by exact hr.mono (by decide)) (by exact F.c "Journey") (by exact F.m "Journey" "spend") kb_Journey_spend_0 (by exact tk_cx) (ie_v 4) (ak_cons (ia_cons (ie_fnF (by exact ok__law_spent F hcf) (by rfl) (by exact hr.mono (by decide)) (by rfl) (by exact F.g "_law_spent") kb__law_spent_0 (by exact tk_cx) (ak_cons (ia_cons (ie_v 5) ia_nil) ik_nil)) ia_nil) ik_nil) rfl))))
  (is_cons (is_for (vs := allN 7) (by exact passes_of rfl) (by rfl) (ii_any (by rfl) (ie_v 3)) (ig_n 6 nd__law_travel) (is_one (is_expr (ie_methF (cn := "Journey") (mn := "had") (n := 1) (by exact hcf) (by exact ok_Journey_had F hcf) (by rfl) (by exact hr.mono (by decide)) (by exact F.c "Journey") (by exact F.m "Journey" "had") kb_Journey_had_0 (by exact tk_cx) (ie_v 4) (ak_cons (ia_cons (ie_v 6) ia_nil) ik_nil) rfl))))
  (is_one (is_ret (ie_v 4))))))
theorem kb__law_travel_0 (fd : FuncData) (FD : FunD T.K d__law_travel.name d__law_travel.qual d__law_travel.params d__law_travel.body d__law_travel.scope (d__law_travel.dvs T.K) [] (He.fAd T.K d__law_travel.at_) fd) : KBD T fd ["_law_towns_here", "_law_parts", "_law_rows", "_law_sums"] 4 [] [(0, 0), (0, 1), (0, 2), (0, 3)] [] :=
  kbd_n FD fun kV doc pm an cdv ct us ws h1 h2 => match us, ws, h1, h2 with | [_, _, _, _], [], _, _ => rfl
theorem nd__law_unlike_right : (["_law_box_here", "_law_one", "_law_towns_here", "_law_parts", "_law_rows", "_law_sums", "_law_others", "_law_some", "_law_even", "_law_at", "_law_row_here", "_law_more"] : List Str).Nodup := by decide +kernel
theorem sc__law_unlike_right : FnScope ["_law_box_here", "_law_one", "_law_towns_here", "_law_parts", "_law_rows", "_law_sums", "_law_others", "_law_some", "_law_even", "_law_at", "_law_row_here", "_law_more"] ["_law_box_here", "_law_one", "_law_towns_here", "_law_parts", "_law_rows", "_law_sums"] d__law_unlike_right.scope := ⟨rfl, rfl, rfl, nd__law_unlike_right, rfl, by decide +kernel, by decide +kernel⟩
theorem ok__law_unlike_right (F : Fx T mg lw) (hcf : T.cf = cf) : OkF T P w mg base 14 d__law_unlike_right ["_law_box_here", "_law_one", "_law_towns_here", "_law_parts", "_law_rows", "_law_sums"] m__law_unlike_right := by
  obtain ⟨fd, FD⟩ := F.defs 34 d__law_unlike_right rfl
  refine OkF.mk' (N := ["_law_box_here", "_law_one", "_law_towns_here", "_law_parts", "_law_rows", "_law_sums", "_law_others", "_law_some", "_law_even", "_law_at", "_law_row_here", "_law_more"]) FD sc__law_unlike_right fun cdv A outer s H E hr => ?_
  show ISs T E _ (defBody (top 44)) b__law_unlike_right
  exact (is_cons (is_st 6 nd__law_unlike_right (ie_lstM (ia_cons (ie_tup (ia_cons (ie_v 2) (ia_cons (ie_v 3) (ia_cons (ie_op (oi_add (by rfl)) (ie_v 4) (ie_lst (ia_cons (ie_tup (ia_cons ie_str (ia_cons ie_int (ia_cons ie_int (ia_cons ie_bl (ia_cons ie_int (ia_cons ie_int ia_nil))))))) ia_nil))) (ia_cons (ie_v 5) ia_nil))))) (ia_cons (ie_tup (ia_cons (ie_v 2) (ia_cons (ie_v 3) (ia_cons (ie_v 4) (ia_cons (ie_op (oi_add (by rfl)) (ie_v 5) (ie_lst (ia_cons ie_int ia_nil))) ia_nil))))) ia_nil))))
  (is_cons (is_expr (ie_app (by rfl) (ie_v 6) (ie_tup (ia_cons (ie_v 2) (ia_cons (ie_tup (ia_cons (ie_idxB (by rfl) (by exact hu1 hr) (ie_v 3) ie_int) (ia_cons (ie_op (oi_mod) (ie_op (oi_add (by rfl)) (ie_idxB (by rfl) (by exact hu1 hr) (ie_v 3) ie_int) ie_int) ie_int) ia_nil))) (ia_cons (ie_v 4) (ia_cons (ie_v 5) ia_nil)))))))
  (is_cons (is_expr (ie_app (by rfl) (ie_v 6) (ie_tup (ia_cons (ie_op (oi_add (by rfl)) (ie_tup (ia_cons (ie_op (oi_mod) (ie_op (oi_add (by rfl)) (ie_idxB (by rfl) (by exact hu1 hr) (ie_v 2) ie_int) ie_int) ie_int) ia_nil)) (ie_cut (by rfl) (ie_v 2) (io_some ie_int) io_none)) (ia_cons (ie_v 3) (ia_cons (ie_v 4) (ia_cons (ie_v 5) ia_nil)))))))
  (is_cons (is_if (ib_cmp (oi_neP (by rfl) (by exact hr.rm.units)) (ie_v 4) (ie_lst ia_nil) (by rfl)) (is_cons (is_st 9 nd__law_unlike_right (ie_fnF (by exact ok__law_take F hcf) (by rfl) (by exact hr.mono (by decide)) (by rfl) (by exact F.g "_law_take") kb__law_take_0 (by exact tk_cx) (ak_cons (ia_cons (ie_v 0) (ia_cons (ie_b (by exact call_len) bo_lenA (by rfl) (by exact F.f "len") (by decide +kernel) (ia_cons (ie_v 4) ia_nil)) ia_nil)) ik_nil)))
  (is_cons (is_expr (ie_app (by rfl) (ie_v 6) (ie_tup (ia_cons (ie_v 2) (ia_cons (ie_v 3) (ia_cons (ie_op (oi_add (by rfl)) (ie_cut (by rfl) (ie_v 4) io_none (io_some (ie_v 9))) (ie_cut (by rfl) (ie_v 4) (io_some (ie_op (oi_add (by rfl)) (ie_v 9) ie_int)) io_none)) (ia_cons (ie_v 5) ia_nil)))))))
  (is_cons (is_st 10 nd__law_unlike_right (ie_op (oi_add (by rfl)) (ie_op (oi_add (by rfl)) (ie_cut (by rfl) (ie_idxB (by rfl) (by exact hu1 hr) (ie_v 4) (ie_v 9)) io_none (io_some ie_int)) (ie_tup (ia_cons (ie_not (ie_idxB (by rfl) (by exact hu1 hr) (ie_idxB (by rfl) (by exact hu1 hr) (ie_v 4) (ie_v 9)) ie_int)) ia_nil))) (ie_cut (by rfl) (ie_idxB (by rfl) (by exact hu1 hr) (ie_v 4) (ie_v 9)) (io_some ie_int) io_none)))
  (is_one (is_expr (ie_app (by rfl) (ie_v 6) (ie_tup (ia_cons (ie_v 2) (ia_cons (ie_v 3) (ia_cons (ie_op (oi_add (by rfl)) (ie_op (oi_add (by rfl)) (ie_cut (by rfl) (ie_v 4) io_none (io_some (ie_v 9))) (ie_lst (ia_cons (ie_v 10) ia_nil))) (ie_cut (by rfl) (ie_v 4) (io_some (ie_op (oi_add (by rfl)) (ie_v 9) ie_int)) io_none)) (ia_cons (ie_v 5) ia_nil))))))))))) is_nil)
  (is_cons (is_if (ib_cmp (oi_neP (by rfl) (by exact hr.rm.units)) (ie_v 5) (ie_lst ia_nil) (by rfl)) (is_one (is_expr (ie_app (by rfl) (ie_v 6) (ie_tup (ia_cons (ie_v 2) (ia_cons (ie_v 3) (ia_cons (ie_v 4) (ia_cons (ie_cut (by rfl) (ie_v 5) (io_some ie_int) io_none) ia_nil)))))))) is_nil)
  (is_cons (is_for (vs := allN 12) (by exact passes_of rfl) (by rfl) (ii_any (by rfl) (ie_frzL (ie_v 6))) (ig_n 7 nd__law_unlike_right) (is_one (is_if (ib_eqV (oi_eqV (cn := "Journey") (by rfl) (by exact ok_Journey_eq F hcf) (by exact hr.mono (by decide)) (by rw [at_Journey_eq]; exact F.m "Journey" "__eq__") bi_Journey_eq) (ie_v 1) (ie_fnF (by exact ok__law_travel F hcf) (by rfl) (by exact hr.mono (by decide)) (by rfl) (by exact F.g "_law_travel") kb__law_travel_0 (by exact tk_cx) (ak_cons (ia_cons (ie_idxB (by rfl) (by exact hu1 hr) (ie_v 7) ie_int) (ia_cons (ie_idxB (by rfl) (by exact hu1 hr) (ie_v 7) ie_int) (ia_cons (ie_idxB (by rfl) (by exact hu1 hr) (ie_v 7) ie_int) (ia_cons (ie_idxB (by rfl) (by exact hu1 hr) (ie_v 7) ie_int) ia_nil)))) ik_nil)) (by rfl)) (is_one (is_ret ie_bl)) is_nil)))
  (is_cons (by first | exact (is_setLc (own := [("_law_more", 11)]) (by rfl) nd__law_unlike_right (by rfl) (by rfl) (by rfl) (ii_any (by rfl) (ie_lst (ia_cons (ie_lst (ia_cons ie_int (ia_cons ie_int ia_nil))) (ia_cons (ie_lst (ia_cons ie_int (ia_cons ie_int ia_nil))) (ia_cons (ie_lst (ia_cons ie_int ia_nil)) ia_nil))))) (blk_by (by kernel_rfl)) (fun _ _ _ _ _ => (ig_n 11 nd__law_unlike_right)) (fun _ _ _ _ _ => its_nil) (fun _ _ _ _ _ => (ie_fnF (by exact ok__law_travel F hcf) (by rfl) (by exact hr.mono (by decide)) (by rfl) (by exact F.g "_law_travel") kb__law_travel_0 (by exact tk_no) (ak_cons (ia_cons (ie_v 2) (ia_cons (ie_v 3) (ia_cons (ie_v 4) (ia_cons (ie_op (oi_add (by rfl)) (ie_v 5) (ie_v 11)) ia_nil)))) ik_nil)))) | exact (is_st 8 nd__law_unlike_right (ie_lc (own := [("_law_more", 11)]) (by rfl) nd__law_unlike_right (ii_any (by rfl) (ie_lst (ia_cons (ie_lst (ia_cons ie_int (ia_cons ie_int ia_nil))) (ia_cons (ie_lst (ia_cons ie_int (ia_cons ie_int ia_nil))) (ia_cons (ie_lst (ia_cons ie_int ia_nil)) ia_nil))))) (blk_by (by kernel_rfl)) (fun _ _ _ _ _ => (ig_n 11 nd__law_unlike_right)) (fun _ _ _ _ _ => its_nil) (fun _ _ _ _ _ => (ie_fnF (by exact ok__law_travel F hcf) (by rfl) (by exact hr.mono (by decide)) (by rfl) (by exact F.g "_law_travel") kb__law_travel_0 (by exact tk_no) (ak_cons (ia_cons (ie_v 2) (ia_cons (ie_v 3) (ia_cons (ie_v 4) (ia_cons (ie_op (oi_add (by rfl)) (ie_v 5) (ie_v 11)) ia_nil)))) ik_nil))))))
  (is_one (is_ret (ie_and (ie_eqV (oi_neV (cn := "Journey") (by rfl) (by exact ok_Journey_eq F hcf) (by exact hr.mono (by decide)) (by rw [at_Journey_eq]; exact F.m "Journey" "__eq__") (by exact of_decide_eq_true (F.b 14)) (by exact of_decide_eq_true (F.b 15)) bi_Journey_eq) (ie_idxB (by rfl) (by exact hu1 hr) (ie_v 8) ie_int) (ie_idxB (by rfl) (by exact hu1 hr) (ie_v 8) ie_int) (by rfl)) (ie_and (ie_eqV (oi_neV (cn := "Journey") (by rfl) (by exact ok_Journey_eq F hcf) (by exact hr.mono (by decide)) (by rw [at_Journey_eq]; exact F.m "Journey" "__eq__") (by exact of_decide_eq_true (F.b 14)) (by exact of_decide_eq_true (F.b 15)) bi_Journey_eq) (ie_idxB (by rfl) (by exact hu1 hr) (ie_v 8) ie_int) (ie_idxB (by rfl) (by exact hu1 hr) (ie_v 8) ie_int) (by rfl)) (ie_one (ie_eqV (oi_neV (cn := "Journey") (by rfl) (by exact ok_Journey_eq F hcf) (by exact hr.mono (by decide)) (by rw [at_Journey_eq]; exact F.m "Journey" "__eq__") (by exact of_decide_eq_true (F.b 14)) (by exact of_decide_eq_true (F.b 15)) bi_Journey_eq) (ie_idxB (by rfl) (by exact hu1 hr) (ie_v 8) ie_int) (ie_idxB (by rfl) (by exact hu1 hr) (ie_v 8) ie_int) (by rfl))))))))))))))
theorem kb__law_unlike_right_0 (fd : FuncData) (FD : FunD T.K d__law_unlike_right.name d__law_unlike_right.qual d__law_unlike_right.params d__law_unlike_right.body d__law_unlike_right.scope (d__law_unlike_right.dvs T.K) [] (He.fAd T.K d__law_unlike_right.at_) fd) : KBD T fd ["_law_box_here", "_law_one", "_law_towns_here", "_law_parts", "_law_rows", "_law_sums"] 6 [] [(0, 0), (0, 1), (0, 2), (0, 3), (0, 4), (0, 5)] [] :=
  kbd_n FD fun kV doc pm an cdv ct us ws h1 h2 => match us, ws, h1, h2 with | [_, _, _, _, _, _], [], _, _ => rfl
theorem nd_Journey_twin : (["self", "found"] : List Str).Nodup := by decide +kernel
theorem sc_Journey_twin : FnScope ["self", "found"] ["self"] d_Journey_twin.scope := ⟨rfl, rfl, rfl, nd_Journey_twin, rfl, by decide +kernel, by decide +kernel⟩
theorem ok_Journey_twin (F : Fx T mg lw) (hcf : T.cf = cf) : OkF T P w mg base 5 d_Journey_twin ["self"] m_Journey_twin := by
  obtain ⟨fd, FD⟩ := F.defs 35 d_Journey_twin rfl
  refine OkF.mk' (N := ["self", "found"]) FD sc_Journey_twin fun cdv A outer s H E hr => ?_
  show ISs T E _ (defBody (meth 31 8)) b_Journey_twin
  exact (is_cons (is_st 1 nd_Journey_twin (ie_newF (cn := "Journey") (by exact ok_Journey_init F hcf) (by exact F.mk' "Journey") (by rfl) (by exact hr.mono (by decide)) (by rfl) (by exact F.g "Journey") kb_Journey_init_0 (by exact tk_cx) (ak_cons (ia_cons (ie_attr (by exact hcf) (by rfl) (by exact F.at' ["Journey"] "own_towns") (ie_v 0)) (ia_cons (ie_idxB (by rfl) (by exact hu1 hr) (ie_attr (by exact hcf) (by rfl) (by exact F.at' ["Journey"] "own_ends") (ie_v 0)) ie_int) (ia_cons (ie_idxB (by rfl) (by exact hu1 hr) (ie_attr (by exact hcf) (by rfl) (by exact F.at' ["Journey"] "own_ends") (ie_v 0)) ie_int) ia_nil))) ik_nil) rfl))
  (is_cons (is_setattr (by rfl) (by exact F.at' ["Journey"] "own_lines") (ie_v 1) (ie_attr (by exact hcf) (by rfl) (by exact F.at' ["Journey"] "own_lines") (ie_v 0)))
  (is_cons (is_setattr (by rfl) (by exact F.at' ["Journey"] "own_sums") (ie_v 1) (ie_attr (by exact hcf) (by rfl) (by exact F.at' ["Journey"] "own_sums") (ie_v 0)))
  (is_cons (is_setattr (by rfl) (by exact F.at' ["Journey"] "own_past") (ie_v 1) (ie_listM (by rfl) (by rfl) (by exact F.f "list") (by decide +kernel) (ia_cons (ie_attr (by exact hcf) (by rfl) (by exact F.at' ["Journey"] "own_past") (ie_v 0)) ia_nil)))
  (is_one (is_ret (ie_v 1)))))))
theorem kb_Journey_twin_0 (fd : FuncData) (FD : FunD T.K d_Journey_twin.name d_Journey_twin.qual d_Journey_twin.params d_Journey_twin.body d_Journey_twin.scope (d_Journey_twin.dvs T.K) [] (He.fAd T.K d_Journey_twin.at_) fd) : KBD T fd ["self"] 1 [] [(0, 0)] [] :=
  kbd_n FD fun kV doc pm an cdv ct us ws h1 h2 => match us, ws, h1, h2 with | [_], [], _, _ => rfl
theorem nd_Journey_len : (["self"] : List Str).Nodup := by decide +kernel
theorem sc_Journey_len : FnScope ["self"] ["self"] d_Journey_len.scope := ⟨rfl, rfl, rfl, nd_Journey_len, rfl, by decide +kernel, by decide +kernel⟩
theorem at_Journey_len : d_Journey_len.at_ = (("Journey" : PySem.Str), some ("__len__" : PySem.Str)) := rfl
theorem bi_Journey_len (fd : FuncData) (FD : FunD T.K d_Journey_len.name d_Journey_len.qual d_Journey_len.params d_Journey_len.body d_Journey_len.scope (d_Journey_len.dvs T.K) [] (He.fAd T.K d_Journey_len.at_) fd) : L2.Binds T.K fd ["self"] [] := FunD.bindsN FD fun _ _ _ _ _ _ us hl => match us, hl with | [_], _ => rfl
theorem ok_Journey_len (F : Fx T mg lw) (hcf : T.cf = cf) : OkF T P w mg base 1 d_Journey_len ["self"] m_Journey_len := by
  obtain ⟨fd, FD⟩ := F.defs 36 d_Journey_len rfl
  refine OkF.mk' (N := ["self"]) FD sc_Journey_len fun cdv A outer s H E hr => ?_
  show ISs T E _ (defBody (meth 31 1)) b_Journey_len
  exact (is_one (is_ret (ie_b (by exact call_len) bo_lenA (by rfl) (by exact F.f "len") (by decide +kernel) (ia_cons (ie_attr (by exact hcf) (by rfl) (by exact F.at' ["Journey"] "own_lines") (ie_v 0)) ia_nil))))
theorem nd__law_twin_right : (["_law_box_here", "_law_one", "_law_other", "_law_rows", "_law_kin", "_law_turn"] : List Str).Nodup := by decide +kernel
theorem sc__law_twin_right : FnScope ["_law_box_here", "_law_one", "_law_other", "_law_rows", "_law_kin", "_law_turn"] ["_law_box_here", "_law_one", "_law_other", "_law_rows"] d__law_twin_right.scope := ⟨rfl, rfl, rfl, nd__law_twin_right, rfl, by decide +kernel, by decide +kernel⟩
theorem ok__law_twin_right (F : Fx T mg lw) (hcf : T.cf = cf) : OkF T P w mg base 14 d__law_twin_right ["_law_box_here", "_law_one", "_law_other", "_law_rows"] m__law_twin_right := by
  obtain ⟨fd, FD⟩ := F.defs 37 d__law_twin_right rfl
  refine OkF.mk' (N := ["_law_box_here", "_law_one", "_law_other", "_law_rows", "_law_kin", "_law_turn"]) FD sc__law_twin_right fun cdv A outer s H E hr => ?_
  show ISs T E _ (defBody (top 45)) b__law_twin_right
  exact (is_cons (is_st 4 nd__law_twin_right (ie_methF (cn := "Journey") (mn := "twin") (n := 0) (by exact hcf) (by exact ok_Journey_twin F hcf) (by rfl) (by exact hr.mono (by decide)) (by exact F.c "Journey") (by exact F.m "Journey" "twin") kb_Journey_twin_0 (by exact tk_cx) (ie_v 1) (ak_nil ik_nil) rfl))
  (is_cons (is_if (iw_pt (iw_or (ib_eqV (oi_neV (cn := "Journey") (by rfl) (by exact ok_Journey_eq F hcf) (by exact hr.mono (by decide)) (by rw [at_Journey_eq]; exact F.m "Journey" "__eq__") (by exact of_decide_eq_true (F.b 14)) (by exact of_decide_eq_true (F.b 15)) bi_Journey_eq) (ie_v 4) (ie_v 1) (by rfl)) (iw_or1 (ib_not (ib_val (ie_isi (tys := tysL) (Tt := .o "Journey") (by rfl) (by rfl) (by exact F.f "isinstance") (ie_v 4) (isTy_o (by rfl) (by exact F.g "Journey")) (by exact F.is' tysL) (by exact F.ki tysL (.o "Journey")))))))) (is_one (is_ret ie_bl)) is_nil)
  (is_cons (is_expr (ie_methF (cn := "Journey") (mn := "spend") (n := 1) (by exact hcf) (by exact ok_Journey_spend F hcf) (by rfl) (by exact hr.mono (by decide)) (by exact F.c "Journey") (by exact F.m "Journey" "spend") kb_Journey_spend_0 (by exact tk_cx) (ie_v 4) (ak_cons (ia_cons (ie_frz (by exact hcf) (ie_newF (cn := "Spending") (by exact ok_Spending_init F hcf) (by exact F.mk' "Spending") (by rfl) (by exact hr.mono (by decide)) (by rfl) (by exact F.g "Spending") kb_Spending_init_2 (by exact tk_cx) (ak_cons (ia_cons ie_str (ia_cons ie_int (ia_cons ie_int ia_nil))) ik_nil) rfl)) ia_nil) ik_nil) rfl))
  (is_cons (is_if (iw_pt (iw_or (ib_eqV (oi_eqV (cn := "Journey") (by rfl) (by exact ok_Journey_eq F hcf) (by exact hr.mono (by decide)) (by rw [at_Journey_eq]; exact F.m "Journey" "__eq__") bi_Journey_eq) (ie_v 4) (ie_v 1) (by rfl)) (iw_or (ib_eqV (oi_neV (cn := "Journey") (by rfl) (by exact ok_Journey_eq F hcf) (by exact hr.mono (by decide)) (by rw [at_Journey_eq]; exact F.m "Journey" "__eq__") (by exact of_decide_eq_true (F.b 14)) (by exact of_decide_eq_true (F.b 15)) bi_Journey_eq) (ie_v 1) (ie_v 2) (by rfl)) (iw_or (ib_cmp (oi_neP (by rfl) (by exact hr.rm.units)) (ie_lenV (cn := "Journey") (by rfl) (by exact ok_Journey_len F hcf) (by exact RG.in1 (hr.mono (by decide))) (by rw [at_Journey_len]; exact F.m "Journey" "__len__") bi_Journey_len (by rfl) (by exact F.f "len") (ia_cons (ie_v 1) ia_nil)) (ie_b (by exact call_len) bo_lenA (by rfl) (by exact F.f "len") (by decide +kernel) (ia_cons (ie_v 3) ia_nil)) (by rfl)) (iw_or1 (ib_cmp (oi_neP (by rfl) (by exact hr.rm.units)) (ie_lenV (cn := "Journey") (by rfl) (by exact ok_Journey_len F hcf) (by exact RG.in1 (hr.mono (by decide))) (by rw [at_Journey_len]; exact F.m "Journey" "__len__") bi_Journey_len (by rfl) (by exact F.f "len") (ia_cons (ie_v 4) ia_nil)) (ie_op (oi_add (by rfl)) (ie_b (by exact call_len) bo_lenA (by rfl) (by exact F.f "len") (by decide +kernel) (ia_cons (ie_v 3) ia_nil)) ie_int) (by rfl))))))) (is_one (is_ret ie_bl)) is_nil)
  (is_cons (is_expr (ie_methF (cn := "Journey") (mn := "undo") (n := 0) (by exact hcf) (by exact ok_Journey_undo F hcf) (by rfl) (by exact hr.mono (by decide)) (by exact F.c "Journey") (by exact F.m "Journey" "undo") kb_Journey_undo_0 (by exact tk_cx) (ie_v 4) (ak_nil ik_nil) rfl))
  (is_cons (is_expr (ie_methF (cn := "Journey") (mn := "had") (n := 1) (by exact hcf) (by exact ok_Journey_had F hcf) (by rfl) (by exact hr.mono (by decide)) (by exact F.c "Journey") (by exact F.m "Journey" "had") kb_Journey_had_0 (by exact tk_cx) (ie_v 1) (ak_cons (ia_cons ie_int ia_nil) ik_nil) rfl))
  (is_cons (is_if (iw_pt (iw_or (ib_eqV (oi_neV (cn := "Journey") (by rfl) (by exact ok_Journey_eq F hcf) (by exact hr.mono (by decide)) (by rw [at_Journey_eq]; exact F.m "Journey" "__eq__") (by exact of_decide_eq_true (F.b 14)) (by exact of_decide_eq_true (F.b 15)) bi_Journey_eq) (ie_v 4) (ie_v 2) (by rfl)) (iw_or1 (ib_eqV (oi_eqV (cn := "Journey") (by rfl) (by exact ok_Journey_eq F hcf) (by exact hr.mono (by decide)) (by rw [at_Journey_eq]; exact F.m "Journey" "__eq__") bi_Journey_eq) (ie_v 1) (ie_v 2) (by rfl))))) (is_one (is_ret ie_bl)) is_nil)
  (is_cons (is_expr (ie_methF (cn := "Journey") (mn := "undo") (n := 0) (by exact hcf) (by exact ok_Journey_undo F hcf) (by rfl) (by exact hr.mono (by decide)) (by exact F.c "Journey") (by exact F.m "Journey" "undo") kb_Journey_undo_0 (by exact tk_cx) (ie_v 1) (ak_nil ik_nil) rfl))
  (is_cons (is_for (vs := allN 6) (by exact passes_of rfl) (by rfl) (ii_r1 (by rfl) (by exact F.f "range") (ia_cons (ie_b (by exact call_len) bo_lenA (by rfl) (by exact F.f "len") (by decide +kernel) (ia_cons (ie_v 3) ia_nil)) ia_nil)) (ig_n 5 nd__law_twin_right) (is_one (is_expr (ie_methF (cn := "Journey") (mn := "strike") (n := 1) (by exact hcf) (by exact ok_Journey_strike F hcf) (by rfl) (by exact hr.mono (by decide)) (by exact F.c "Journey") (by exact F.m "Journey" "strike") kb_Journey_strike_0 (by exact tk_cx) (ie_v 4) (ak_cons (ia_cons (ie_idxB (by rfl) (by exact hu1 hr) (ie_methF (cn := "Journey") (mn := "lines") (n := 0) (by exact hcf) (by exact ok_Journey_lines F hcf) (by rfl) (by exact hr.mono (by decide)) (by exact F.c "Journey") (by exact F.m "Journey" "lines") kb_Journey_lines_0 (by exact tk_cx) (ie_v 4) (ak_nil ik_nil) rfl) ie_int) ia_nil) ik_nil) rfl))))
  (is_one (is_ret (ie_and (ie_cmp (oi_eqP (by rfl) (by exact hr.rm.units)) (ie_lenV (cn := "Journey") (by rfl) (by exact ok_Journey_len F hcf) (by exact RG.in1 (hr.mono (by decide))) (by rw [at_Journey_len]; exact F.m "Journey" "__len__") bi_Journey_len (by rfl) (by exact F.f "len") (ia_cons (ie_v 4) ia_nil)) ie_int (by rfl)) (ie_and (ie_eqV (oi_eqV (cn := "Journey") (by rfl) (by exact ok_Journey_eq F hcf) (by exact hr.mono (by decide)) (by rw [at_Journey_eq]; exact F.m "Journey" "__eq__") bi_Journey_eq) (ie_v 1) (ie_v 2) (by rfl)) (ie_one (ie_cmp (oi_eqP (by rfl) (by exact hr.rm.units)) (ie_lenV (cn := "Journey") (by rfl) (by exact ok_Journey_len F hcf) (by exact RG.in1 (hr.mono (by decide))) (by rw [at_Journey_len]; exact F.m "Journey" "__len__") bi_Journey_len (by rfl) (by exact F.f "len") (ia_cons (ie_v 1) ia_nil)) (ie_b (by exact call_len) bo_lenA (by rfl) (by exact F.f "len") (by decide +kernel) (ia_cons (ie_v 3) ia_nil)) (by rfl))))))))))))))))
theorem kb__law_twin_right_0 (fd : FuncData) (FD : FunD T.K d__law_twin_right.name d__law_twin_right.qual d__law_twin_right.params d__law_twin_right.body d__law_twin_right.scope (d__law_twin_right.dvs T.K) [] (He.fAd T.K d__law_twin_right.at_) fd) : KBD T fd ["_law_box_here", "_law_one", "_law_other", "_law_rows"] 4 [] [(0, 0), (0, 1), (0, 2), (0, 3)] [] :=
  kbd_n FD fun kV doc pm an cdv ct us ws h1 h2 => match us, ws, h1, h2 with | [_, _, _, _], [], _, _ => rfl
theorem nd__law_undone_right : (["_law_towns_here", "_law_parts", "_law_rows", "_law_sums", "_law_kin", "_law_turn", "_law_one", "_law_first"] : List Str).Nodup := by decide +kernel
theorem sc__law_undone_right : FnScope ["_law_towns_here", "_law_parts", "_law_rows", "_law_sums", "_law_kin", "_law_turn", "_law_one", "_law_first"] ["_law_towns_here", "_law_parts", "_law_rows", "_law_sums"] d__law_undone_right.scope := ⟨rfl, rfl, rfl, nd__law_undone_right, rfl, by decide +kernel, by decide +kernel⟩
theorem ok__law_undone_right (F : Fx T mg lw) (hcf : T.cf = cf) : OkF T P w mg base 14 d__law_undone_right ["_law_towns_here", "_law_parts", "_law_rows", "_law_sums"] m__law_undone_right := by
  obtain ⟨fd, FD⟩ := F.defs 38 d__law_undone_right rfl
  refine OkF.mk' (N := ["_law_towns_here", "_law_parts", "_law_rows", "_law_sums", "_law_kin", "_law_turn", "_law_one", "_law_first"]) FD sc__law_undone_right fun cdv A outer s H E hr => ?_
  show ISs T E _ (defBody (top 46)) b__law_undone_right
  exact (is_cons (by first | exact (is_par2 6 7 nd__law_undone_right (ia_cons (ie_fnF (by exact ok__law_travel F hcf) (by rfl) (by exact hr.mono (by decide)) (by rfl) (by exact F.g "_law_travel") kb__law_travel_0 (by exact tk_cx) (ak_cons (ia_cons (ie_v 0) (ia_cons (ie_v 1) (ia_cons (ie_v 2) (ia_cons (ie_v 3) ia_nil)))) ik_nil)) (ia_cons (ie_newF (cn := "Journey") (by exact ok_Journey_init F hcf) (by exact F.mk' "Journey") (by rfl) (by exact hr.mono (by decide)) (by rfl) (by exact F.g "Journey") kb_Journey_init_0 (by exact tk_cx) (ak_cons (ia_cons (ie_v 0) (ia_cons (ie_idxB (by rfl) (by exact hu1 hr) (ie_v 1) ie_int) (ia_cons (ie_idxB (by rfl) (by exact hu1 hr) (ie_v 1) ie_int) ia_nil))) ik_nil) rfl) ia_nil))) | exact (is_par2u (is_unp (vs := allN 8) (ie_tup (ia_cons (ie_fnF (by exact ok__law_travel F hcf) (by rfl) (by exact hr.mono (by decide)) (by rfl) (by exact F.g "_law_travel") kb__law_travel_0 (by exact tk_cx) (ak_cons (ia_cons (ie_v 0) (ia_cons (ie_v 1) (ia_cons (ie_v 2) (ia_cons (ie_v 3) ia_nil)))) ik_nil)) (ia_cons (ie_newF (cn := "Journey") (by exact ok_Journey_init F hcf) (by exact F.mk' "Journey") (by rfl) (by exact hr.mono (by decide)) (by rfl) (by exact F.g "Journey") kb_Journey_init_0 (by exact tk_cx) (ak_cons (ia_cons (ie_v 0) (ia_cons (ie_idxB (by rfl) (by exact hu1 hr) (ie_v 1) ie_int) (ia_cons (ie_idxB (by rfl) (by exact hu1 hr) (ie_v 1) ie_int) ia_nil))) ik_nil) rfl) ia_nil))) (ig_tup (by rfl) (igs_cons (ig_n 6 nd__law_undone_right) (igs_cons (ig_n 7 nd__law_undone_right) igs_nil)) (len_cons (len_cons len_nil))))))
  (is_cons (is_st 4 nd__law_undone_right (ie_methF (cn := "Journey") (mn := "twin") (n := 0) (by exact hcf) (by exact ok_Journey_twin F hcf) (by rfl) (by exact hr.mono (by decide)) (by exact F.c "Journey") (by exact F.m "Journey" "twin") kb_Journey_twin_0 (by exact tk_cx) (ie_v 6) (ak_nil ik_nil) rfl))
  (is_cons (is_for (vs := allN 8) (by exact passes_of rfl) (by rfl) (ii_r1 (by rfl) (by exact F.f "range") (ia_cons (ie_op (oi_add (by rfl)) (ie_b (by exact call_len) bo_lenA (by rfl) (by exact F.f "len") (by decide +kernel) (ia_cons (ie_v 2) ia_nil)) (ie_b (by exact call_len) bo_lenA (by rfl) (by exact F.f "len") (by decide +kernel) (ia_cons (ie_v 3) ia_nil))) ia_nil)) (ig_n 5 nd__law_undone_right) (is_one (is_expr (ie_methF (cn := "Journey") (mn := "undo") (n := 0) (by exact hcf) (by exact ok_Journey_undo F hcf) (by rfl) (by exact hr.mono (by decide)) (by exact F.c "Journey") (by exact F.m "Journey" "undo") kb_Journey_undo_0 (by exact tk_cx) (ie_v 4) (ak_nil ik_nil) rfl))))
  (is_cons (is_if (iw_pt (iw_or (ib_eqV (oi_neV (cn := "Journey") (by rfl) (by exact ok_Journey_eq F hcf) (by exact hr.mono (by decide)) (by rw [at_Journey_eq]; exact F.m "Journey" "__eq__") (by exact of_decide_eq_true (F.b 14)) (by exact of_decide_eq_true (F.b 15)) bi_Journey_eq) (ie_v 4) (ie_v 7) (by rfl)) (iw_or1 (ib_eqV (oi_neV (cn := "Journey") (by rfl) (by exact ok_Journey_eq F hcf) (by exact hr.mono (by decide)) (by rw [at_Journey_eq]; exact F.m "Journey" "__eq__") (by exact of_decide_eq_true (F.b 14)) (by exact of_decide_eq_true (F.b 15)) bi_Journey_eq) (ie_v 6) (ie_fnF (by exact ok__law_travel F hcf) (by rfl) (by exact hr.mono (by decide)) (by rfl) (by exact F.g "_law_travel") kb__law_travel_0 (by exact tk_cx) (ak_cons (ia_cons (ie_v 0) (ia_cons (ie_v 1) (ia_cons (ie_v 2) (ia_cons (ie_v 3) ia_nil)))) ik_nil)) (by rfl))))) (is_one (is_ret ie_bl)) is_nil)
  (is_cons (is_tryN (fun pn xe hp => (is_one (is_for (vs := allN 8) hp (by rfl) (ii_r1 (by rfl) (by exact F.f "range") (ia_cons (ie_op (oi_add (by rfl)) (ie_b (by exact call_len) bo_lenA (by rfl) (by exact F.f "len") (by decide +kernel) (ia_cons (ie_v 2) ia_nil)) (ie_b (by exact call_len) bo_lenA (by rfl) (by exact F.f "len") (by decide +kernel) (ia_cons (ie_v 3) ia_nil))) ia_nil)) (ig_n 5 nd__law_undone_right) (is_one (is_expr (ie_methF (cn := "Journey") (mn := "undo") (n := 0) (by exact hcf) (by exact ok_Journey_undo F hcf) (by rfl) (by exact hr.mono (by decide)) (by exact F.c "Journey") (by exact F.m "Journey" "undo") kb_Journey_undo_0 (by exact tk_no) (ie_v 6) (ak_nil ik_nil) rfl)))))))
  (is_one (is_ret (ie_and (ie_eqV (oi_eqV (cn := "Journey") (by rfl) (by exact ok_Journey_eq F hcf) (by exact hr.mono (by decide)) (by rw [at_Journey_eq]; exact F.m "Journey" "__eq__") bi_Journey_eq) (ie_v 6) (ie_v 7) (by rfl)) (ie_one (ie_eqV (oi_eqV (cn := "Journey") (by rfl) (by exact ok_Journey_eq F hcf) (by exact hr.mono (by decide)) (by rw [at_Journey_eq]; exact F.m "Journey" "__eq__") bi_Journey_eq) (ie_v 4) (ie_v 7) (by rfl)))))))))))
theorem kb__law_undone_right_0 (fd : FuncData) (FD : FunD T.K d__law_undone_right.name d__law_undone_right.qual d__law_undone_right.params d__law_undone_right.body d__law_undone_right.scope (d__law_undone_right.dvs T.K) [] (He.fAd T.K d__law_undone_right.at_) fd) : KBD T fd ["_law_towns_here", "_law_parts", "_law_rows", "_law_sums"] 4 [] [(0, 0), (0, 1), (0, 2), (0, 3)] [] :=
  kbd_n FD fun kV doc pm an cdv ct us ws h1 h2 => match us, ws, h1, h2 with | [_, _, _, _], [], _, _ => rfl
theorem nd_law : (["_law_script", "_law_k", "_law_lap", "_law_box_here", "_law_rows", "_law_sums", "_law_towns_here", "_law_parts", "_law_one", "_law_other", "_law_turn", "_law_row_here"] : List Str).Nodup := by decide +kernel
theorem sc_law : FnScope ["_law_script", "_law_k", "_law_lap", "_law_box_here", "_law_rows", "_law_sums", "_law_towns_here", "_law_parts", "_law_one", "_law_other", "_law_turn", "_law_row_here"] ["_law_script"] d_law.scope := ⟨rfl, rfl, rfl, nd_law, rfl, by decide +kernel, by decide +kernel⟩
theorem ok_law (F : Fx T mg lw) (hcf : T.cf = cf) : OkF T P w mg base 15 d_law ["_law_script"] m_law := by
  obtain ⟨fd, FD⟩ := F.defs 39 d_law rfl
  refine OkF.mk' (N := ["_law_script", "_law_k", "_law_lap", "_law_box_here", "_law_rows", "_law_sums", "_law_towns_here", "_law_parts", "_law_one", "_law_other", "_law_turn", "_law_row_here"]) FD sc_law fun cdv A outer s H E hr => ?_
  show ISs T E _ (defBody (top 47)) b_law
  exact (is_cons (is_for (vs := allN 12) (by exact passes_of rfl) (by rfl) (ii_r1 (by rfl) (by exact F.f "range") (ia_cons (ie_b (by exact call_max2 rfl) bo_max2 (by rfl) (by exact F.f "max") (by decide +kernel) (ia_cons ie_int (ia_cons (ie_b (by exact call_min2 rfl) bo_min2 (by rfl) (by exact F.f "min") (by decide +kernel) (ia_cons (ie_b (by exact call_len) bo_lenA (by rfl) (by exact F.f "len") (by decide +kernel) (ia_cons (ie_v 0) ia_nil)) (ia_cons ie_int ia_nil))) ia_nil))) ia_nil)) (ig_n 1 nd_law) (is_one (is_for (vs := allN 12) (by exact passes_of rfl) (by rfl) (ii_r1 (by rfl) (by exact F.f "range") (ia_cons ie_int ia_nil)) (ig_n 2 nd_law) (is_cons (is_st 3 nd_law (ie_fnF (by exact ok__law_box F hcf) (by rfl) (by exact hr.mono (by decide)) (by rfl) (by exact F.g "_law_box") kb__law_box_0 (by exact tk_cx) (ak_cons (ia_cons (ie_v 0) (ia_cons (ie_v 1) (ia_cons (ie_v 2) ia_nil))) ik_nil)))
  (is_cons (by first | exact (is_par2 6 7 nd_law (ia_cons (ie_fnF (by exact ok__law_towns F hcf) (by rfl) (by exact hr.mono (by decide)) (by rfl) (by exact F.g "_law_towns") kb__law_towns_0 (by exact tk_cx) (ak_cons (ia_cons (ie_v 3) ia_nil) ik_nil)) (ia_cons (ie_tup (ia_cons (ie_fnF (by exact ok__law_take F hcf) (by rfl) (by exact hr.mono (by decide)) (by rfl) (by exact F.g "_law_take") kb__law_take_0 (by exact tk_cx) (ak_cons (ia_cons (ie_v 3) (ia_cons ie_int ia_nil)) ik_nil)) (ia_cons (ie_fnF (by exact ok__law_take F hcf) (by rfl) (by exact hr.mono (by decide)) (by rfl) (by exact F.g "_law_take") kb__law_take_0 (by exact tk_cx) (ak_cons (ia_cons (ie_v 3) (ia_cons ie_int ia_nil)) ik_nil)) ia_nil))) ia_nil))) | exact (is_par2u (is_unp (vs := allN 12) (ie_tup (ia_cons (ie_fnF (by exact ok__law_towns F hcf) (by rfl) (by exact hr.mono (by decide)) (by rfl) (by exact F.g "_law_towns") kb__law_towns_0 (by exact tk_cx) (ak_cons (ia_cons (ie_v 3) ia_nil) ik_nil)) (ia_cons (ie_tup (ia_cons (ie_fnF (by exact ok__law_take F hcf) (by rfl) (by exact hr.mono (by decide)) (by rfl) (by exact F.g "_law_take") kb__law_take_0 (by exact tk_cx) (ak_cons (ia_cons (ie_v 3) (ia_cons ie_int ia_nil)) ik_nil)) (ia_cons (ie_fnF (by exact ok__law_take F hcf) (by rfl) (by exact hr.mono (by decide)) (by rfl) (by exact F.g "_law_take") kb__law_take_0 (by exact tk_cx) (ak_cons (ia_cons (ie_v 3) (ia_cons ie_int ia_nil)) ik_nil)) ia_nil))) ia_nil))) (ig_tup (by rfl) (igs_cons (ig_n 6 nd_law) (igs_cons (ig_n 7 nd_law) igs_nil)) (len_cons (len_cons len_nil))))))
  (is_cons (by first | exact (is_setLc (own := [("_law_turn", 10)]) (by rfl) nd_law (by rfl) (by rfl) (by rfl) (ii_r1 (by rfl) (by exact F.f "range") (ia_cons (ie_fnF (by exact ok__law_take F hcf) (by rfl) (by exact hr.mono (by decide)) (by rfl) (by exact F.g "_law_take") kb__law_take_0 (by exact tk_cx) (ak_cons (ia_cons (ie_v 3) (ia_cons ie_int ia_nil)) ik_nil)) ia_nil)) (blk_by (by kernel_rfl)) (fun _ _ _ _ _ => (ig_n 10 nd_law)) (fun _ _ _ _ _ => its_nil) (fun _ _ _ _ _ => (ie_fnF (by exact ok__law_row F hcf) (by rfl) (by exact hr.mono (by decide)) (by rfl) (by exact F.g "_law_row") kb__law_row_0 (by exact tk_no) (ak_cons (ia_cons (ie_v 3) (ia_cons (ie_b (by exact call_len) bo_lenA (by rfl) (by exact F.f "len") (by decide +kernel) (ia_cons (ie_v 6) ia_nil)) ia_nil)) ik_nil)))) | exact (is_st 4 nd_law (ie_lc (own := [("_law_turn", 10)]) (by rfl) nd_law (ii_r1 (by rfl) (by exact F.f "range") (ia_cons (ie_fnF (by exact ok__law_take F hcf) (by rfl) (by exact hr.mono (by decide)) (by rfl) (by exact F.g "_law_take") kb__law_take_0 (by exact tk_cx) (ak_cons (ia_cons (ie_v 3) (ia_cons ie_int ia_nil)) ik_nil)) ia_nil)) (blk_by (by kernel_rfl)) (fun _ _ _ _ _ => (ig_n 10 nd_law)) (fun _ _ _ _ _ => its_nil) (fun _ _ _ _ _ => (ie_fnF (by exact ok__law_row F hcf) (by rfl) (by exact hr.mono (by decide)) (by rfl) (by exact F.g "_law_row") kb__law_row_0 (by exact tk_no) (ak_cons (ia_cons (ie_v 3) (ia_cons (ie_b (by exact call_len) bo_lenA (by rfl) (by exact F.f "len") (by decide +kernel) (ia_cons (ie_v 6) ia_nil)) ia_nil)) ik_nil))))))
  (is_cons (by first | exact (is_setLc (own := [("_law_row_here", 11)]) (by rfl) nd_law (by rfl) (by rfl) (by rfl) (ii_any (by rfl) (ie_v 4)) (blk_by (by kernel_rfl)) (fun _ _ _ _ _ => (ig_n 11 nd_law)) (fun _ _ _ _ _ => (its_one (ib_cmp (oi_ltA (by rfl) (by exact hr.rm.units0)) (ie_idxB (by rfl) (by exact hu1 hr) (ie_v 11) ie_int) (ie_b (by exact call_len) bo_lenA (by rfl) (by exact F.f "len") (by decide +kernel) (ia_cons (ie_v 6) ia_nil)) (by rfl)))) (fun _ _ _ _ _ => (ie_v 11))) | exact (is_st 4 nd_law (ie_lc (own := [("_law_row_here", 11)]) (by rfl) nd_law (ii_any (by rfl) (ie_v 4)) (blk_by (by kernel_rfl)) (fun _ _ _ _ _ => (ig_n 11 nd_law)) (fun _ _ _ _ _ => (its_one (ib_cmp (oi_ltA (by rfl) (by exact hr.rm.units0)) (ie_idxB (by rfl) (by exact hu1 hr) (ie_v 11) ie_int) (ie_b (by exact call_len) bo_lenA (by rfl) (by exact F.f "len") (by decide +kernel) (ia_cons (ie_v 6) ia_nil)) (by rfl)))) (fun _ _ _ _ _ => (ie_v 11)))))
  (is_cons (by first | exact (is_setLc (own := [("_law_turn", 10)]) (by rfl) nd_law (by rfl) (by rfl) (by rfl) (ii_r1 (by rfl) (by exact F.f "range") (ia_cons (ie_fnF (by exact ok__law_take F hcf) (by rfl) (by exact hr.mono (by decide)) (by rfl) (by exact F.g "_law_take") kb__law_take_0 (by exact tk_cx) (ak_cons (ia_cons (ie_v 3) (ia_cons ie_int ia_nil)) ik_nil)) ia_nil)) (blk_by (by kernel_rfl)) (fun _ _ _ _ _ => (ig_n 10 nd_law)) (fun _ _ _ _ _ => its_nil) (fun _ _ _ _ _ => (ie_op (oi_add (by rfl)) ie_int (ie_fnF (by exact ok__law_take F hcf) (by rfl) (by exact hr.mono (by decide)) (by rfl) (by exact F.g "_law_take") kb__law_take_0 (by exact tk_no) (ak_cons (ia_cons (ie_v 3) (ia_cons ie_int ia_nil)) ik_nil))))) | exact (is_st 5 nd_law (ie_lc (own := [("_law_turn", 10)]) (by rfl) nd_law (ii_r1 (by rfl) (by exact F.f "range") (ia_cons (ie_fnF (by exact ok__law_take F hcf) (by rfl) (by exact hr.mono (by decide)) (by rfl) (by exact F.g "_law_take") kb__law_take_0 (by exact tk_cx) (ak_cons (ia_cons (ie_v 3) (ia_cons ie_int ia_nil)) ik_nil)) ia_nil)) (blk_by (by kernel_rfl)) (fun _ _ _ _ _ => (ig_n 10 nd_law)) (fun _ _ _ _ _ => its_nil) (fun _ _ _ _ _ => (ie_op (oi_add (by rfl)) ie_int (ie_fnF (by exact ok__law_take F hcf) (by rfl) (by exact hr.mono (by decide)) (by rfl) (by exact F.g "_law_take") kb__law_take_0 (by exact tk_no) (ak_cons (ia_cons (ie_v 3) (ia_cons ie_int ia_nil)) ik_nil)))))))
  (is_cons (by first | exact (is_par2 8 9 nd_law (ia_cons (ie_fnF (by exact ok__law_among F hcf) (by rfl) (by exact hr.mono (by decide)) (by rfl) (by exact F.g "_law_among") kb__law_among_0 (by exact tk_cx) (ak_cons (ia_cons (ie_v 3) (ia_cons (ie_v 6) (ia_cons (ie_v 7) (ia_cons (ie_v 4) (ia_cons (ie_v 5) ia_nil))))) ik_nil)) (ia_cons (ie_fnF (by exact ok__law_among F hcf) (by rfl) (by exact hr.mono (by decide)) (by rfl) (by exact F.g "_law_among") kb__law_among_0 (by exact tk_cx) (ak_cons (ia_cons (ie_v 3) (ia_cons (ie_v 6) (ia_cons (ie_v 7) (ia_cons (ie_v 4) (ia_cons (ie_v 5) ia_nil))))) ik_nil)) ia_nil))) | exact (is_par2u (is_unp (vs := allN 12) (ie_tup (ia_cons (ie_fnF (by exact ok__law_among F hcf) (by rfl) (by exact hr.mono (by decide)) (by rfl) (by exact F.g "_law_among") kb__law_among_0 (by exact tk_cx) (ak_cons (ia_cons (ie_v 3) (ia_cons (ie_v 6) (ia_cons (ie_v 7) (ia_cons (ie_v 4) (ia_cons (ie_v 5) ia_nil))))) ik_nil)) (ia_cons (ie_fnF (by exact ok__law_among F hcf) (by rfl) (by exact hr.mono (by decide)) (by rfl) (by exact F.g "_law_among") kb__law_among_0 (by exact tk_cx) (ak_cons (ia_cons (ie_v 3) (ia_cons (ie_v 6) (ia_cons (ie_v 7) (ia_cons (ie_v 4) (ia_cons (ie_v 5) ia_nil))))) ik_nil)) ia_nil))) (ig_tup (by rfl) (igs_cons (ig_n 8 nd_law) (igs_cons (ig_n 9 nd_law) igs_nil)) (len_cons (len_cons len_nil))))))
  (is_cons (is_if (iw_pt (iw_or (ib_eqV (oi_neV (cn := "Journey") (by rfl) (by exact ok_Journey_eq F hcf) (by exact hr.mono (by decide)) (by rw [at_Journey_eq]; exact F.m "Journey" "__eq__") (by exact of_decide_eq_true (F.b 14)) (by exact of_decide_eq_true (F.b 15)) bi_Journey_eq) (ie_v 8) (ie_v 9) (by rfl)) (iw_or (ib_eqA (oi_neA (by exact eqh_0 F hcf (by rfl) (by rfl) (by rfl) (by rfl) (by rfl)) (by exact hr.mono (by decide))) (ie_methF (cn := "Journey") (mn := "lines") (n := 0) (by exact hcf) (by exact ok_Journey_lines F hcf) (by rfl) (by exact hr.mono (by decide)) (by exact F.c "Journey") (by exact F.m "Journey" "lines") kb_Journey_lines_0 (by exact tk_cx) (ie_v 8) (ak_nil ik_nil) rfl) (ie_methF (cn := "Journey") (mn := "lines") (n := 0) (by exact hcf) (by exact ok_Journey_lines F hcf) (by rfl) (by exact hr.mono (by decide)) (by exact F.c "Journey") (by exact F.m "Journey" "lines") kb_Journey_lines_0 (by exact tk_cx) (ie_v 9) (ak_nil ik_nil) rfl) (by rfl)) (iw_or1 (ib_cmpS (os_neP (by rfl) (by exact hr.rm.units)) (ie_methF (cn := "Journey") (mn := "twins") (n := 0) (by exact hcf) (by exact ok_Journey_twins F hcf) (by rfl) (by exact hr.mono (by decide)) (by exact F.c "Journey") (by exact F.m "Journey" "twins") kb_Journey_twins_0 (by exact tk_cx) (ie_v 8) (ak_nil ik_nil) rfl) (ie_methF (cn := "Journey") (mn := "twins") (n := 0) (by exact hcf) (by exact ok_Journey_twins F hcf) (by rfl) (by exact hr.mono (by decide)) (by exact F.c "Journey") (by exact F.m "Journey" "twins") kb_Journey_twins_0 (by exact tk_cx) (ie_v 9) (ak_nil ik_nil) rfl) (by rfl)))))) (is_one (is_ret ie_bl)) is_nil)
  (is_cons (is_expr (ie_app (by rfl) (ie_methF (cn := "Journey") (mn := "lines") (n := 0) (by exact hcf) (by exact ok_Journey_lines F hcf) (by rfl) (by exact hr.mono (by decide)) (by exact F.c "Journey") (by exact F.m "Journey" "lines") kb_Journey_lines_0 (by exact tk_cx) (ie_v 8) (ak_nil ik_nil) rfl) ie_non))
  (is_cons (is_expr (ie_app (by rfl) (ie_methF (cn := "Journey") (mn := "twins") (n := 0) (by exact hcf) (by exact ok_Journey_twins F hcf) (by rfl) (by exact hr.mono (by decide)) (by exact F.c "Journey") (by exact F.m "Journey" "twins") kb_Journey_twins_0 (by exact tk_cx) (ie_v 8) (ak_nil ik_nil) rfl) ie_int))
  (is_cons (is_expr (ie_clear (by rfl) (ie_methF (cn := "Journey") (mn := "lines") (n := 0) (by exact hcf) (by exact ok_Journey_lines F hcf) (by rfl) (by exact hr.mono (by decide)) (by exact F.c "Journey") (by exact F.m "Journey" "lines") kb_Journey_lines_0 (by exact tk_cx) (ie_v 9) (ak_nil ik_nil) rfl)))
  (is_cons (is_if (iw_pt (iw_or (ib_eqV (oi_neV (cn := "Journey") (by rfl) (by exact ok_Journey_eq F hcf) (by exact hr.mono (by decide)) (by rw [at_Journey_eq]; exact F.m "Journey" "__eq__") (by exact of_decide_eq_true (F.b 14)) (by exact of_decide_eq_true (F.b 15)) bi_Journey_eq) (ie_v 8) (ie_v 9) (by rfl)) (iw_or (ib_eqV (oi_neV (cn := "Journey") (by rfl) (by exact ok_Journey_eq F hcf) (by exact hr.mono (by decide)) (by rw [at_Journey_eq]; exact F.m "Journey" "__eq__") (by exact of_decide_eq_true (F.b 14)) (by exact of_decide_eq_true (F.b 15)) bi_Journey_eq) (ie_v 8) (ie_fnF (by exact ok__law_travel F hcf) (by rfl) (by exact hr.mono (by decide)) (by rfl) (by exact F.g "_law_travel") kb__law_travel_0 (by exact tk_cx) (ak_cons (ia_cons (ie_v 6) (ia_cons (ie_v 7) (ia_cons (ie_v 4) (ia_cons (ie_v 5) ia_nil)))) ik_nil)) (by rfl)) (iw_or1 (ib_cmp (oi_neP (by rfl) (by exact hr.rm.units)) (ie_bS (by exact call_len) bo_lenS (by rfl) (by exact F.f "len") (by decide +kernel) (ia_cons (ie_methF (cn := "Journey") (mn := "lines") (n := 0) (by exact hcf) (by exact ok_Journey_lines F hcf) (by rfl) (by exact hr.mono (by decide)) (by exact F.c "Journey") (by exact F.m "Journey" "lines") kb_Journey_lines_0 (by exact tk_cx) (ie_v 8) (ak_nil ik_nil) rfl) ia_nil)) (ie_b (by exact call_len) bo_lenA (by rfl) (by exact F.f "len") (by decide +kernel) (ia_cons (ie_v 4) ia_nil)) (by rfl)))))) (is_one (is_ret ie_bl)) is_nil)
  (is_cons (is_if (ib_not (ib_val (ie_fnF (by exact ok__law_unlike_right F hcf) (by rfl) (by exact hr.mono (by decide)) (by rfl) (by exact F.g "_law_unlike_right") kb__law_unlike_right_0 (by exact tk_cx) (ak_cons (ia_cons (ie_v 3) (ia_cons (ie_v 8) (ia_cons (ie_v 6) (ia_cons (ie_v 7) (ia_cons (ie_v 4) (ia_cons (ie_v 5) ia_nil)))))) ik_nil)))) (is_one (is_ret ie_bl)) is_nil)
  (is_one (is_if (iw_pt (iw_or (ib_not (ib_val (ie_fnF (by exact ok__law_twin_right F hcf) (by rfl) (by exact hr.mono (by decide)) (by rfl) (by exact F.g "_law_twin_right") kb__law_twin_right_0 (by exact tk_cx) (ak_cons (ia_cons (ie_v 3) (ia_cons (ie_v 8) (ia_cons (ie_v 9) (ia_cons (ie_v 4) ia_nil)))) ik_nil)))) (iw_or1 (ib_not (ib_val (ie_fnF (by exact ok__law_undone_right F hcf) (by rfl) (by exact hr.mono (by decide)) (by rfl) (by exact F.g "_law_undone_right") kb__law_undone_right_0 (by exact tk_cx) (ak_cons (ia_cons (ie_v 6) (ia_cons (ie_v 7) (ia_cons (ie_v 4) (ia_cons (ie_v 5) ia_nil)))) ik_nil))))))) (is_one (is_ret ie_bl)) is_nil)))))))))))))))))
  (is_one (is_ret ie_bl)))
end
end
end Ro
end
section
set_option Elab.async false
set_option linter.all false
set_option maxRecDepth 100000
set_option maxHeartbeats 0
namespace Ro
open PySem PySem.Spec PyProof.Rows L2
abbrev RW : PySem.W.OpenRow := PySem.W.OpenLaw.row PySem.Challenge.rw_roadpence_k33_whole_journeys_in_any_orde
abbrev qv : Program := PySem.W.view RW.prog [47]
def nms0 : List PySem.Str := ["_wall", "PenceError", "NoShare", "Absent", "Nothing", "NoSpending", "NoJourney", "TooMany", "NoDay", "NoHeads", "KINDS", "MOST_AMOUNT", "LAST_DAY", "LAST_MONEY", "MOST_HEADS", "is_whole", "is_kind", "option", "Spending", "are_twins", "MOST_DAYS", "LAST_TOWN", "TENTHS", "MOST_LINES", "MOST_HAD", "MOST_SUMS", "are_towns", "order_of", "Journey", "_law_cell"]
def nms1 : List PySem.Str := ["_law_mix", "_law_box", "_law_take", "_law_sorts", "_law_row", "_law_spent", "_law_towns", "_law_travel", "_law_mixed", "_law_among", "_law_unlike_right", "_law_twin_right", "_law_undone_right"]
def nms : List PySem.Str := nms0 ++ nms1
def tsL : List He.Tab := []
abbrev hk : PySem.W.Hook := hookN 5 lw tsL
def ob (s : PySem.W.SharedT) : He.AlX := obN 5 lw tsL (HandSHeadRun.getT s)
theorem ob_eq (s : PySem.W.SharedT) : ob s = hk.obs s.abs := obN_eq (HandSHeadRun.getT_eq s)
theorem run (w : World) : HandSHeadRun.RunEq RW qv hk ob 30000 nms w := by
  intro os
  kernel_rfl
theorem law_binds (T : Tb) (fd : FuncData) (FD : FunD T.K d_law.name d_law.qual d_law.params d_law.body d_law.scope (d_law.dvs T.K) [] (He.fAd T.K d_law.at_) fd) (s : Shared) (u : Value) : BindsTo s fd ⟨[u], []⟩ [("_law_script", u)] :=
  (FunD.bindsA (ps := ["_law_script"]) FD fun _ _ _ _ _ _ us hl => match us, hl with | [_], _ => rfl) s [u] rfl
theorem at_law : d_law.at_ = (("law" : PySem.Str), none) := rfl
theorem fAd_none {K : PySem.W.Frag} {x : PySem.Str} : He.fAd K (x, none) = He.ga K x := rfl
theorem ref_uniq {mg : PySem.Str → Option Value} {x : PySem.Str} {a b : Addr} (h1 : mg x = some (.ref a)) (h2 : mg x = some (.ref b)) : b = a := by
  rw [h1] at h2
  have h3 := Option.some.inj h2
  injection h3 with h4
  exact h4.symm
theorem law_from (hm : ∀ ns : List Int, ns.length ≤ 63 → (∀ z ∈ ns, bits20 z) → ∃ S, m_law [.scr ns] [] = .ok (.bl true) S) : PySem.Challenge.rw_roadpence_k33_whole_journeys_in_any_orde.Holds := by
  w_on; o_law
  refine HandSHeadRun.head_any (r := PySem.W.OpenLaw.row PySem.Challenge.rw_roadpence_k33_whole_journeys_in_any_orde) (q := PySem.W.view (PySem.W.OpenLaw.row PySem.Challenge.rw_roadpence_k33_whole_journeys_in_any_orde).prog [47]) (H := hk) (ob := ob) (M := 30000) (loose := nms) (d := HandSHeadRun.topDef (PySem.W.OpenLaw.row PySem.Challenge.rw_roadpence_k33_whole_journeys_in_any_orde).prog 47) (kwd := []) ob_eq
    (by kernel_rfl) (fun s => by kernel_rfl) run (by kernel_rfl) (by kernel_rfl) (by kernel_rfl) (by rfl) (by first | assumption | decide +kernel) (by decide +kernel) ⟨rfl, rfl, rfl, rfl, rfl, by decide +kernel⟩ ?hw ?hc
  case hw => w_witness2
  case hc =>
    refine walkGT (l := PySem.Challenge.rw_roadpence_k33_whole_journeys_in_any_orde) (n := 63) (k := 15) (x := "_law_script") (m := m_law) rfl (by decide) (by kernel_rfl) (by decide) ?F hm
    intro w mg fa h Y G hmg0
    obtain ⟨K, KX, c⟩ := Y
    have hmg : mg ("law" : PySem.Str) = some (.ref fa) := by
      have e : (HandSHeadRun.topDef (PySem.W.OpenLaw.row PySem.Challenge.rw_roadpence_k33_whole_journeys_in_any_orde).prog 47).name = ("law" : PySem.Str) := by kernel_rfl
      rw [← e]
      exact hmg0
    obtain ⟨F, tF⟩ := says_fx (T := ⟨K, cf, tabsOf K lw.tf, none⟩) KX G c
    obtain ⟨fd0, FD0⟩ := F.defs 39 d_law rfl
    refine ⟨⟨K, cf, tabsOf K lw.tf, none⟩, fd0, lw.tf, rfl, KX, tF, law_binds _ fd0 FD0, fun base _ _ TB => ?_⟩
    have e : He.fAd K d_law.at_ = fa := by
      rw [at_law, fAd_none]
      exact ref_uniq hmg (F.g "law")
    obtain ⟨fd', FD', GG⟩ := (ok_law (P := (PySem.Challenge.rw_roadpence_k33_whole_journeys_in_any_orde).prog) (w := w) F rfl).ex
    rw [funD_uniq FD0 FD'] at GG
    rw [← e]
    exact GG
end Ro
end
section
set_option Elab.async false
set_option linter.all false
set_option maxRecDepth 100000
set_option maxHeartbeats 4000000
namespace Ro
open PySem
variable {S : Store}
@[simp] theorem ty_int (i : Int) : tyD (.int i) S = some (.b "int") := rfl
@[simp] theorem ty_bl (i : Bool) : tyD (.bl i) S = some (.b "bool") := rfl
@[simp] theorem ty_str (i : Str) : tyD (.str i) S = some (.b "str") := rfl
@[simp] theorem ty_tup (i : List D) : tyD (.tup i) S = some (.b "tuple") := rfl
@[simp] theorem ty_lst (i : List D) : tyD (.lst i) S = some (.b "list") := rfl
@[simp] theorem ty_non : tyD .non S = some (.b "NoneType") := rfl
@[simp] theorem ty_dct (i : List (D × D)) : tyD (.dct i) S = some (.b "dict") := rfl
def kinds : List Str := ["bed", "fee", "meal", "ride", "sundry"]
@[simp] theorem at_2 (d e c : D) (l : List D) : atP (d :: e :: c :: l) 2 = some c := by
  have : pyIx (d :: e :: c :: l).length 2 = some 2 := ix_nn _ 2 (by simp)
  unfold atP
  rw [this]
  rfl
@[simp] theorem at_3 (d e c b : D) (l : List D) : atP (d :: e :: c :: b :: l) 3 = some b := by
  have : pyIx (d :: e :: c :: b :: l).length 3 = some 3 := ix_nn _ 3 (by simp)
  unfold atP
  rw [this]
  rfl
theorem pick_ok {l : List D} {i : Int} {P : D → Prop} (h0 : 0 ≤ i) (h1 : i < l.length) (h : ∀ d ∈ l, P d) : ∃ d, atP l i = some d ∧ P d := by
  have hl : i.toNat < l.length := by omega
  have e : (i.toNat : Int) = i := Int.toNat_of_nonneg h0
  refine ⟨l[i.toNat], ?_, h _ (List.getElem_mem hl)⟩
  have e2 : pyIx l.length i = some i.toNat := by
    have := ix_nn _ _ hl
    rw [e] at this
    exact this
  unfold atP
  rw [e2]
  simp [hl]
structure Fr (b : Nat) (S S' : Store) : Prop where
  bx : Bx S' b
  le : S.length ≤ S'.length
  keep : ∀ n, n < S.length → n ≠ b → S'[n]? = S[n]?
theorem Fr.refl {b : Nat} (h : Bx S b) : Fr b S S := ⟨h, Nat.le_refl _, fun _ _ _ => rfl⟩
theorem Fr.trans {b : Nat} {S1 S2 : Store} (h : Fr b S S1) (k : Fr b S1 S2) : Fr b S S2 := ⟨k.bx, Nat.le_trans h.le k.le, fun n h1 h2 => (k.keep n (Nat.lt_of_lt_of_le h1 h.le) h2).trans (h.keep n h1 h2)⟩
theorem Bs.fr {b : Nat} {S1 : Store} (h : Bs S b S1) (hb : Bx S b) : Fr b S S1 := ⟨h.bx hb.lt, by rw [h.len]; exact Nat.le_refl _, fun n _ h2 => h.other h2⟩
theorem Bx.app {b : Nat} (h : Bx S b) (l : Store) : Bx (S ++ l) b := by
  obtain ⟨x, y, e, h1, h2⟩ := h
  exact ⟨x, y, by rw [List.getElem?_append_left (List.getElem?_eq_some_iff.mp e).1]; exact e, h1, h2⟩
theorem Fr.app {b : Nat} (h : Bx S b) (l : Store) : Fr b S (S ++ l) := ⟨h.app l, by simp, fun n h1 _ => List.getElem?_append_left h1⟩
@[simp] theorem u_sRaise {c : String} {a : AX} {env : Env} : sRaise c a env S = (a env S).bnd fun fs S1 => .err c fs S1 := rfl
@[simp] theorem u_aChk {n : Nat} {fa : AX} {env : Env} : aChk n fa env S = (fa env S).bnd fun ds S1 => if ds.length = n ∧ ds.length ≤ 1000 then .ok ds S1 else .bad := rfl
end Ro
end
section
set_option Elab.async false
set_option linter.all false
set_option maxRecDepth 100000
set_option maxHeartbeats 1000000
namespace Ro
open PySem
variable {S : Store}
def okD : D → Bool
  | .str s => decide (s.length ≤ LINE)
  | .non => true
  | .bl _ => true
  | .int _ => true
  | .tup _ => true
  | .lst _ => true
  | .dct _ => true
  | _ => false
def wholeB (d : D) (lo hi : Int) : Bool := match d with
  | .int i => decide (lo ≤ i) && decide (i ≤ hi)
  | _ => false
def kindB : D → Bool
  | .str z => decide (z ∈ kinds)
  | _ => false
@[simp] theorem st_int_int : subTy (.b "int") (.b "int") = true := by decide
@[simp] theorem st_bool_int : subTy (.b "bool") (.b "int") = true := by decide
@[simp] theorem st_NoneType_int : subTy (.b "NoneType") (.b "int") = false := by decide
@[simp] theorem st_str_int : subTy (.b "str") (.b "int") = false := by decide
@[simp] theorem st_tuple_int : subTy (.b "tuple") (.b "int") = false := by decide
@[simp] theorem st_list_int : subTy (.b "list") (.b "int") = false := by decide
@[simp] theorem st_dict_int : subTy (.b "dict") (.b "int") = false := by decide
@[simp] theorem st_int_bool : subTy (.b "int") (.b "bool") = false := by decide
@[simp] theorem st_bool_bool : subTy (.b "bool") (.b "bool") = true := by decide
@[simp] theorem st_NoneType_bool : subTy (.b "NoneType") (.b "bool") = false := by decide
@[simp] theorem st_str_bool : subTy (.b "str") (.b "bool") = false := by decide
@[simp] theorem st_tuple_bool : subTy (.b "tuple") (.b "bool") = false := by decide
@[simp] theorem st_list_bool : subTy (.b "list") (.b "bool") = false := by decide
@[simp] theorem st_dict_bool : subTy (.b "dict") (.b "bool") = false := by decide
@[simp] theorem st_int_str : subTy (.b "int") (.b "str") = false := by decide
@[simp] theorem st_bool_str : subTy (.b "bool") (.b "str") = false := by decide
@[simp] theorem st_NoneType_str : subTy (.b "NoneType") (.b "str") = false := by decide
@[simp] theorem st_str_str : subTy (.b "str") (.b "str") = true := by decide
@[simp] theorem st_tuple_str : subTy (.b "tuple") (.b "str") = false := by decide
@[simp] theorem st_list_str : subTy (.b "list") (.b "str") = false := by decide
@[simp] theorem st_dict_str : subTy (.b "dict") (.b "str") = false := by decide
@[simp] theorem st_int_tuple : subTy (.b "int") (.b "tuple") = false := by decide
@[simp] theorem st_bool_tuple : subTy (.b "bool") (.b "tuple") = false := by decide
@[simp] theorem st_NoneType_tuple : subTy (.b "NoneType") (.b "tuple") = false := by decide
@[simp] theorem st_str_tuple : subTy (.b "str") (.b "tuple") = false := by decide
@[simp] theorem st_tuple_tuple : subTy (.b "tuple") (.b "tuple") = true := by decide
@[simp] theorem st_list_tuple : subTy (.b "list") (.b "tuple") = false := by decide
@[simp] theorem st_dict_tuple : subTy (.b "dict") (.b "tuple") = false := by decide
@[simp] theorem tl_int : Ty.b "int" ∈ tysL := by decide
@[simp] theorem tl_bool : Ty.b "bool" ∈ tysL := by decide
@[simp] theorem tl_NoneType : Ty.b "NoneType" ∈ tysL := by decide
@[simp] theorem tl_str : Ty.b "str" ∈ tysL := by decide
@[simp] theorem tl_tuple : Ty.b "tuple" ∈ tysL := by decide
@[simp] theorem tl_list : Ty.b "list" ∈ tysL := by decide
@[simp] theorem tl_dict : Ty.b "dict" ∈ tysL := by decide
theorem whole_b {d : D} (hd : okD d = true) (lo hi : Int) : m_is_whole [d, .int lo, .int hi] S = .ok (.bl (wholeB d lo hi)) S := by
  unfold m_is_whole b_is_whole
  cases d with
  | int i => by_cases c : lo ≤ i <;> simp [c, wholeB]
  | scr l => cases hd
  | obj c l => cases hd
  | ref n => cases hd
  | fn n => cases hd
  | thk n l => cases hd
  | _ => simp [wholeB]
theorem kinds_d (z : Str) : (decide (("bed" : Str) = z) || (decide (("fee" : Str) = z) || (decide (("meal" : Str) = z) || (decide (("ride" : Str) = z) || decide (("sundry" : Str) = z))))) = decide (z ∈ kinds) := by
  unfold kinds
  simp only [List.mem_cons, List.not_mem_nil, or_false, Bool.decide_or]
  simp only [eq_comm (a := z)]
theorem kind_b {d : D} (hd : okD d = true) : m_is_kind [d] S = .ok (.bl (kindB d)) S := by
  unfold m_is_kind b_is_kind
  cases d with
  | str z => simp [inD, kinds_d, kindB]
  | scr l => cases hd
  | obj c l => cases hd
  | ref n => cases hd
  | fn n => cases hd
  | thk n l => cases hd
  | _ => simp [kindB]
theorem kind_len {z : Str} (h : z ∈ kinds) : z.length ≤ 100 := by
  unfold kinds at h
  simp at h
  rcases h with rfl | rfl | rfl | rfl | rfl <;> decide
theorem okD_str {z : Str} (h : z.length ≤ 16777216) : okD (.str z) = true := decide_eq_true h
theorem ne_nil {l : List D} (h : l.all (plN 7) = true) : neD (.lst l) (.lst []) = some (.bl (!l.isEmpty)) := by
  unfold neD
  have e1 : plD (.lst l) = true := h
  have e2 : plD (.lst []) = true := rfl
  rw [if_pos (by rw [e1, e2]; rfl), pyEq_lst]
  cases l with
  | nil => rw [pyEqs_nil]; rfl
  | cons x l => rw [pyEqs_cn]; rfl
theorem Ext.bx {b : Nat} {S S' : Store} (h : Ext S S') (hB : Bx S b) : Bx S' b := by
  obtain ⟨X, rfl⟩ := h
  exact hB.app X
theorem Bs.refl {b : Nat} (h : Bx S b) : Bs S b S := by
  obtain ⟨x, y, e, h1, h2⟩ := h
  exact ⟨x, y, h1, h2, (set_same e).symm⟩
end Ro
end
section
set_option Elab.async false
set_option linter.all false
set_option maxRecDepth 100000
set_option maxHeartbeats 1000000
namespace Ro
open PySem
variable {S : Store} {env : Env}
structure Sp where
  kind : Str
  amount : Int
  day : Int
  paper : Bool
  heads : Int
  money : Int
structure Sp.ok (p : Sp) : Prop where
  kind : p.kind ∈ kinds
  a0 : 1 ≤ p.amount
  a1 : p.amount ≤ 1000000
  d0 : 0 ≤ p.day
  d1 : p.day ≤ 59
  h0 : 1 ≤ p.heads
  h1 : p.heads ≤ 6
  m0 : 0 ≤ p.money
  m1 : p.money ≤ 3
def Sp.ds (p : Sp) : List D := [.str p.kind, .int p.amount, .int p.day, .bl p.paper, .int p.heads, .int p.money]
def Sp.obj (p : Sp) : D := .obj "Spending" p.ds
@[simp] theorem f_kind (p : Sp) : attrD cf ["Spending"] "kind" p.obj S = some (.str p.kind) := rfl
@[simp] theorem f_amount (p : Sp) : attrD cf ["Spending"] "amount" p.obj S = some (.int p.amount) := rfl
@[simp] theorem f_day (p : Sp) : attrD cf ["Spending"] "day" p.obj S = some (.int p.day) := rfl
@[simp] theorem f_paper (p : Sp) : attrD cf ["Spending"] "paper" p.obj S = some (.bl p.paper) := rfl
@[simp] theorem f_heads (p : Sp) : attrD cf ["Spending"] "heads" p.obj S = some (.int p.heads) := rfl
@[simp] theorem f_money (p : Sp) : attrD cf ["Spending"] "money" p.obj S = some (.int p.money) := rfl
end Ro
end
section
set_option Elab.async false
set_option linter.all false
set_option maxRecDepth 100000
set_option maxHeartbeats 1000000
namespace Ro
open PySem
variable {S : Store} {env : Env}
theorem init_sp {n : Nat} {p : Sp} (h : p.ok) (hS : S[n]? = some (.ins "Spending" [])) : m_Spending_init (.ref n :: p.ds) S = .ok .non (S.set n (.ins "Spending" [("kind", .str p.kind), ("amount", .int p.amount), ("day", .int p.day), ("paper", .bl p.paper), ("heads", .int p.heads), ("money", .int p.money)])) := by
  have h1 := h.a0; have h2 := h.a1; have h3 := h.d0; have h4 := h.d1; have h5 := h.h0; have h6 := h.h1; have h7 := h.m0; have h8 := h.m1
  have hn : n < S.length := (List.getElem?_eq_some_iff.mp hS).1
  have hg : S[n] = .ins "Spending" [] := (List.getElem?_eq_some_iff.mp hS).2
  have hk := h.kind
  have kl : okD (.str p.kind) = true := okD_str (by have := kind_len hk; omega)
  have kk : kindB (.str p.kind) = true := by simp [kindB, hk]
  have ki : ∀ i : Int, okD (.int i) = true := fun _ => rfl
  have hz : ¬ p.heads ≤ 0 := by omega
  unfold m_Spending_init b_Spending_init Sp.ds
  simp [kind_b kl, kk, whole_b, ki, wholeB, h1, h2, h3, h4, h5, h6, h7, h8, hz, hg, hn, setF]
end Ro
end
section
set_option Elab.async false
set_option linter.all false
set_option maxRecDepth 100000
set_option maxHeartbeats 1000000
namespace Ro
open PySem
variable {S : Store} {env : Env}
def spKey (p : Sp) : PyData := .tuple [.int p.day, .str p.kind, .int p.amount, .int p.money, .int p.heads, .bool (!p.paper)]
def leSp (p q : Sp) : Bool := PySem.W.dataLe false spKey p q
theorem leSp_tl : PySem.W.TotalLe leSp := PySem.W.sortLe_total (PyProof.Rows.listOrd PyProof.Rows.itemOrd) false fun p => PySem.W.keyToks (spKey p)
theorem leSp_trans {a b c : Sp} (h : leSp a b = true) (k : leSp b c = true) : leSp a c = true := leSp_tl.trans a b c h k
theorem leSp_total (a b : Sp) : (leSp a b || leSp b a) = true := by rw [Bool.or_eq_true]; exact leSp_tl.total a b
theorem leSp_anti {a b : Sp} (h : leSp a b = true) (k : leSp b a = true) : a = b := by
  have e := (PyProof.Rows.listOrd PyProof.Rows.itemOrd).total (PySem.W.keyToks (spKey a)) (PySem.W.keyToks (spKey b)) (by
    have k : (!(PyProof.Rows.listOrd PyProof.Rows.itemOrd).blt (PySem.W.keyToks (spKey a)) (PySem.W.keyToks (spKey b))) = true := k
    simpa using k) (by
    have h : (!(PyProof.Rows.listOrd PyProof.Rows.itemOrd).blt (PySem.W.keyToks (spKey b)) (PySem.W.keyToks (spKey a))) = true := h
    simpa using h)
  obtain ⟨k1, a1, d1, p1, h1, m1⟩ := a
  obtain ⟨k2, a2, d2, p2, h2, m2⟩ := b
  simp only [spKey, PySem.W.keyToks, PySem.W.keyToksAll, List.cons_append, List.nil_append, List.cons.injEq, Sum.inl.injEq, Sum.inr.injEq, true_and, and_true] at e
  obtain ⟨e1, e2, e3, e4, e5, e6⟩ := e
  have ek : k1 = k2 := by
    cases k1; cases k2
    simp only [Str.mk.injEq]
    exact Array.toList_inj.mp e2
  have ep : p1 = p2 := by cases p1 <;> cases p2 <;> simp at e6 ⊢
  rw [e1, ek, e3, e4, e5, ep]
def sortS (l : List Sp) : List Sp := l.mergeSort leSp
theorem sortS_perm (l : List Sp) : (sortS l).Perm l := List.mergeSort_perm _ _
theorem sortS_pw (l : List Sp) : (sortS l).Pairwise fun a b => leSp a b = true := List.pairwise_mergeSort (le := leSp) (fun _ _ _ => leSp_trans) leSp_total l
theorem sortS_eq {l m : List Sp} (h : l.Perm m) : sortS l = sortS m :=
  List.Perm.eq_of_pairwise (le := fun a b => leSp a b = true) (fun a b _ _ h k => leSp_anti h k) (sortS_pw l) (sortS_pw m) (((sortS_perm l).trans h).trans (sortS_perm m).symm)
theorem sortS_len (l : List Sp) : (sortS l).length = l.length := (sortS_perm l).length_eq
theorem sortS_mem {l : List Sp} {p : Sp} : p ∈ sortS l ↔ p ∈ l := (sortS_perm l).mem_iff
theorem alike_sp (p q : Sp) : PySem.W.alike (spKey p) (spKey q) = true := by simp [spKey, PySem.W.alike, PySem.W.alikeAll]
theorem leKey_of {f : EX} {g : Sp → D} (h : ∀ p : Sp, kKey f S (g p) = some (spKey p)) (p q : Sp) : leKey f S (g p) (g q) = leSp p q := by
  have e : ∀ p, kfD f S (g p) = spKey p := fun p => by unfold kfD; rw [h p]; rfl
  show (!(PyProof.Rows.listOrd PyProof.Rows.itemOrd).blt (PySem.W.keyToks (kfD f S (g q))) (PySem.W.keyToks (kfD f S (g p)))) = _
  rw [e, e]
  rfl
theorem sortK_of {f : EX} {g : Sp → D} (h : ∀ p : Sp, kKey f S (g p) = some (spKey p)) {l : List Sp} (hl : l.length ≤ 16777216) : sortK f (.lst (l.map g)) S = .ok (.lst ((sortS l).map g)) S := by
  have e : ∀ p, kfD f S (g p) = spKey p := fun p => by unfold kfD; rw [h p]; rfl
  unfold sortK
  dsimp only
  rw [if_pos]
  · have := List.map_mergeSort (r := leSp) (s := leKey f S) (f := g) (l := l) (fun a _ b _ => (leKey_of h a b).symm)
    unfold sortS
    rw [this]
  · simp only [List.all_map, Bool.and_eq_true, List.all_eq_true, decide_eq_true_eq, List.length_map, Function.comp]
    exact ⟨⟨fun p _ => by rw [h]; rfl, fun p _ q _ => by rw [e, e]; exact alike_sp p q⟩, hl⟩
theorem key_sp (p : Sp) : kKey q_order_of S p.obj = some (spKey p) := rfl
theorem sortO {l : List Sp} (hl : l.length ≤ 16777216) : sortK q_order_of (.lst (l.map Sp.obj)) S = .ok (.lst ((sortS l).map Sp.obj)) S := sortK_of key_sp hl
theorem pl_at {d : D} {n : Nat} (h : atomB d = true) : plN n d = true := by cases d <;> simp [atomB] at h <;> simp
theorem sp_at (p : Sp) : ∀ x ∈ p.ds, atomB x = true := by
  intro x hx
  simp only [Sp.ds, List.mem_cons, List.not_mem_nil, or_false] at hx
  rcases hx with rfl | rfl | rfl | rfl | rfl | rfl <;> rfl
theorem eq_bl (a b : Bool) : pyEq (.bl a) (.bl b) = decide (a = b) := by cases a <;> cases b <;> rfl
theorem sp_eqs (p q : Sp) : pyEqs p.ds q.ds = true ↔ p = q := by
  obtain ⟨a, b, c, d, e, f⟩ := p
  obtain ⟨a', b', c', d', e', f'⟩ := q
  simp only [Sp.ds, pyEqs_cons, pyEq_str, pyEq_int, eq_bl, pyEqs_nil, Bool.and_true, Bool.and_eq_true, decide_eq_true_eq, Sp.mk.injEq]
instance : DecidableEq Sp := fun p q => if h : pyEqs p.ds q.ds = true then .isTrue ((sp_eqs p q).mp h) else .isFalse fun e => h ((sp_eqs p q).mpr e)
theorem eqs_dec (p q : Sp) : pyEqs p.ds q.ds = decide (p = q) := by
  cases z : pyEqs p.ds q.ds with
  | true => rw [decide_eq_true ((sp_eqs p q).mp z)]
  | false => rw [decide_eq_false fun e => by rw [(sp_eqs p q).mpr e] at z; cases z]
theorem sp_eq {p q : Sp} : m_Spending_eq [p.obj, q.obj] S = .ok (.bl (decide (p = q))) S := by
  have hi : ∀ (q : Sp) (S : Store), isInst cf "Spending" "all_parts" q.obj S = true := fun _ _ => rfl
  have hp : ∀ q : Sp, plD (.tup q.ds) = true := fun q => by
    show q.ds.all (plN 7) = true
    rw [List.all_eq_true]
    exact fun x hx => pl_at (sp_at q x hx)
  have ap : ∀ (p : Sp) (S : Store), m_Spending_all_parts [p.obj] S = .ok (.tup p.ds) S := fun p S => by
    unfold m_Spending_all_parts b_Spending_all_parts
    simp
    rfl
  have e : eqD (.tup p.ds) (.tup q.ds) = some (.bl (decide (p = q))) := by
    unfold eqD
    rw [hp, hp, pyEq_tup, eqs_dec]
    rfl
  have h1 : subTy (.o "Spending") (.o "Spending") = true := by decide
  have h2 : Ty.o "Spending" ∈ tysL := by decide
  have t1 : tyD q.obj S = some (.o "Spending") := rfl
  unfold m_Spending_eq b_Spending_eq
  simp [t1, h1, h2, hi, ap, e]
theorem methB_of {m : Fn} {x y : D} {b : Bool} (h : m [x, y] S = .ok (.bl b) S) : methB m x y S = some b := by
  unfold methB
  rw [h]
  simp
theorem sp_A {p q : Sp} {n : Nat} : eqA tab_0 cls_0 S (n + 1) p.obj q.obj = some (decide (p = q)) := by
  have hp : plN 8 p.obj = false := rfl
  rw [eqA_s, hp, if_neg (by simp)]
  show (if rhsB cls_0 q.obj = true then (match tab_0 "Spending" with
    | some m => methB m p.obj q.obj S
    | none => none) else none) = _
  rw [if_pos (by rfl)]
  exact methB_of sp_eq
theorem dat_sp (p : Sp) : datN cls_0 8 p.obj = true := by
  show (cls_0.contains "Spending" && p.ds.all (datN cls_0 7)) = true
  rw [Bool.and_eq_true]
  exact ⟨by decide, rfl⟩
theorem obj_inj {p q : Sp} (h : p.obj = q.obj) : p = q := by
  obtain ⟨a, b, c, d, e, f⟩ := p
  obtain ⟨a', b', c', d', e', f'⟩ := q
  simp only [Sp.obj, Sp.ds, D.obj.injEq, true_and, List.cons.injEq, D.str.injEq, D.int.injEq, D.bl.injEq, and_true] at h
  obtain ⟨rfl, rfl, rfl, rfl, rfl, rfl⟩ := h
  rfl
theorem sp_E {p q : Sp} {n : Nat} : eqE tab_0 cls_0 S (n + 2) p.obj q.obj = some (decide (p = q)) := by
  have hp : plN 8 p.obj = false := rfl
  rw [eqE_s, hp, if_neg (by simp), sp_A]
  by_cases z : p = q
  · rw [decide_eq_true z]; rfl
  · rw [decide_eq_false z]
    unfold idA
    dsimp only
    rw [if_pos ⟨dat_sp p, dat_sp q, fun e => z (obj_inj e)⟩]
theorem zip_sp {n : Nat} : ∀ {l m : List Sp}, l.length = m.length → zipA (eqE tab_0 cls_0 S (n + 2)) (l.map Sp.obj) (m.map Sp.obj) = some (decide (l = m))
  | [], [], _ => by simp [zipA]
  | p :: l, q :: m, h => by
    rw [List.map_cons, List.map_cons, zipA, sp_E]
    by_cases z : p = q
    · rw [decide_eq_true z]
      dsimp only
      rw [zip_sp (by simpa using h)]
      subst z
      simp
    · rw [decide_eq_false z]
      dsimp only
      rw [decide_eq_false fun e => z (List.cons.inj e).1]
theorem spl_A {l m : List Sp} : eqA tab_0 cls_0 S 6 (.lst (l.map Sp.obj)) (.lst (m.map Sp.obj)) = some (decide (l = m)) := by
  rw [eqA_s]
  split
  · rename_i h
    have nil : ∀ {l : List Sp}, plN 8 (.lst (l.map Sp.obj)) = true → l = [] := fun {l} h => by
      cases l with
      | nil => rfl
      | cons p l =>
        have : plN 7 p.obj = true := by
          have h : (p.obj :: l.map Sp.obj).all (plN 7) = true := h
          rw [List.all_cons, Bool.and_eq_true] at h
          exact h.1
        cases this
    obtain ⟨h1, h2⟩ := Bool.and_eq_true_iff.mp h
    rw [nil h1, nil h2]
    rfl
  · unfold shapeA
    dsimp only
    by_cases hl : l.length = m.length
    · rw [if_pos (by simpa using hl)]
      exact zip_sp hl
    · rw [if_neg (by simpa using hl)]
      rw [decide_eq_false fun e => hl (by rw [e])]
theorem lstM {l l' : List D} {x y : D} {b : Bool} (hx : seeD x S = .lst l) (hy : seeD y S = .lst l') (h : eqA tab_0 cls_0 S 6 (.lst l) (.lst l') = some b) (op : Bool → Bool) : eqAM tab_0 cls_0 op x y S = .ok (.bl (op b)) S := by
  unfold eqAM eqAP
  have e1 : ∀ x : D, seeD x S = .lst l ∨ seeD x S = .lst l' → isObj x = false := fun x h => by
    cases x with
    | obj c fs => rcases h with h | h <;> cases h
    | _ => rfl
  have e3 : neBad x y = false := by
    unfold neBad
    rw [e1 y (.inr hy)]
    cases x with
    | dct l => cases hx
    | _ => rfl
  rw [e1 x (.inl hx), e1 y (.inr hy), hx, hy, h, e3]
  simp
end Ro
end
section
set_option Elab.async false
set_option linter.all false
set_option maxRecDepth 100000
set_option maxHeartbeats 1000000
namespace Ro
open PySem
variable {S S' : Store} {env : Env}
structure Jn where
  ts : List Int
  b : Int
  e : Int
  ls : List Sp
  ss : List Int
  past : List (List Sp × List Int)
def pastD (x : List Sp × List Int) : D := .tup [.lst (x.1.map Sp.obj), .lst (x.2.map .int)]
def Jn.cell (J : Jn) (q : Nat) : Cell := .ins "Journey" [("own_towns", .tup (J.ts.map .int)), ("own_ends", .tup [.int J.b, .int J.e]), ("own_lines", .lst (J.ls.map Sp.obj)), ("own_sums", .lst (J.ss.map .int)), ("own_past", .ref q)]
def Jn.pcell (J : Jn) : Cell := .lst (J.past.map pastD)
structure JAt (S : Store) (n q : Nat) (J : Jn) : Prop where
  n : S[n]? = some (J.cell q)
  q : S[q]? = some J.pcell
theorem JAt.ne {n q : Nat} {J : Jn} (h : JAt S n q J) : n ≠ q := fun e => by
  have h1 := h.n
  rw [e, h.q] at h1
  cases h1
theorem JAt.ln {n q : Nat} {J : Jn} (h : JAt S n q J) : n < S.length := (List.getElem?_eq_some_iff.mp h.n).1
theorem JAt.lq {n q : Nat} {J : Jn} (h : JAt S n q J) : q < S.length := (List.getElem?_eq_some_iff.mp h.q).1
theorem JAt.kp {n q : Nat} {J : Jn} {l : List Nat} (h : JAt S n q J) (k : Kp S l S') (h1 : n ∉ l) (h2 : q ∉ l) : JAt S' n q J := ⟨k.get h.n h1, k.get h.q h2⟩
section
variable {n q : Nat} {J : Jn}
theorem a_towns (h : JAt S n q J) : attrD cf ["Journey"] "own_towns" (.ref n) S = some (.tup (J.ts.map .int)) := by unfold attrD; dsimp only; rw [h.n]; rfl
theorem a_ends (h : JAt S n q J) : attrD cf ["Journey"] "own_ends" (.ref n) S = some (.tup [.int J.b, .int J.e]) := by unfold attrD; dsimp only; rw [h.n]; rfl
theorem a_lines (h : JAt S n q J) : attrD cf ["Journey"] "own_lines" (.ref n) S = some (.lst (J.ls.map Sp.obj)) := by unfold attrD; dsimp only; rw [h.n]; rfl
theorem a_sums (h : JAt S n q J) : attrD cf ["Journey"] "own_sums" (.ref n) S = some (.lst (J.ss.map .int)) := by unfold attrD; dsimp only; rw [h.n]; rfl
theorem a_past (h : JAt S n q J) : attrD cf ["Journey"] "own_past" (.ref n) S = some (.ref q) := by unfold attrD; dsimp only; rw [h.n]; rfl
theorem j_inst (h : JAt S n q J) {m : String} (hm : (["own_towns", "own_ends", "own_lines", "own_sums", "own_past"] : List String).contains m = false) : isInst cf "Journey" m (.ref n) S = true := by
  unfold isInst
  dsimp only
  rw [h.n]
  simp only [List.contains_cons, List.contains_nil, Bool.or_eq_false_iff, Bool.or_false] at hm
  obtain ⟨h1, h2, h3, h4, h5⟩ := hm
  show ("Journey" == "Journey" && (List.lookup m _).isNone) = true
  simp only [List.lookup_cons, h1, h2, h3, h4, h5, List.lookup_nil, Option.isNone_none, beq_self_eq_true, Bool.and_self]
theorem j_isOf (h : JAt S n q J) : isOf "Journey" (.ref n) S = true := by unfold isOf; dsimp only; rw [h.n]; rfl
theorem j_ty (h : JAt S n q J) : tyD (.ref n) S = some (.o "Journey") := by unfold tyD; dsimp only; rw [h.n]; rfl
theorem p_ty (h : JAt S n q J) : tyD (.ref q) S = some (.b "list") := by unfold tyD; dsimp only; rw [h.q]; rfl
end
theorem ty_at {n : Nat} {l : List D} (h : S[n]? = some (.lst l)) : tyD (.ref n) S = some (.b "list") := by unfold tyD; dsimp only; rw [h]
theorem app_ref {n : Nat} {l : List D} {x : D} (h : S[n]? = some (.lst l)) (hl : l.length < 16777216) : appM (.ref n) x S = some (S.set n (.lst (l ++ [x]))) := by unfold appM; dsimp only; rw [h]; dsimp only; rw [if_pos hl]
def Jn.become (J : Jn) (l : List Sp) (s : List Int) : Jn := { J with ls := sortS l, ss := isort s, past := J.past ++ [(J.ls, J.ss)] }
theorem sortI_of (s : List Int) : bSortI [.lst (s.map .int)] = some (.lst ((isort s).map .int)) := by
  unfold bSortI
  dsimp only
  rw [dInts_map]; rfl
theorem become_ok {n q : Nat} {J : Jn} (h : JAt S n q J) {l : List Sp} {s : List Int} (hp : J.past.length < 1000) (hl : l.length ≤ 1000) : W (m_Journey_become [.ref n, .lst (l.map Sp.obj), .lst (s.map .int)] S) fun d S' => d = .non ∧ JAt S' n q (J.become l s) ∧ Kp S [n, q] S' := by
  have hq : S[q]? = some (.lst (J.past.map pastD)) := h.q
  have pt := p_ty h
  apply_rules only [x_Journey_become]
  apply_rules [a_lines h, a_sums h, a_past h, app_ref hq (by rw [List.length_map]; omega)]
  have n1 : (S.set q (.lst (J.past.map pastD ++ [.tup [.lst (J.ls.map Sp.obj), .lst (J.ss.map .int)]])))[n]? = some (J.cell q) := by rw [List.getElem?_set_ne h.ne.symm]; exact h.n
  generalize hS1 : S.set q (.lst (J.past.map pastD ++ [.tup [.lst (J.ls.map Sp.obj), .lst (J.ss.map .int)]])) = S1 at n1
  apply_rules [sortO (S := S1) (l := l) (by omega)]
  refine ⟨n, _, _, rfl, n1, rfl, ?_⟩
  have n2 : (S1.set n (.ins "Journey" (setF "own_lines" (.lst ((sortS l).map Sp.obj)) [("own_towns", .tup (J.ts.map .int)), ("own_ends", .tup [.int J.b, .int J.e]), ("own_lines", .lst (J.ls.map Sp.obj)), ("own_sums", .lst (J.ss.map .int)), ("own_past", .ref q)])))[n]? = some (.ins "Journey" [("own_towns", .tup (J.ts.map .int)), ("own_ends", .tup [.int J.b, .int J.e]), ("own_lines", .lst ((sortS l).map Sp.obj)), ("own_sums", .lst (J.ss.map .int)), ("own_past", .ref q)]) := by
    rw [List.getElem?_set_self (List.getElem?_eq_some_iff.mp n1).1]; rfl
  apply_rules [sortI_of s]
  refine ⟨n, _, _, rfl, n2, rfl, ?_⟩
  apply_rules
  refine ⟨⟨?_, ?_⟩, ?_⟩
  · rw [List.getElem?_set_self (by rw [List.length_set]; exact (List.getElem?_eq_some_iff.mp n1).1)]; rfl
  · rw [List.getElem?_set_ne h.ne, List.getElem?_set_ne h.ne, ← hS1, List.getElem?_set_self h.lq]
    unfold Jn.pcell Jn.become
    rw [List.map_append]; rfl
  · rw [← hS1]
    exact ((Kp.set (by simp)).trans (Kp.set (by simp))).trans (Kp.set (by simp))
def Jn.spend (J : Jn) (p : Sp) : Jn := J.become (J.ls ++ [p]) J.ss
def Jn.had (J : Jn) (i : Int) : Jn := J.become J.ls (J.ss ++ [i])
theorem whole_t {i lo hi : Int} (h1 : lo ≤ i) (h2 : i ≤ hi) : wholeB (.int i) lo hi = true := by unfold wholeB; simp [h1, h2]
theorem town_ok {n q : Nat} {J : Jn} (h : JAt S n q J) {d : Int} (h0 : 0 ≤ d) (h1 : d < J.ts.length) : ∃ t, m_Journey_town_on [.ref n, .int d] S = .ok (.int t) S := by
  have hw : wholeB (.int d) 0 (((J.ts.map D.int).length : Int) - 1) = true := whole_t h0 (by rw [List.length_map]; omega)
  obtain ⟨t, ht⟩ : ∃ t, J.ts[d.toNat]? = some t := ⟨_, List.getElem?_eq_getElem (by omega)⟩
  have hx : idxB (.tup (J.ts.map .int)) (.int d) S = some (.int t) := by
    show atP (J.ts.map D.int) d = _
    unfold atP pyIx
    rw [if_pos h0, if_pos (by rw [List.length_map]; exact h1)]
    simp [ht]
  refine ⟨t, WX.toEq ?_⟩
  apply_rules only [x_Journey_town_on]
  apply_rules [a_towns h, fun S => whole_b (S := S) (d := .int d) rfl 0 (((J.ts.map D.int).length : Int) - 1), hw, hx]
  rfl
theorem spend_ok {n q : Nat} {J : Jn} (h : JAt S n q J) {p : Sp} (h0 : 0 ≤ p.day) (h1 : p.day < J.ts.length) (hl : J.ls.length < 40) (hp : J.past.length < 1000) :
    W (m_Journey_spend [.ref n, p.obj] S) fun d S' => d = .non ∧ JAt S' n q (J.spend p) ∧ Kp S [n, q] S' := by
  obtain ⟨t, ht⟩ := town_ok h h0 h1
  have hn : ¬ (((J.ls.map Sp.obj).length : Int) = 40) := by rw [List.length_map]; omega
  have f1 : ∀ S, attrD cf ["Spending"] "day" p.obj S = some (.int p.day) := fun S => rfl
  have i1 := j_inst h (m := "town_on") rfl
  have i2 := j_inst h (m := "become") rfl
  have ha : addD (.lst (J.ls.map Sp.obj)) (.lst [p.obj]) = some (.lst ((J.ls ++ [p]).map Sp.obj)) := by
    unfold addD
    dsimp only
    rw [if_pos (by simp; omega), List.map_append]; rfl
  have be := become_ok h (l := J.ls ++ [p]) (s := J.ss) hp (by simp; omega)
  apply_rules only [x_Journey_spend]
  apply_rules [f1, ht, a_lines h, a_sums h, hn, ha]
  exact WX.use be fun d S' ⟨_, a, k⟩ => Fq.nx ⟨rfl, a, k⟩
theorem had_ok {n q : Nat} {J : Jn} (h : JAt S n q J) {i : Int} (h0 : 1 ≤ i) (h1 : i ≤ 1000000000) (hs : J.ss.length < 10) (hl : J.ls.length ≤ 40) (hp : J.past.length < 1000) :
    W (m_Journey_had [.ref n, .int i] S) fun d S' => d = .non ∧ JAt S' n q (J.had i) ∧ Kp S [n, q] S' := by
  have hw : wholeB (.int i) 1 1000000000 = true := whole_t h0 h1
  have hn : ¬ (((J.ss.map D.int).length : Int) = 10) := by rw [List.length_map]; omega
  have i2 := j_inst h (m := "become") rfl
  have ha : addD (.lst (J.ss.map D.int)) (.lst [.int i]) = some (.lst ((J.ss ++ [i]).map .int)) := by
    unfold addD
    dsimp only
    rw [if_pos (by simp; omega), List.map_append]; rfl
  have be := become_ok h (l := J.ls) (s := J.ss ++ [i]) hp (by omega)
  apply_rules only [x_Journey_had]
  apply_rules [fun S => whole_b (S := S) (d := .int i) rfl 1 1000000000, hw, a_lines h, a_sums h, hn, ha]
  exact WX.use be fun d S' ⟨_, a, k⟩ => Fq.nx ⟨rfl, a, k⟩
theorem any_sp {p : Sp} : ∀ l : List Sp, anyA (fun z => eqE tab_0 cls_0 S 6 z p.obj) (l.map Sp.obj) = some (decide (p ∈ l))
  | [] => by simp [anyA]
  | x :: l => by
    rw [List.map_cons, anyA, sp_E]
    by_cases e : x = p
    · rw [decide_eq_true e]
      subst e
      simp
    · rw [decide_eq_false e]
      dsimp only
      rw [any_sp l]
      have e2 : ¬ p = x := fun e' => e e'.symm
      simp [e2]
theorem fst_sp {p : Sp} : ∀ (l : List Sp) (i : Nat), p ∈ l → fstA (fun z => eqE tab_0 cls_0 S 6 z p.obj) i (l.map Sp.obj) = some (i + l.idxOf p)
  | [], _, h => by cases h
  | x :: l, i, h => by
    rw [List.map_cons, fstA, sp_E]
    by_cases e : x = p
    · rw [decide_eq_true e]
      subst e
      simp
    · rw [decide_eq_false e]
      dsimp only
      rw [fst_sp l (i + 1) ((List.mem_cons.mp h).resolve_left fun z => e z.symm), List.idxOf_cons, beq_eq_false_iff_ne.mpr e]
      simp
      omega
theorem in_ok {p : Sp} {l : List Sp} (op : Bool → Bool) : inAM tab_0 cls_0 op p.obj (.lst (l.map Sp.obj)) S = .ok (.bl (op (decide (p ∈ l)))) S := by
  unfold inAM
  have e : seeD (.lst (l.map Sp.obj)) S = .lst (l.map Sp.obj) := rfl
  rw [e]
  dsimp only
  rw [any_sp]
theorem ix_ok {p : Sp} {l : List Sp} (h : p ∈ l) (hl : l.length ≤ 1000) : ixAM tab_0 cls_0 (.lst (l.map Sp.obj)) p.obj S = .ok (.int (l.idxOf p : Nat)) S := by
  unfold ixAM
  have e : seeD (.lst (l.map Sp.obj)) S = .lst (l.map Sp.obj) := rfl
  rw [e]
  dsimp only
  rw [if_pos (by rw [List.length_map]; show l.length ≤ 16777216; omega), fst_sp l 0 h]
  simp
def Jn.strike (J : Jn) (p : Sp) : Jn := J.become (J.ls.erase p) J.ss
theorem cut_lo {α : Type} {l : List α} {i : Nat} (h : i ≤ l.length) : cutL l none (some (i : Int)) = l.take i := by
  unfold cutL cutI
  dsimp only
  rw [if_neg (by omega)]
  simp [Nat.min_eq_left h]
theorem cut_hi {α : Type} {l : List α} {i : Nat} (h : i ≤ l.length) : cutL l (some (i : Int)) none = l.drop i := by
  unfold cutL cutI
  dsimp only
  rw [if_neg (by omega)]
  have e : min i l.length = i := Nat.min_eq_left h
  simp [e]
  exact List.take_of_length_le (by simp)
theorem strike_ok {n q : Nat} {J : Jn} (h : JAt S n q J) {p : Sp} (hm : p ∈ J.ls) (hl : J.ls.length ≤ 40) (hp : J.past.length < 1000) :
    W (m_Journey_strike [.ref n, p.obj] S) fun d S' => d = .non ∧ JAt S' n q (J.strike p) ∧ Kp S [n, q] S' := by
  have hi := List.idxOf_lt_length_of_mem hm
  have i2 := j_inst h (m := "become") rfl
  have hn : decide (p ∈ J.ls) = true := decide_eq_true hm
  have c1 : cutD (.lst (J.ls.map Sp.obj)) none (some ((J.ls.idxOf p : Nat) : Int)) = some (.lst ((J.ls.take (J.ls.idxOf p)).map Sp.obj)) := by
    show some (D.lst (cutL _ _ _)) = _
    rw [cut_lo (by rw [List.length_map]; omega), List.map_take]
  have c2 : cutD (.lst (J.ls.map Sp.obj)) (some (((J.ls.idxOf p : Nat) : Int) + 1)) none = some (.lst ((J.ls.drop (J.ls.idxOf p + 1)).map Sp.obj)) := by
    show some (D.lst (cutL _ _ _)) = _
    rw [show (((J.ls.idxOf p : Nat) : Int) + 1) = ((J.ls.idxOf p + 1 : Nat) : Int) by omega, cut_hi (by rw [List.length_map]; omega), List.map_drop]
  have ha : addD (.lst ((J.ls.take (J.ls.idxOf p)).map Sp.obj)) (.lst ((J.ls.drop (J.ls.idxOf p + 1)).map Sp.obj)) = some (.lst ((J.ls.take (J.ls.idxOf p) ++ J.ls.drop (J.ls.idxOf p + 1)).map Sp.obj)) := by
    unfold addD
    dsimp only
    rw [if_pos (by simp; omega), List.map_append]
  have be := become_ok h (l := J.ls.take (J.ls.idxOf p) ++ J.ls.drop (J.ls.idxOf p + 1)) (s := J.ss) hp (by simp; omega)
  have ee : J.become (J.ls.take (J.ls.idxOf p) ++ J.ls.drop (J.ls.idxOf p + 1)) J.ss = J.strike p := by
    unfold Jn.strike Jn.become
    rw [← List.eraseIdx_eq_take_drop_succ, List.erase_eq_eraseIdx_of_idxOf rfl]
  rw [ee] at be
  apply_rules only [x_Journey_strike]
  apply_rules [in_ok (S := S) (p := p) (l := J.ls) not, ix_ok (S := S) hm (by omega), a_lines h, a_sums h, hn, c1, c2, ha]
  exact WX.use be fun d S' ⟨_, a, k⟩ => Fq.nx ⟨rfl, a, k⟩
end Ro
end
section
set_option Elab.async false
set_option linter.all false
set_option maxRecDepth 100000
set_option maxHeartbeats 1000000
namespace Ro
open PySem
def townsB : D → Bool
  | .tup l => decide (1 ≤ l.length) && decide (l.length ≤ 30) && l.all fun d => wholeB d 0 3
  | _ => false
/-- a thing whose parts are things -/
def okT (d : D) : Prop := okD d = true ∧ ∀ l, d = .tup l → l.length ≤ 2000 ∧ ∀ x ∈ l, okD x = true
theorem lc_bools {tg : Pat} {c : BX} {el : EX} {env0 : Env} {g : D → Bool} : ∀ {xs acc : List D}, acc.length + xs.length ≤ 16777216 → (∀ x ∈ xs, ∃ e, tg x env0 = some e ∧ c e S = .ok true S ∧ el e S = .ok (.bl (g x)) S) →
    lcLoop tg c el env0 xs acc S = .ok (acc ++ xs.map fun x => .bl (g x)) S
  | [], acc, _, _ => by simp [lcLoop]
  | x :: xs, acc, hl, h => by
    obtain ⟨e, h1, h2, h3⟩ := h x (by simp)
    have ih := lc_bools (g := g) (xs := xs) (acc := acc ++ [D.bl (g x)]) (by simp at hl ⊢; omega) (fun y hy => h y (by simp [hy]))
    unfold lcLoop
    rw [h1]
    dsimp only
    rw [h2, nox_ok, bnd_ok, if_pos rfl, h3, nox_ok, bnd_ok, if_pos (by simp at hl ⊢; omega), ih]
    simp
theorem dBls_map {g : D → Bool} : ∀ l : List D, dBls (l.map fun x => .bl (g x)) = some (l.map g)
  | [] => rfl
  | x :: l => by rw [List.map_cons, dBls, dBls_map l]; rfl
theorem bAll_map {g : D → Bool} (l : List D) : bAll [.lst (l.map fun x => .bl (g x))] = some (.bl (l.all g)) := by
  show ((dBls (l.map fun x => .bl (g x))).map fun bs => D.bl (bs.all id)) = _
  rw [dBls_map]
  simp [List.all_map]
@[simp] theorem len_tup (l : List D) : bLenA [.tup l] = some (.int l.length) := rfl
@[simp] theorem len_lst (l : List D) : bLenA [.lst l] = some (.int l.length) := rfl
theorem towns_b {d : D} (h : okT d) : m_are_towns [d] S = .ok (.bl (townsB d)) S := by
  obtain ⟨h1, h2⟩ := h
  unfold m_are_towns b_are_towns
  cases d with
  | tup l =>
    obtain ⟨hl, hx⟩ := h2 l rfl
    have key : lcLoop (pName 1) bYes (eFn (callM m_is_whole 3 0 3 [(0, 0), (0, 1), (0, 2)] []) (aCons (eVar 1) (aCons (eC (.int 0)) (aCons (eC (.int 3)) aNil))) aNil) (wipeE [some (.tup l), none] [1]) l [] S = .ok ([] ++ l.map fun x => .bl (wholeB x 0 3)) S := by
      refine lc_bools (by simp; omega) fun x hxm => ?_
      refine ⟨_, rfl, rfl, ?_⟩
      have := whole_b (S := S) (hx x hxm) 0 3
      simp [wipeE, this]
    rw [List.nil_append] at key
    have ba := bAll_map (g := fun x => wholeB x 0 3) l
    generalize (l.map fun x => D.bl (wholeB x 0 3)) = L at key ba
    by_cases c1 : (1 : Int) ≤ l.length
    · have c1' : 1 ≤ l.length := by omega
      by_cases c2 : (l.length : Int) ≤ 30
      · have c2' : l.length ≤ 30 := by omega
        simp [c1, c2, key, ba, townsB, c1', c2']
      · have c2' : ¬ l.length ≤ 30 := by omega
        simp [c1, c2, townsB, c2']
    · have c1' : ¬ 1 ≤ l.length := by omega
      simp [c1, townsB, c1']
  | scr l => cases h1
  | obj c l => cases h1
  | ref n => cases h1
  | fn n => cases h1
  | thk n l => cases h1
  | _ => simp [townsB]
end Ro
end
section
set_option Elab.async false
set_option linter.all false
set_option maxRecDepth 100000
set_option maxHeartbeats 1000000
namespace Ro
open PySem
variable {S S' : Store} {env : Env}
theorem past_E {l : List (List Sp × List Int)} : eqA tab_0 cls_0 S 6 (.lst (l.map pastD)) (.lst []) = some l.isEmpty := by
  rw [eqA_s]
  split
  · cases l with
    | nil => rfl
    | cons x l => rfl
  · unfold shapeA
    dsimp only
    cases l with
    | nil => rfl
    | cons x l => rfl
theorem see_q {n q : Nat} {J : Jn} (h : JAt S n q J) : seeD (.ref q) S = .lst (J.past.map pastD) := by unfold seeD; dsimp only; rw [h.q]; rfl
theorem undo_ok {n q : Nat} {J : Jn} (h : JAt S n q J) {P : List (List Sp × List Int)} {l : List Sp} {s : List Int} (hP : J.past = P ++ [(l, s)]) :
    W (m_Journey_undo [.ref n] S) fun d S' => d = .non ∧ JAt S' n q { J with ls := l, ss := s, past := P } ∧ Kp S [n, q] S' := by
  have pt := p_ty h
  have he : eqAM tab_0 cls_0 id (.ref q) (.lst []) S = .ok (.bl false) S := by
    have := lstM (S := S) (x := .ref q) (y := .lst []) (l' := []) (see_q h) rfl past_E id
    rw [this, hP]
    simp
  have hpop : popM (.ref q) S = .ok (pastD (l, s)) (S.set q (.lst (P.map pastD))) := by
    unfold popM
    dsimp only
    rw [h.q]
    unfold Jn.pcell
    rw [hP]
    simp
  have n1 : (S.set q (.lst (P.map pastD)))[n]? = some (J.cell q) := by rw [List.getElem?_set_ne h.ne.symm]; exact h.n
  apply_rules only [x_Journey_undo]
  apply_rules [a_past h, he, hpop]
  generalize hS1 : S.set q (.lst (P.map pastD)) = S1 at n1
  apply_rules
  refine ⟨n, _, _, rfl, n1, rfl, ?_⟩
  have n2 : (S1.set n (.ins "Journey" (setF "own_lines" (.lst (l.map Sp.obj)) [("own_towns", .tup (J.ts.map .int)), ("own_ends", .tup [.int J.b, .int J.e]), ("own_lines", .lst (J.ls.map Sp.obj)), ("own_sums", .lst (J.ss.map .int)), ("own_past", .ref q)])))[n]? = some (.ins "Journey" [("own_towns", .tup (J.ts.map .int)), ("own_ends", .tup [.int J.b, .int J.e]), ("own_lines", .lst (l.map Sp.obj)), ("own_sums", .lst (J.ss.map .int)), ("own_past", .ref q)]) := by
    rw [List.getElem?_set_self (List.getElem?_eq_some_iff.mp n1).1]; rfl
  apply_rules
  refine ⟨n, _, _, rfl, n2, rfl, ?_⟩
  apply_rules
  refine ⟨⟨?_, ?_⟩, ?_⟩
  · rw [List.getElem?_set_self (by rw [List.length_set]; exact (List.getElem?_eq_some_iff.mp n1).1)]; rfl
  · rw [List.getElem?_set_ne h.ne, List.getElem?_set_ne h.ne, ← hS1, List.getElem?_set_self h.lq]
    rfl
  · rw [← hS1]
    exact ((Kp.set (by simp)).trans (Kp.set (by simp))).trans (Kp.set (by simp))
def Jn.same (J K : Jn) : Bool := decide (J.ts = K.ts) && decide (J.b = K.b ∧ J.e = K.e) && decide (J.ls = K.ls) && decide (J.ss = K.ss)
theorem pyEqs_int : ∀ l m : List Int, pyEqs (l.map .int) (m.map .int) = decide (l = m)
  | [], [] => by simp
  | [], _ :: _ => by simp
  | _ :: _, [] => by simp
  | x :: l, y :: m => by
    rw [List.map_cons, List.map_cons, pyEqs_cons, pyEq_int, pyEqs_int l m]
    by_cases e : x = y <;> by_cases e2 : l = m <;> simp [e, e2]
theorem pl_ints (n : Nat) (l : List Int) : (l.map D.int).all (plN n) = true := by
  rw [List.all_eq_true]
  intro x hx
  obtain ⟨i, _, rfl⟩ := List.mem_map.mp hx
  simp
theorem ne_tints (l m : List Int) : neD (.tup (l.map .int)) (.tup (m.map .int)) = some (.bl (!decide (l = m))) := by
  have hp : ∀ l : List Int, plD (.tup (l.map .int)) = true := fun l => pl_ints 7 l
  unfold neD
  rw [hp, hp, pyEq_tup, pyEqs_int]
  rfl
theorem eq_lints (l m : List Int) : eqD (.lst (l.map .int)) (.lst (m.map .int)) = some (.bl (decide (l = m))) := by
  have hp : ∀ l : List Int, plD (.lst (l.map .int)) = true := fun l => pl_ints 7 l
  unfold eqD
  rw [hp, hp, pyEq_lst, pyEqs_int]
  rfl
theorem jeq_ok {n q n' q' : Nat} {J K : Jn} (h : JAt S n q J) (k : JAt S n' q' K) : m_Journey_eq [.ref n, .ref n'] S = .ok (.bl (J.same K)) S := by
  have t1 := j_ty k
  have s1 : subTy (.o "Journey") (.o "Journey") = true := by decide
  have e1 := ne_tints J.ts K.ts
  have e2 : neD (.tup [.int J.b, .int J.e]) (.tup [.int K.b, .int K.e]) = some (.bl (!decide (J.b = K.b ∧ J.e = K.e))) := by
    have := ne_tints [J.b, J.e] [K.b, K.e]
    simpa using this
  have e3 : eqAM tab_0 cls_0 id (.lst (J.ls.map Sp.obj)) (.lst (K.ls.map Sp.obj)) S = .ok (.bl (decide (J.ls = K.ls))) S := lstM rfl rfl spl_A id
  have e4 := eq_lints J.ss K.ss
  refine WX.toEq ?_
  unfold Jn.same
  cases z1 : decide (J.ts = K.ts) <;> cases z2 : decide (J.b = K.b ∧ J.e = K.e) <;> cases z3 : decide (J.ls = K.ls) <;> rw [z1] at e1 <;> rw [z2] at e2 <;> rw [z3] at e3 <;> apply_rules only [x_Journey_eq] <;>
    apply_rules [t1, s1, a_towns h, a_towns k, a_ends h, a_ends k, a_lines h, a_lines k, a_sums h, a_sums k, e1, e2, e3, e4] <;> first | rfl | exact ⟨by simp, rfl⟩
theorem eqV_ok {n q n' q' : Nat} {J K : Jn} (h : JAt S n q J) (k : JAt S n' q' K) (op : Bool → Bool) : eqMV "Journey" m_Journey_eq op (.ref n) (.ref n') S = .ok (.bl (op (J.same K))) S := by
  unfold eqMV
  rw [j_isOf h, j_isOf k, jeq_ok h k]
  rfl
theorem len_ok {n q : Nat} {J : Jn} (h : JAt S n q J) : m_Journey_len [.ref n] S = .ok (.int J.ls.length) S := by
  refine WX.toEq ?_
  apply_rules only [b_Journey_len]
  apply_rules [a_lines h]
  exact ⟨by simp, rfl⟩
theorem lenV_ok {n q : Nat} {J : Jn} (h : JAt S n q J) (hl : J.ls.length ≤ 1000) : lenMV "Journey" m_Journey_len (.ref n) S = .ok (.int J.ls.length) S := by
  unfold lenMV
  rw [j_isOf h, if_pos rfl, len_ok h]
  dsimp only
  rw [if_pos (by omega)]
theorem lines_ok {n q : Nat} {J : Jn} (h : JAt S n q J) : m_Journey_lines [.ref n] S = .ok (.ref S.length) (S ++ [.lst (J.ls.map Sp.obj)]) := by
  refine WX.toEq ?_
  apply_rules only [b_Journey_lines]
  apply_rules [a_lines h]
  rfl
end Ro
end
section
set_option Elab.async false
set_option linter.all false
set_option maxRecDepth 100000
set_option maxHeartbeats 1000000
namespace Ro
open PySem
variable {S S' : Store} {env : Env}
structure TOk (ts : List Int) (b e : Int) : Prop where
  n0 : 1 ≤ ts.length
  n1 : ts.length ≤ 30
  t : ∀ x ∈ ts, 0 ≤ x ∧ x ≤ 3
  b0 : 0 ≤ b
  b1 : b ≤ 10
  e0 : 0 ≤ e
  e1 : e ≤ 10
theorem townsB_ok {ts : List Int} (h0 : 1 ≤ ts.length) (h1 : ts.length ≤ 30) (h : ∀ x ∈ ts, 0 ≤ x ∧ x ≤ 3) : townsB (.tup (ts.map .int)) = true := by
  unfold townsB
  simp only [List.length_map, Bool.and_eq_true, decide_eq_true_eq, List.all_eq_true]
  refine ⟨⟨h0, h1⟩, fun x hx => ?_⟩
  obtain ⟨i, hi, rfl⟩ := List.mem_map.mp hx
  exact whole_t (h i hi).1 (h i hi).2
theorem okT_ts {ts : List Int} (h1 : ts.length ≤ 30) : okT (.tup (ts.map .int)) := ⟨rfl, fun l e => by
  cases e
  refine ⟨by rw [List.length_map]; omega, fun x hx => ?_⟩
  obtain ⟨i, _, rfl⟩ := List.mem_map.mp hx
  rfl⟩
def jn0 (ts : List Int) (b e : Int) : Jn := ⟨ts, b, e, [], [], []⟩
theorem init_ok {n : Nat} {ts : List Int} {b e : Int} (h : TOk ts b e) (hS : S[n]? = some (.ins "Journey" [])) : W (m_Journey_init [.ref n, .tup (ts.map .int), .int b, .int e] S) fun d S' => d = .non ∧ JAt S' n S.length (jn0 ts b e) ∧ Kp S [n] S' := by
  have tb := fun S => towns_b (S := S) (okT_ts h.n1 : okT (.tup (ts.map .int)))
  have t1 := townsB_ok h.n0 h.n1 h.t
  have hb : wholeB (.int b) 0 10 = true := whole_t h.b0 h.b1
  have he : wholeB (.int e) 0 10 = true := whole_t h.e0 h.e1
  have w1 := fun S => whole_b (S := S) (d := .int b) rfl 0 10
  have w2 := fun S => whole_b (S := S) (d := .int e) rfl 0 10
  have ln := (List.getElem?_eq_some_iff.mp hS).1
  apply_rules only [x_Journey_init]
  apply_rules [tb, t1, w1, w2, hb, he]
  refine ⟨n, _, _, rfl, hS, rfl, ?_⟩
  apply_rules
  refine ⟨n, _, _, rfl, List.getElem?_set_self ln, rfl, ?_⟩
  rw [List.set_set]
  apply_rules
  refine ⟨n, _, _, rfl, List.getElem?_set_self ln, rfl, ?_⟩
  rw [List.set_set]
  apply_rules
  refine ⟨n, _, _, rfl, List.getElem?_set_self ln, rfl, ?_⟩
  rw [List.set_set]
  apply_rules
  rw [List.length_set]
  refine ⟨n, _, _, rfl, (List.getElem?_append_left (by rw [List.length_set]; exact ln)).trans (List.getElem?_set_self ln), rfl, ?_⟩
  rw [List.set_append_left _ _ (by rw [List.length_set]; exact ln), List.set_set]
  apply_rules
  refine ⟨⟨?_, ?_⟩, ?_⟩
  · exact (List.getElem?_append_left (by rw [List.length_set]; exact ln)).trans (List.getElem?_set_self ln)
  · rw [List.getElem?_append_right (by rw [List.length_set]; exact Nat.le_refl _), List.length_set, Nat.sub_self]
    rfl
  · exact (Kp.set (by simp)).trans (Kp.app _ _ _)
theorem JAt.set {n q m : Nat} {J : Jn} {c : Cell} (h : JAt S n q J) (h1 : n ≠ m) (h2 : q ≠ m) : JAt (S.set m c) n q J := h.kp (l := [m]) (Kp.set (by simp)) (by simpa using h1) (by simpa using h2)
theorem JAt.app {n q : Nat} {J : Jn} (h : JAt S n q J) (X : Store) : JAt (S ++ X) n q J := h.kp (l := []) (Kp.app S X []) (by simp) (by simp)
theorem past_copy {n q : Nat} {J : Jn} {x : Option D} (h : JAt S n q J) : eListM (aCons (eAttr cf ["Journey"] "own_past" (eVar 0)) aNil) [some (.ref n), x] S = .ok (.ref S.length) (S ++ [.lst (J.past.map pastD)]) := by
  have e : (aCons (eAttr cf ["Journey"] "own_past" (eVar 0)) aNil) [some (.ref n), x] S = .ok [.ref q] S := by
    simp [u_eAttr, a_past h]
  unfold eListM
  rw [e, bnd_ok]
  dsimp only
  rw [h.q]
  rfl
theorem twin_ok {n q : Nat} {J : Jn} (h : JAt S n q J) (ht : TOk J.ts J.b J.e) : W (m_Journey_twin [.ref n] S) fun d S' => ∃ n' q', d = .ref n' ∧ S.length ≤ n' ∧ S.length ≤ q' ∧ JAt S' n' q' J ∧ Kp S [] S' := by
  have ln := h.ln
  have lq := h.lq
  apply_rules only [x_Journey_twin]
  apply_rules [a_towns h, a_ends h]
  have hS : (S ++ [Cell.ins "Journey" []])[S.length]? = some (.ins "Journey" []) := by simp
  refine WX.use (init_ok ht hS) fun d S1 ⟨e, A, K⟩ => ⟨e, ?_⟩
  have K0 : Kp S [S.length] S1 := ((Kp.app S [Cell.ins "Journey" []] [S.length]).trans K)
  have h1 : JAt S1 n q J := h.kp K0 (by simp; omega) (by simp; omega)
  have l1 := A.ln
  have hA := A.n
  apply_rules [a_lines h1]
  refine ⟨_, _, _, rfl, hA, rfl, ?_⟩
  have hs : ∀ c, JAt (S1.set S.length c) n q J := fun c => h1.set (by omega) (by omega)
  apply_rules [fun c => a_sums (hs c)]
  refine ⟨_, _, _, rfl, List.getElem?_set_self l1, rfl, ?_⟩
  rw [List.set_set]
  apply_rules [fun c => past_copy (hs c) (x := some (.ref S.length))]
  rw [List.length_set]
  refine ⟨_, _, _, rfl, (List.getElem?_append_left (by rw [List.length_set]; exact l1)).trans (List.getElem?_set_self l1), rfl, ?_⟩
  rw [List.set_append_left _ _ (by rw [List.length_set]; exact l1), List.set_set]
  apply_rules
  have k0 : S.length ≤ S1.length := K0.len
  refine ⟨_, _, rfl, Nat.le_refl _, k0, ⟨?_, ?_⟩, ?_, fun i hi _ => ?_⟩
  · exact (List.getElem?_append_left (by rw [List.length_set]; exact l1)).trans (List.getElem?_set_self l1)
  · rw [List.getElem?_append_right (by rw [List.length_set]; exact Nat.le_refl _), List.length_set, Nat.sub_self]
    rfl
  · rw [List.length_append, List.length_set]; omega
  · rw [List.getElem?_append_left (by rw [List.length_set]; omega), List.getElem?_set_ne (by omega)]
    exact K0.at_ i hi (by simp; omega)
end Ro
end
section
set_option Elab.async false
set_option linter.all false
set_option maxRecDepth 100000
set_option maxHeartbeats 1000000
namespace Ro
open PySem
variable {S S' : Store} {env : Env}
theorem Bs.kp {b : Nat} (h : Bs S b S') : Kp S [b] S' := by
  obtain ⟨x, y, _, _, rfl⟩ := h
  exact Kp.set (by simp)
theorem Bx.kp {b : Nat} {l : List Nat} (hB : Bx S b) (k : Kp S l S') (h : b ∉ l) : Bx S' b := by
  obtain ⟨x, y, e, h1⟩ := hB
  exact ⟨x, y, k.get e h, h1⟩
theorem WX.useD {E : String → List D → Store → Prop} {b : Nat} {n : Int} {q : D → Store → Prop} (hB : Bx S b) (hn : 0 < n ∧ n < 1152921504606846976) (k : ∀ (i : Int) S1, 0 ≤ i → i < n → Kp S [b] S1 → Bx S1 b → q (.int i) S1) : WX E (m__law_take [.ref b, .int n] S) q :=
  WX.use (take_ok hB hn) fun d S1 ⟨⟨i, e, h1, h2⟩, h3⟩ => by subst e; exact k i S1 h1 h2 h3.kp (h3.bx hB.lt)
theorem pickI {l : List D} {i : Int} {P : D → Prop} (h0 : 0 ≤ i) (h1 : i < l.length) (h : ∀ d ∈ l, P d) : ∃ d, (∀ S : Store, idxB (.lst l) (.int i) S = some d) ∧ P d := by
  obtain ⟨d, e1, e2⟩ := pick_ok (l := l) (i := i) (P := P) h0 h1 h
  exact ⟨d, fun S => e1, e2⟩
theorem towns_ok {b : Nat} (hB : Bx S b) : W (m__law_towns [.ref b] S) fun d S' => ∃ ts : List Int, d = .tup (ts.map D.int) ∧ (1 ≤ ts.length ∧ ts.length ≤ 30 ∧ ∀ x ∈ ts, 0 ≤ x ∧ x ≤ 3) ∧ Kp S [b] S' ∧ Bx S' b := by
  apply_rules only [x__law_towns]
  apply_rules
  refine WX.useD hB (by decide) fun i S1 h1 h2 F1 B1 => ?_
  apply_rules
  refine WX.useD B1 (by decide) fun j S2 h3 h4 F2 B2 => ?_
  apply_rules
  refine WX.useD B2 (by decide) fun k S3 h5 h6 F3 B3 => ?_
  obtain ⟨d, ix, m, rfl, m1, m2⟩ := pickI (l := [.int 1, .int (1 + i), .int (1 + j)]) (i := k) (P := fun d => ∃ m : Nat, d = .int m ∧ 1 ≤ m ∧ m ≤ 30) h5 (by simpa using h6) (fun d hd => by
    simp only [List.mem_cons, List.not_mem_nil, or_false] at hd
    rcases hd with rfl | rfl | rfl
    · exact ⟨1, rfl, by decide, by decide⟩
    · exact ⟨(1 + i).toNat, by rw [Int.toNat_of_nonneg (by omega)], by omega, by omega⟩
    · exact ⟨(1 + j).toNat, by rw [Int.toNat_of_nonneg (by omega)], by omega, by omega⟩)
  apply_rules [ix]
  refine Ws_lcI (fun i acc S' => ∃ ts : List Int, acc = ts.map D.int ∧ ts.length = i ∧ (∀ x ∈ ts, 0 ≤ x ∧ x ≤ 3) ∧ Kp S [b] S' ∧ Bx S' b) ⟨[], rfl, rfl, by simp, (F1.trans F2).trans F3, B3⟩ (by simp; omega) (fun j x acc S4 hx hI => ?_) (fun acc S4 hI => ?_)
  · obtain ⟨ts, rfl, hl, ht, F4, B4⟩ := hI
    refine ⟨_, rfl, ?_⟩
    apply_rules
    refine WX.useD B4 (by decide) fun v S5 v1 v2 F5 B5 => ?_
    exact ⟨ts ++ [v], by simp, by simp [hl], fun x hx => by
      rcases List.mem_append.mp hx with hx | hx
      · exact ht x hx
      · simp at hx; omega, F4.trans F5, B5⟩
  · obtain ⟨ts, rfl, hl, ht, F4, B4⟩ := hI
    rw [rng_len] at hl
    apply_rules
    exact ⟨⟨by omega, by omega, ht⟩, F4, B4⟩
theorem sorts_ok : m__law_sorts [] S = .ok (.lst (kinds.map .str)) S := by
  refine WX.toEq ?_
  apply_rules only [b__law_sorts]
  apply_rules
  first | rfl | exact ⟨rfl, rfl⟩
/-- a row -/
theorem row_ok {b : Nat} {m : Int} (hB : Bx S b) (h0 : 1 ≤ m) (h1 : m ≤ 30) : W (m__law_row [.ref b, .int m] S) fun d S' => ∃ p : Sp, d = .tup p.ds ∧ p.ok ∧ Kp S [b] S' ∧ Bx S' b := by
  have hm : 0 < m ∧ m < 1152921504606846976 := ⟨by omega, by omega⟩
  have mo : ∀ {i j : Int}, 0 ≤ i → i < 5 → 0 ≤ j → j < 2 → mulOk i j = true := fun {i j} a b c d => by
    have : (i = 0 ∨ i = 1 ∨ i = 2 ∨ i = 3 ∨ i = 4) ∧ (j = 0 ∨ j = 1) := by omega
    obtain ⟨hi, hj⟩ := this
    rcases hi with rfl | rfl | rfl | rfl | rfl <;> rcases hj with rfl | rfl <;> decide
  apply_rules only [x__law_row]
  apply_rules [fun S => sorts_ok (S := S)]
  refine WX.useD hB (by decide) fun i S1 i0 i1 F1 B1 => ?_
  apply_rules
  refine WX.useD B1 (by decide) fun j S2 j0 j1 F2 B2 => ?_
  have hij : 0 ≤ i * j ∧ i * j < 5 := by
    have : j = 0 ∨ j = 1 := by omega
    rcases this with rfl | rfl <;> omega
  have hmul := mo i0 i1 j0 j1
  obtain ⟨dk, ixk, kd, rfl, hk⟩ := pickI (l := kinds.map D.str) (i := i * j) (P := fun d => ∃ z, d = .str z ∧ z ∈ kinds) hij.1 hij.2 (fun d hd => by
    obtain ⟨z, hz, rfl⟩ := List.mem_map.mp hd
    exact ⟨z, rfl, hz⟩)
  apply_rules [ixk]
  have e6 : (10 : Int) ^ Int.toNat 6 = 1000000 := rfl
  refine WX.useD B2 (by rw [e6]; decide) fun a S3 a0 a1 F3 B3 => ?_
  rw [e6] at a1
  apply_rules
  refine WX.useD B3 (by decide) fun r S4 r0 r1 F4 B4 => ?_
  obtain ⟨_, ixa, am, rfl, am0, am1⟩ := pickI (l := [.int 5, .int 8, .int 100, .int (1 + a)]) (i := r) (P := fun d => ∃ x : Int, d = .int x ∧ 1 ≤ x ∧ x ≤ 1000000) r0 (by simpa using r1) (fun d hd => by
    simp only [List.mem_cons, List.not_mem_nil, or_false] at hd
    rcases hd with rfl | rfl | rfl | rfl <;> exact ⟨_, rfl, by omega, by omega⟩)
  apply_rules [ixa]
  refine WX.useD B4 hm fun d1 S5 d10 d11 F5 B5 => ?_
  apply_rules
  refine WX.useD B5 hm fun d2 S6 d20 d21 F6 B6 => ?_
  apply_rules
  refine WX.useD B6 (by decide) fun d3 S7 d30 d31 F7 B7 => ?_
  apply_rules
  refine WX.useD B7 (by decide) fun r2 S8 r20 r21 F8 B8 => ?_
  obtain ⟨_, ixd, dy, rfl, dy0, dy1⟩ := pickI (l := [.int 0, .int d1, .int d2, .int d3]) (i := r2) (P := fun d => ∃ x : Int, d = .int x ∧ 0 ≤ x ∧ x ≤ 59) r20 (by simpa using r21) (fun d hd => by
    simp only [List.mem_cons, List.not_mem_nil, or_false] at hd
    rcases hd with rfl | rfl | rfl | rfl <;> exact ⟨_, rfl, by omega, by omega⟩)
  apply_rules [ixd]
  refine WX.useD B8 (by decide) fun h6 S9 h60 h61 F9 B9 => ?_
  apply_rules
  refine WX.useD B9 (by decide) fun r3 S10 r30 r31 F10 B10 => ?_
  obtain ⟨_, ixh, hd, rfl, hd0, hd1⟩ := pickI (l := [.int 1, .int 1, .int 2, .int (1 + h6)]) (i := r3) (P := fun d => ∃ x : Int, d = .int x ∧ 1 ≤ x ∧ x ≤ 6) r30 (by simpa using r31) (fun d hd => by
    simp only [List.mem_cons, List.not_mem_nil, or_false] at hd
    rcases hd with rfl | rfl | rfl | rfl <;> exact ⟨_, rfl, by omega, by omega⟩)
  apply_rules [ixh]
  refine WX.useD B10 (by decide) fun c4 S11 c40 c41 F11 B11 => ?_
  apply_rules
  refine WX.useD B11 (by decide) fun r4 S12 r40 r41 F12 B12 => ?_
  obtain ⟨_, ixc, mo4, rfl, mo0, mo1⟩ := pickI (l := [.int 0, .int 0, .int c4]) (i := r4) (P := fun d => ∃ x : Int, d = .int x ∧ 0 ≤ x ∧ x ≤ 3) r40 (by simpa using r41) (fun d hd => by
    simp only [List.mem_cons, List.not_mem_nil, or_false] at hd
    rcases hd with rfl | rfl | rfl <;> exact ⟨_, rfl, by omega, by omega⟩)
  apply_rules [ixc]
  refine WX.useD B12 (by decide) fun v S13 v0 v1 F13 B13 => ?_
  apply_rules
  exact ⟨⟨kd, am, dy, decide (0 < v), hd, mo4⟩, rfl, ⟨hk, am0, am1, dy0, dy1, hd0, hd1, mo0, mo1⟩, (((((((((((F1.trans F2).trans F3).trans F4).trans F5).trans F6).trans F7).trans F8).trans F9).trans F10).trans F11).trans F12).trans F13, B13⟩
end Ro
end
section
set_option Elab.async false
set_option linter.all false
set_option maxRecDepth 100000
set_option maxHeartbeats 1000000
namespace Ro
open PySem
variable {S S' : Store} {env : Env}
def rowD (p : Sp) : D := .tup p.ds
/-- the store behind a spending that was made -/
def spS (p : Sp) (S : Store) : Store := (S ++ [Cell.ins "Spending" []]).set S.length (.ins "Spending" [("kind", .str p.kind), ("amount", .int p.amount), ("day", .int p.day), ("paper", .bl p.paper), ("heads", .int p.heads), ("money", .int p.money)])
theorem sp_make {p : Sp} (h : p.ok) : m_Spending_init (.ref S.length :: p.ds) (S ++ [Cell.ins "Spending" []]) = .ok .non (spS p S) ∧ (spS p S)[S.length]? = some (.ins "Spending" [("kind", .str p.kind), ("amount", .int p.amount), ("day", .int p.day), ("paper", .bl p.paper), ("heads", .int p.heads), ("money", .int p.money)]) ∧ Kp S [] ((spS p S).set S.length .dead) := by
  have hS : (S ++ [Cell.ins "Spending" []])[S.length]? = some (.ins "Spending" []) := by simp
  refine ⟨init_sp h hS, List.getElem?_set_self (by simp), ?_, fun i hi _ => ?_⟩
  · unfold spS; simp
  · unfold spS
    rw [List.getElem?_set_ne (by omega), List.getElem?_set_ne (by omega), List.getElem?_append_left hi]
theorem spent_ok {p : Sp} (h : p.ok) : W (m__law_spent [rowD p] S) fun d S' => d = p.obj ∧ Kp S [] S' := by
  have e := sp_make h (S := S)
  have i0 : ∀ S, idxB (rowD p) (.int 0) S = some (.str p.kind) := fun S => rfl
  have i1 : ∀ S, idxB (rowD p) (.int 1) S = some (.int p.amount) := fun S => rfl
  have i2 : ∀ S, idxB (rowD p) (.int 2) S = some (.int p.day) := fun S => rfl
  have i3 : ∀ S, idxB (rowD p) (.int 3) S = some (.bl p.paper) := fun S => rfl
  have i4 : ∀ S, idxB (rowD p) (.int 4) S = some (.int p.heads) := fun S => rfl
  have i5 : ∀ S, idxB (rowD p) (.int 5) S = some (.int p.money) := fun S => rfl
  apply_rules only [b__law_spent]
  apply_rules [i0, i1, i2, i3, i4, i5]
  refine WX.eq e.1 ⟨rfl, _, _, _, rfl, e.2.1, rfl, ?_⟩
  apply_rules
  exact e.2.2
def Jn.tell (J : Jn) (rows : List Sp) : Jn := rows.foldl Jn.spend J
def Jn.tellS (J : Jn) (sums : List Int) : Jn := sums.foldl Jn.had J
theorem tell_len {J : Jn} {rows : List Sp} : (J.tell rows).ls.length = J.ls.length + rows.length ∧ (J.tell rows).past.length = J.past.length + rows.length ∧ (J.tell rows).ts = J.ts ∧ (J.tell rows).b = J.b ∧ (J.tell rows).e = J.e ∧ (J.tell rows).ss.length = J.ss.length := by
  induction rows generalizing J with
  | nil => exact ⟨rfl, rfl, rfl, rfl, rfl, rfl⟩
  | cons p rows ih =>
    obtain ⟨h1, h2, h3, h4, h5, h6⟩ := ih (J := J.spend p)
    show ((J.spend p).tell rows).ls.length = _ ∧ ((J.spend p).tell rows).past.length = _ ∧ ((J.spend p).tell rows).ts = _ ∧ ((J.spend p).tell rows).b = _ ∧ ((J.spend p).tell rows).e = _ ∧ ((J.spend p).tell rows).ss.length = _
    rw [h1, h2, h3, h4, h5, h6]
    unfold Jn.spend Jn.become
    refine ⟨?_, ?_, rfl, rfl, rfl, (isort_perm _).length_eq⟩
    · show (sortS (J.ls ++ [p])).length + rows.length = _
      rw [sortS_len]; simp; omega
    · simp; omega
theorem tellS_len {J : Jn} {sums : List Int} : (J.tellS sums).ss.length = J.ss.length + sums.length ∧ (J.tellS sums).past.length = J.past.length + sums.length ∧ (J.tellS sums).ts = J.ts ∧ (J.tellS sums).b = J.b ∧ (J.tellS sums).e = J.e ∧ (J.tellS sums).ls.length = J.ls.length := by
  induction sums generalizing J with
  | nil => exact ⟨rfl, rfl, rfl, rfl, rfl, rfl⟩
  | cons p sums ih =>
    obtain ⟨h1, h2, h3, h4, h5, h6⟩ := ih (J := J.had p)
    show ((J.had p).tellS sums).ss.length = _ ∧ ((J.had p).tellS sums).past.length = _ ∧ ((J.had p).tellS sums).ts = _ ∧ ((J.had p).tellS sums).b = _ ∧ ((J.had p).tellS sums).e = _ ∧ ((J.had p).tellS sums).ls.length = _
    rw [h1, h2, h3, h4, h5, h6]
    unfold Jn.had Jn.become
    refine ⟨?_, ?_, rfl, rfl, rfl, sortS_len _⟩
    · show (isort (J.ss ++ [p])).length + sums.length = _
      rw [(isort_perm _).length_eq]; simp; omega
    · simp; omega
def jtold (ts : List Int) (b e : Int) (rows : List Sp) (sums : List Int) : Jn := ((jn0 ts b e).tell rows).tellS sums
/-- rows of a journey of so many days -/
def RowsOk (m : Nat) (rows : List Sp) : Prop := ∀ p ∈ rows, p.ok ∧ p.day < m
def SumsOk (sums : List Int) : Prop := ∀ i ∈ sums, 1 ≤ i ∧ i ≤ 1000000000
theorem tell_take {J : Jn} {rows : List Sp} {i : Nat} {p : Sp} (h : rows[i]? = some p) : J.tell (rows.take (i + 1)) = (J.tell (rows.take i)).spend p := by
  obtain ⟨hl, rfl⟩ := List.getElem?_eq_some_iff.mp h
  unfold Jn.tell
  rw [List.take_succ_eq_append_getElem hl, List.foldl_append]
  rfl
theorem tellS_take {J : Jn} {sums : List Int} {i : Nat} {p : Int} (h : sums[i]? = some p) : J.tellS (sums.take (i + 1)) = (J.tellS (sums.take i)).had p := by
  obtain ⟨hl, rfl⟩ := List.getElem?_eq_some_iff.mp h
  unfold Jn.tellS
  rw [List.take_succ_eq_append_getElem hl, List.foldl_append]
  rfl
theorem travel_ok {ts : List Int} {b e : Int} (ht : TOk ts b e) {rows : List Sp} {sums : List Int} (hr : RowsOk ts.length rows) (hs : SumsOk sums) (l1 : rows.length ≤ 40) (l2 : sums.length ≤ 10) :
    W (m__law_travel [.tup (ts.map .int), .tup [.int b, .int e], .lst (rows.map rowD), .lst (sums.map .int)] S) fun d S' => ∃ n q, d = .ref n ∧ S.length ≤ n ∧ S.length ≤ q ∧ JAt S' n q (jtold ts b e rows sums) ∧ Kp S [] S' := by
  apply_rules only [x__law_travel]
  apply_rules
  have hS : (S ++ [Cell.ins "Journey" []])[S.length]? = some (.ins "Journey" []) := by simp
  refine WX.use (init_ok ht hS) fun d S1 ⟨e1, A, K⟩ => ⟨e1, ?_⟩
  have K0 : Kp S [] S1 := ⟨Nat.le_trans (by simp) K.len, fun i hi _ => by rw [K.at_ i (by simp; omega) (by simp; omega), List.getElem?_append_left hi]⟩
  apply_rules
  refine Ws_loopI (I := fun i env S' => ∃ x5 x6, env = [some (.tup (ts.map .int)), some (.tup [.int b, .int e]), some (.lst (rows.map rowD)), some (.lst (sums.map .int)), some (.ref S.length), x5, x6] ∧ JAt S' S.length (S ++ [Cell.ins "Journey" []]).length ((jn0 ts b e).tell (rows.take i)) ∧ Kp S [] S') ⟨none, none, rfl, A, K0⟩ (fun i x hx env S2 hI => ?_) (fun env S2 hI => ?_)
  · obtain ⟨x5, x6, rfl, A2, K2⟩ := hI
    rw [List.getElem?_map] at hx
    cases hp : rows[i]? with
    | none => rw [hp] at hx; cases hx
    | some p =>
      rw [hp] at hx
      cases hx
      obtain ⟨pk, pd⟩ := hr p (List.mem_of_getElem? hp)
      have hi : i < rows.length := (List.getElem?_eq_some_iff.mp hp).1
      refine ⟨_, rfl, ?_⟩
      have iS := j_inst A2 (m := "spend") rfl
      apply_rules
      refine WX.use (spent_ok pk) fun d S3 ⟨e3, K3⟩ => ?_
      subst e3
      have A3 := A2.kp K3 (by simp) (by simp)
      obtain ⟨t1, t2, t3, t4, t5, t6⟩ := tell_len (J := jn0 ts b e) (rows := rows.take i)
      have lt : (rows.take i).length = i := by rw [List.length_take]; omega
      apply_rules
      refine WX.use (spend_ok A3 pk.d0 (by rw [t3]; exact pd) (by rw [t1, lt]; show 0 + i < 40; omega) (by rw [t2, lt]; show 0 + i < 1000; omega)) fun d S4 ⟨e4, A4, K4⟩ => ?_
      apply_rules
      refine Lp.nx ?_
      refine ⟨_, _, rfl, by rw [tell_take hp]; exact A4, ?_⟩
      have := (K2.trans K3)
      refine ⟨Nat.le_trans this.len K4.len, fun k hk _ => ?_⟩
      rw [K4.at_ k (Nat.lt_of_lt_of_le hk this.len) (by simp; omega)]
      exact this.at_ k hk (by simp)
  · obtain ⟨x5, x6, rfl, A2, K2⟩ := hI
    rw [List.length_map, List.take_length] at A2
    apply_rules
    obtain ⟨u1, u2, u3, u4, u5, u6⟩ := tell_len (J := jn0 ts b e) (rows := rows)
    refine Ws_loopI (I := fun i env S' => ∃ x5 x6, env = [some (.tup (ts.map .int)), some (.tup [.int b, .int e]), some (.lst (rows.map rowD)), some (.lst (sums.map .int)), some (.ref S.length), x5, x6] ∧ JAt S' S.length (S ++ [Cell.ins "Journey" []]).length (((jn0 ts b e).tell rows).tellS (sums.take i)) ∧ Kp S [] S') ⟨_, _, rfl, A2, K2⟩ (fun i x hx env S2 hI => ?_) (fun env S2 hI => ?_)
    · obtain ⟨x5, x6, rfl, A2, K2⟩ := hI
      rw [List.getElem?_map] at hx
      cases hp : sums[i]? with
      | none => rw [hp] at hx; cases hx
      | some p =>
        rw [hp] at hx
        cases hx
        obtain ⟨p0, p1⟩ := hs p (List.mem_of_getElem? hp)
        have hi : i < sums.length := (List.getElem?_eq_some_iff.mp hp).1
        refine ⟨_, rfl, ?_⟩
        have iS := j_inst A2 (m := "had") rfl
        obtain ⟨t1, t2, t3, t4, t5, t6⟩ := tellS_len (J := (jn0 ts b e).tell rows) (sums := sums.take i)
        have lt : (sums.take i).length = i := by rw [List.length_take]; omega
        apply_rules
        refine WX.use (had_ok A2 p0 p1 (by rw [t1, u6, lt]; show 0 + i < 10; omega) (by rw [t6, u1]; show 0 + rows.length ≤ 40; omega) (by rw [t2, u2, lt]; show 0 + rows.length + i < 1000; omega)) fun d S4 ⟨e4, A4, K4⟩ => ?_
        apply_rules
        refine Lp.nx ?_
        refine ⟨_, _, rfl, by rw [tellS_take hp]; exact A4, Nat.le_trans K2.len K4.len, fun k hk _ => ?_⟩
        rw [K4.at_ k (Nat.lt_of_lt_of_le hk K2.len) (by simp; omega)]
        exact K2.at_ k hk (by simp)
    · obtain ⟨x5, x6, rfl, A2, K2⟩ := hI
      rw [List.length_map, List.take_length] at A2
      apply_rules
      exact ⟨_, _, rfl, Nat.le_refl _, by simp, A2, K2⟩
end Ro
end
section
set_option Elab.async false
set_option linter.all false
set_option maxRecDepth 100000
set_option maxHeartbeats 1000000
namespace Ro
open PySem
variable {S S' : Store} {env : Env}
theorem see_l {n : Nat} {l : List D} (h : S[n]? = some (.lst l)) : seeD (.ref n) S = .lst l := by unfold seeD; dsimp only; rw [h]
theorem erase_perm {α : Type} {l : List α} {i : Nat} (h : i < l.length) : (l[i] :: l.eraseIdx i).Perm l := by
  have e : l = l.take i ++ l[i] :: l.drop (i + 1) := by rw [← List.drop_eq_getElem_cons h, List.take_append_drop]
  rw [List.eraseIdx_eq_take_drop_succ]
  exact List.perm_middle.symm.trans (List.Perm.of_eq e.symm)
theorem mixed_ok {b : Nat} (hB : Bx S b) {xs : List D} (hx : ∀ x ∈ xs, plN 7 x = true) (hl : xs.length ≤ 1000) :
    W (m__law_mixed [.ref b, .lst xs] S) fun d S' => ∃ ys, d = .lst ys ∧ ys.Perm xs ∧ Kp S [b] S' ∧ Bx S' b := by
  have lb := hB.lt
  apply_rules only [x__law_mixed]
  apply_rules
  refine Ws_while (I := fun env S' => env = [some (.ref b), some (.lst xs), some (.ref S.length), some (.ref (S ++ [Cell.lst xs]).length)] ∧ ∃ l f, S'[S.length]? = some (.lst l) ∧ S'[(S ++ [Cell.lst xs]).length]? = some (.lst f) ∧ (f ++ l).Perm xs ∧ Kp S [b] S' ∧ Bx S' b)
    (μ := fun _ S' => match S'[S.length]? with | some (.lst l) => l.length | _ => 0) (fun env S1 hI => ?_) ⟨rfl, xs, [], ?_, ?_, List.Perm.refl _, ?_, ?_⟩ ?_
  · obtain ⟨rfl, l, f, h1, h2, hp, K1, B1⟩ := hI
    have hle : f.length + l.length = xs.length := by rw [← List.length_append]; exact hp.length_eq
    have s1 := see_l h1
    have s2 : seeD (.lst []) S1 = .lst [] := rfl
    have hn : neD (seeD (.ref S.length) S1) (seeD (.lst []) S1) = some (.bl (!l.isEmpty)) := by
      rw [s1, s2]
      exact ne_nil (List.all_eq_true.mpr fun x h => hx x (hp.mem_iff.mp (by simp [h])))
    have tl := ty_at h1
    have tf := ty_at h2
    apply_rules [hn]
    refine Br.both (fun hc => ?_) (fun hc => ?_)
    · have hl0 : 0 < l.length := by
        cases l with
        | nil => simp at hc
        | cons _ _ => simp
      have hlen : bLenA ([D.ref S.length].map fun x => seeD x S1) = some (.int l.length) := by
        show bLenA [seeD (.ref S.length) S1] = _
        rw [s1]; rfl
      apply_rules [hlen]
      refine WX.useD B1 ⟨by omega, by omega⟩ fun i S2 i0 i1 K2 B2 => ?_
      have ne : S.length ∉ [b] := by simp; omega
      have ne2 : (S ++ [Cell.lst xs]).length ∉ [b] := by simp; omega
      have g1 := K2.get h1 ne
      have g2 := K2.get h2 ne2
      obtain ⟨x, hxi⟩ : ∃ x, l[i.toNat]? = some x := ⟨_, List.getElem?_eq_getElem (by omega)⟩
      have hpop : popAtM (.ref S.length) (.int i) S2 = .ok x (S2.set S.length (.lst (l.eraseIdx i.toNat))) := by
        unfold popAtM
        dsimp only
        rw [g1]
        dsimp only
        rw [if_pos ⟨i0, i1, by show l.length ≤ 16777216; omega⟩, hxi]
      have g3 : (S2.set S.length (.lst (l.eraseIdx i.toNat)))[(S ++ [Cell.lst xs]).length]? = some (.lst f) := by
        rw [List.getElem?_set_ne (by simp)]; exact g2
      have happ := app_ref g3 (x := x) (by omega)
      apply_rules [hpop, happ]
      refine Wp.nx ⟨⟨rfl, l.eraseIdx i.toNat, f ++ [x], ?_, ?_, ?_, ?_, ?_⟩, ?_⟩
      · rw [List.getElem?_set_ne (by simp), List.getElem?_set_self (List.getElem?_eq_some_iff.mp g1).1]
      · rw [List.getElem?_set_self (by rw [List.length_set]; exact (List.getElem?_eq_some_iff.mp g2).1)]
      · refine List.Perm.trans ?_ hp
        rw [List.append_assoc]
        refine List.Perm.append_left f ?_
        obtain ⟨hlt, rfl⟩ := List.getElem?_eq_some_iff.mp hxi
        exact erase_perm hlt
      · refine ⟨?_, fun k hk hb => ?_⟩
        · have := K1.len; have := K2.len; simp; omega
        · rw [List.getElem?_set_ne (by simp; omega), List.getElem?_set_ne (by omega)]
          exact (K1.trans K2).at_ k hk hb
      · refine B2.kp (l := [S.length, (S ++ [Cell.lst xs]).length]) ((Kp.set (by simp)).trans (Kp.set (by simp))) (by simp; omega)
      · rw [List.getElem?_set_ne (by simp), List.getElem?_set_self (List.getElem?_eq_some_iff.mp g1).1]
        dsimp only
        have hlt : i.toNat < l.length := by omega
        rw [List.length_eraseIdx_of_lt hlt, h1]
        dsimp only
        omega
    · have hl0 : l = [] := by
        cases l with
        | nil => rfl
        | cons _ _ => simp at hc
      subst hl0
      rw [List.append_nil] at hp
      apply_rules
      refine ⟨⟨by rw [List.length_set]; exact K1.len, fun k hk hb => ?_⟩, ?_⟩
      · rw [List.getElem?_set_ne (by simp; omega)]
        exact K1.at_ k hk hb
      · exact B1.kp (l := [(S ++ [Cell.lst xs]).length]) (Kp.set (by simp)) (by simp; omega)
  · simp
  · simp
  · exact (Kp.app S _ _).trans (Kp.app _ _ _)
  · exact (hB.app _).app _
  · rw [show (S ++ [Cell.lst xs] ++ [Cell.lst []])[S.length]? = some (.lst xs) by simp]
    unfold FUEL
    dsimp only
    omega
end Ro
end
section
set_option Elab.async false
set_option linter.all false
set_option maxRecDepth 100000
set_option maxHeartbeats 1000000
namespace Ro
open PySem
variable {S S' : Store} {env : Env}
theorem perm_map_inv {α β : Type} {f : α → β} : ∀ {ys zs : List β}, ys.Perm zs → ∀ {l : List α}, zs = l.map f → ∃ m : List α, m.Perm l ∧ ys = m.map f := by
  intro ys zs h
  induction h with
  | nil =>
    intro l e
    cases l with
    | nil => exact ⟨[], List.Perm.refl _, rfl⟩
    | cons _ _ => cases e
  | cons x h ih =>
    intro l e
    cases l with
    | nil => cases e
    | cons a l =>
      rw [List.map_cons] at e
      obtain ⟨e1, e2⟩ := List.cons.inj e
      obtain ⟨m, h1, h2⟩ := ih e2
      exact ⟨a :: m, h1.cons a, by rw [List.map_cons, ← h2, ← e1]⟩
  | swap x y t =>
    intro l e
    match l, e with
    | a :: c :: l, e =>
      rw [List.map_cons, List.map_cons] at e
      obtain ⟨e1, e2⟩ := List.cons.inj e
      obtain ⟨e2, e3⟩ := List.cons.inj e2
      exact ⟨c :: a :: l, List.Perm.swap _ _ _, by rw [List.map_cons, List.map_cons, ← e1, ← e2, ← e3]⟩
  | trans h1 h2 ih1 ih2 =>
    intro l e
    obtain ⟨m, k1, k2⟩ := ih2 e
    obtain ⟨m', k3, k4⟩ := ih1 k2
    exact ⟨m', k3.trans k1, k4⟩
abbrev Th := Sp ⊕ Int
def thD : Th → D
  | .inl p => rowD p
  | .inr i => .int i
def rowsOf (l : List Th) : List Sp := l.filterMap Sum.getLeft?
def sumsOf (l : List Th) : List Int := l.filterMap Sum.getRight?
theorem rows_both (r : List Sp) (s : List Int) : rowsOf (r.map Sum.inl ++ s.map Sum.inr) = r := by
  unfold rowsOf
  rw [List.filterMap_append, List.filterMap_map, List.filterMap_map]
  have e1 : ∀ r : List Sp, List.filterMap (Sum.getLeft? ∘ (Sum.inl : Sp → Th)) r = r := fun r => by induction r with | nil => rfl | cons x r ih => simp [ih]
  have e2 : ∀ s : List Int, List.filterMap (Sum.getLeft? ∘ (Sum.inr : Int → Th)) s = [] := fun s => by induction s with | nil => rfl | cons x r ih => simp [ih]
  rw [e1, e2, List.append_nil]
theorem sums_both (r : List Sp) (s : List Int) : sumsOf (r.map Sum.inl ++ s.map Sum.inr) = s := by
  unfold sumsOf
  rw [List.filterMap_append, List.filterMap_map, List.filterMap_map]
  have e1 : ∀ r : List Sp, List.filterMap (Sum.getRight? ∘ (Sum.inl : Sp → Th)) r = [] := fun r => by induction r with | nil => rfl | cons x r ih => simp [ih]
  have e2 : ∀ s : List Int, List.filterMap (Sum.getRight? ∘ (Sum.inr : Int → Th)) s = s := fun s => by induction s with | nil => rfl | cons x r ih => simp [ih]
  rw [e1, e2, List.nil_append]
/-- what is told of a journey that was told these -/
structure Told (J : Jn) (ts : List Int) (b e : Int) (rows : List Sp) (sums : List Int) (k : Nat) : Prop where
  ts : J.ts = ts
  b : J.b = b
  e : J.e = e
  ls : J.ls = sortS rows
  ss : J.ss = isort sums
  past : J.past.length ≤ k
theorem isort_congr {l m : List Int} (h : l.Perm m) : isort l = isort m := sorted_one (((isort_perm l).trans h).trans (isort_perm m).symm) (isort_pw l) (isort_pw m)
theorem Told.spend {J : Jn} {ts : List Int} {b e : Int} {rows : List Sp} {sums : List Int} {k : Nat} (h : Told J ts b e rows sums k) (p : Sp) : Told (J.spend p) ts b e (rows ++ [p]) sums (k + 1) where
  ts := h.ts
  b := h.b
  e := h.e
  ls := by
    show sortS (J.ls ++ [p]) = _
    rw [h.ls]
    exact sortS_eq ((sortS_perm rows).append_right [p])
  ss := by
    show isort J.ss = _
    rw [h.ss]
    exact isort_congr (isort_perm sums)
  past := by
    show (J.past ++ [(J.ls, J.ss)]).length ≤ _
    have := h.past
    simp; omega
theorem Told.had {J : Jn} {ts : List Int} {b e : Int} {rows : List Sp} {sums : List Int} {k : Nat} (h : Told J ts b e rows sums k) (i : Int) : Told (J.had i) ts b e rows (sums ++ [i]) (k + 1) where
  ts := h.ts
  b := h.b
  e := h.e
  ls := by
    show sortS J.ls = _
    rw [h.ls]
    exact sortS_eq (sortS_perm rows)
  ss := by
    show isort (J.ss ++ [i]) = _
    rw [h.ss]
    exact isort_congr ((isort_perm sums).append_right [i])
  past := by
    show (J.past ++ [(J.ls, J.ss)]).length ≤ _
    have := h.past
    simp; omega
theorem Told.strike {J : Jn} {ts : List Int} {b e : Int} {rows : List Sp} {sums : List Int} {k : Nat} (h : Told J ts b e rows sums k) (p : Sp) : Told (J.strike p) ts b e (rows.erase p) sums (k + 1) where
  ts := h.ts
  b := h.b
  e := h.e
  ls := by
    show sortS (J.ls.erase p) = _
    rw [h.ls]
    exact sortS_eq ((sortS_perm rows).erase p)
  ss := by
    show isort J.ss = _
    rw [h.ss]
    exact isort_congr (isort_perm sums)
  past := by
    show (J.past ++ [(J.ls, J.ss)]).length ≤ _
    have := h.past
    simp; omega
theorem Told.perm {J : Jn} {ts : List Int} {b e : Int} {rows rows' : List Sp} {sums sums' : List Int} {k k' : Nat} (h : Told J ts b e rows sums k) (h1 : rows.Perm rows') (h2 : sums.Perm sums') (h3 : k ≤ k') : Told J ts b e rows' sums' k' :=
  ⟨h.ts, h.b, h.e, by rw [h.ls, sortS_eq h1], by rw [h.ss, isort_congr h2], Nat.le_trans h.past h3⟩
theorem Told.jn0 {ts : List Int} {b e : Int} : Told (Ro.jn0 ts b e) ts b e [] [] 0 := ⟨rfl, rfl, rfl, by simp [Ro.jn0, sortS], by simp [Ro.jn0, isort], Nat.le_refl _⟩
theorem Told.lsl {J : Jn} {ts : List Int} {b e : Int} {rows : List Sp} {sums : List Int} {k : Nat} (h : Told J ts b e rows sums k) : J.ls.length = rows.length ∧ J.ss.length = sums.length := ⟨by rw [h.ls, sortS_len], by rw [h.ss, (isort_perm _).length_eq]⟩
/-- a spending that comes and goes -/
def sideP (m : Nat) : Sp := ⟨"sundry", 999, (m : Int) - 1, false, 6, 0⟩
theorem sideP_ok {m : Nat} (h0 : 1 ≤ m) (h1 : m ≤ 30) : (sideP m).ok := by
  constructor
  · show ("sundry" : Str) ∈ kinds
    decide
  · show (1 : Int) ≤ 999
    decide
  · show (999 : Int) ≤ 1000000
    decide
  · show (0 : Int) ≤ (m : Int) - 1
    omega
  · show (m : Int) - 1 ≤ 59
    omega
  · show (1 : Int) ≤ 6
    decide
  · show (6 : Int) ≤ 6
    decide
  · show (0 : Int) ≤ 0
    decide
  · show (0 : Int) ≤ 3
    decide
/-- the thing itself is told -/
theorem tell_step {b n q : Nat} {J : Jn} {ts : List Int} {bg e : Int} {rows : List Sp} {sums : List Int} {k : Nat} {z : Th} {x1 x2 x3 x4 : Option D} (A : JAt S n q J) (T : Told J ts bg e rows sums k) (hz : (∀ p, z = .inl p → p.ok ∧ p.day < ts.length) ∧ ∀ i, z = .inr i → 1 ≤ i ∧ i ≤ 1000000000)
    (h1 : rows.length < 40) (h2 : sums.length < 10) (h3 : k < 1000) {E : String → List D → Store → Prop} {P : Ctl → Store → Prop}
    (hP : ∀ J' S', JAt S' n q J' → Told J' ts bg e (rows ++ rowsOf [z]) (sums ++ sumsOf [z]) (k + 1) → Kp S [n, q] S' → P (.nx [some (.ref b), x1, x2, x3, x4, some (.ref n), some (thD z)]) S') :
    WX E (t__law_among_9 [some (.ref b), x1, x2, x3, x4, some (.ref n), some (thD z)] S) P := by
  have iS := j_inst A (m := "spend") rfl
  have iH := j_inst A (m := "had") rfl
  obtain ⟨l1, l2⟩ := T.lsl
  have hp := T.past
  unfold t__law_among_9
  cases z with
  | inl p =>
    obtain ⟨pk, pd⟩ := hz.1 p rfl
    have t1 : tyD (rowD p) S = some (.b "tuple") := rfl
    have t2 : subTy (.b "tuple") (.b "tuple") = true := by decide
    rw [show thD (.inl p) = rowD p from rfl] at hP ⊢
    apply_rules [t1, t2]
    refine WX.use (spent_ok pk) fun d S3 ⟨e3, K3⟩ => ?_
    subst e3
    have A3 := A.kp K3 (by simp) (by simp)
    apply_rules
    refine WX.use (spend_ok A3 pk.d0 (by rw [T.ts]; exact pd) (by omega) (by omega)) fun d S4 ⟨e4, A4, K4⟩ => ?_
    apply_rules
    refine hP _ _ A4 ?_ ((K3.wide (by simp)).trans K4)
    show Told _ ts bg e (rows ++ [p]) (sums ++ []) (k + 1)
    rw [List.append_nil]
    exact T.spend p
  | inr i =>
    obtain ⟨i0, i1⟩ := hz.2 i rfl
    have t1 : tyD (.int i) S = some (.b "int") := rfl
    have t2 : subTy (.b "int") (.b "tuple") = false := by decide
    rw [show thD (.inr i) = .int i from rfl] at hP ⊢
    apply_rules [t1, t2]
    refine WX.use (had_ok A i0 i1 (by omega) (by omega) (by omega)) fun d S4 ⟨e4, A4, K4⟩ => ?_
    apply_rules
    refine hP _ _ A4 ?_ K4
    show Told _ ts bg e (rows ++ []) (sums ++ [i]) (k + 1)
    rw [List.append_nil]
    exact T.had i
theorem among_ok {b : Nat} (hB : Bx S b) {ts : List Int} {bg e : Int} (ht : TOk ts bg e) {rows : List Sp} {sums : List Int} (hr : RowsOk ts.length rows) (hs : SumsOk sums) (l1 : rows.length ≤ 20) (l2 : sums.length ≤ 8) :
    W (m__law_among [.ref b, .tup (ts.map .int), .tup [.int bg, .int e], .lst (rows.map rowD), .lst (sums.map .int)] S) fun d S' => ∃ n q J, d = .ref n ∧ S.length ≤ n ∧ S.length ≤ q ∧ JAt S' n q J ∧ Told J ts bg e rows sums 200 ∧ Kp S [b] S' ∧ Bx S' b := by
  have lb := hB.lt
  have ha : addD (.lst (rows.map rowD)) (.lst (sums.map .int)) = some (.lst ((rows.map Sum.inl ++ sums.map Sum.inr).map thD)) := by
    unfold addD
    dsimp only
    rw [if_pos (by simp; omega), List.map_append, List.map_map, List.map_map]
    rfl
  apply_rules only [x__law_among]
  apply_rules
  have hS : (S ++ [Cell.ins "Journey" []])[S.length]? = some (.ins "Journey" []) := by simp
  refine WX.use (init_ok ht hS) fun d S1 ⟨e1, A, K⟩ => ⟨e1, ?_⟩
  have K0 : Kp S [] S1 := ⟨Nat.le_trans (by simp) K.len, fun i hi _ => by rw [K.at_ i (by simp; omega) (by simp; omega), List.getElem?_append_left hi]⟩
  have B1 := hB.kp K0 (by simp)
  apply_rules [ha]
  have pln : ∀ x ∈ (rows.map Sum.inl ++ sums.map Sum.inr).map thD, plN 7 x = true := fun x hx => by
    obtain ⟨z, hz, rfl⟩ := List.mem_map.mp hx
    cases z with
    | inl p =>
      show plN 7 (.tup p.ds) = true
      have : p.ds.all (plN 6) = true := List.all_eq_true.mpr fun x hx => pl_at (sp_at p x hx)
      simpa using this
    | inr i => rfl
  refine WX.use (mixed_ok B1 pln (by simp; omega)) fun d S2 ⟨ys, e2, hp, K2, B2⟩ => ?_
  subst e2
  obtain ⟨zs, hzs, rfl⟩ := perm_map_inv hp rfl
  refine ⟨_, .inl rfl, ?_⟩
  have lz : zs.length = rows.length + sums.length := by rw [hzs.length_eq]; simp
  have A2 := A.kp K2 (by simp; omega) (by simp; omega)
  have KK : Kp S [b] S2 := (K0.wide (by simp)).trans K2
  have cnt : ∀ i, (rowsOf (zs.take i)).length ≤ rows.length ∧ (sumsOf (zs.take i)).length ≤ sums.length := fun i => by
    have a1 : (rowsOf (zs.take i)).Sublist (rowsOf zs) := (List.take_sublist i zs).filterMap _
    have a2 : (sumsOf (zs.take i)).Sublist (sumsOf zs) := (List.take_sublist i zs).filterMap _
    have c1 : (rowsOf zs).Perm rows := by rw [← rows_both rows sums]; exact hzs.filterMap _
    have c2 : (sumsOf zs).Perm sums := by rw [← sums_both rows sums]; exact hzs.filterMap _
    exact ⟨by rw [← c1.length_eq]; exact a1.length_le, by rw [← c2.length_eq]; exact a2.length_le⟩
  refine Ws_loopI (I := fun i env S' => ∃ x6 J, env = [some (.ref b), some (.tup (ts.map .int)), some (.tup [.int bg, .int e]), some (.lst (rows.map rowD)), some (.lst (sums.map .int)), some (.ref S.length), x6] ∧ JAt S' S.length (S ++ [Cell.ins "Journey" []]).length J ∧
    Told J ts bg e (rowsOf (zs.take i)) (sumsOf (zs.take i)) (3 * i) ∧ Kp S [b] S' ∧ Bx S' b) ⟨none, _, rfl, A2, Told.jn0, KK, B2⟩ (fun i x hx env S3 hI => ?_) (fun env S3 hI => ?_)
  · obtain ⟨x6, J, rfl, A3, T3, K3, B3⟩ := hI
    rw [List.getElem?_map] at hx
    cases hz : zs[i]? with
    | none => rw [hz] at hx; cases hx
    | some z =>
      rw [hz] at hx
      cases hx
      have hi : i < zs.length := (List.getElem?_eq_some_iff.mp hz).1
      have hzm : z ∈ rows.map Sum.inl ++ sums.map Sum.inr := hzs.mem_iff.mp (List.mem_of_getElem? hz)
      have hzz : (∀ p, z = .inl p → p.ok ∧ p.day < ts.length) ∧ ∀ i, z = .inr i → 1 ≤ i ∧ i ≤ 1000000000 := by
        constructor
        · rintro p rfl
          exact hr p (by simpa using hzm)
        · rintro j rfl
          exact hs j (by simpa using hzm)
      obtain ⟨c1, c2⟩ := cnt i
      have tk : zs.take (i + 1) = zs.take i ++ [z] := by
        obtain ⟨hlt, rfl⟩ := List.getElem?_eq_some_iff.mp hz
        exact List.take_succ_eq_append_getElem hlt
      refine ⟨_, rfl, ?_⟩
      generalize hqq : (S ++ [Cell.ins "Journey" []]).length = qq at A3
      have hq1 : S.length ≤ qq := by rw [← hqq]; simp
      have rest : ∀ S4 J4 {E : String → List D → Store → Prop} {P : Ctl → Store → Prop}, JAt S4 S.length qq J4 → Told J4 ts bg e (rowsOf (zs.take i)) (sumsOf (zs.take i)) (3 * i + 2) → Kp S [b] S4 → Bx S4 b →
          (∀ J5 S5, JAt S5 S.length qq J5 → Told J5 ts bg e (rowsOf (zs.take (i + 1))) (sumsOf (zs.take (i + 1))) (3 * (i + 1)) → Kp S [b] S5 → Bx S5 b → P (.nx [some (.ref b), some (.tup (ts.map .int)), some (.tup [.int bg, .int e]), some (.lst (rows.map rowD)), some (.lst (sums.map .int)), some (.ref S.length), some (thD z)]) S5) →
          WX E (t__law_among_9 [some (.ref b), some (.tup (ts.map .int)), some (.tup [.int bg, .int e]), some (.lst (rows.map rowD)), some (.lst (sums.map .int)), some (.ref S.length), some (thD z)] S4) P := fun S4 J4 E P a t k bx hP => by
        refine tell_step a t hzz (by omega) (by omega) (by omega) fun J5 S5 a5 t5 k5 => hP J5 S5 a5 ?_ ?_ ?_
        · rw [tk]
          show Told J5 ts bg e (rowsOf (zs.take i ++ [z])) (sumsOf (zs.take i ++ [z])) _
          unfold rowsOf sumsOf
          rw [List.filterMap_append, List.filterMap_append]
          exact t5
        · refine ⟨Nat.le_trans k.len k5.len, fun m hm hb => ?_⟩
          rw [k5.at_ m (Nat.lt_of_lt_of_le hm k.len) (by simp; omega)]
          exact k.at_ m hm hb
        · exact bx.kp k5 (by simp; omega)
      have nb : S.length ∉ [b] := by simp; omega
      have qb : qq ∉ [b] := by simp; omega
      have fin : ∀ J5 S5, JAt S5 S.length qq J5 → Told J5 ts bg e (rowsOf (zs.take (i + 1))) (sumsOf (zs.take (i + 1))) (3 * (i + 1)) → Kp S [b] S5 → Bx S5 b →
          ∃ x6 J, [some (.ref b), some (.tup (ts.map .int)), some (.tup [.int bg, .int e]), some (.lst (rows.map rowD)), some (.lst (sums.map .int)), some (.ref S.length), some (thD z)] = [some (.ref b), some (.tup (ts.map .int)), some (.tup [.int bg, .int e]), some (.lst (rows.map rowD)), some (.lst (sums.map .int)), some (.ref S.length), x6] ∧ JAt S5 S.length qq J ∧
            Told J ts bg e (rowsOf (zs.take (i + 1))) (sumsOf (zs.take (i + 1))) (3 * (i + 1)) ∧ Kp S [b] S5 ∧ Bx S5 b := fun J5 S5 a t k bx => ⟨_, J5, rfl, a, t, k, bx⟩
      obtain ⟨j1, j2⟩ := T3.lsl
      have j3 := T3.past
      apply_rules
      refine WX.useD B3 (by decide) fun v S4 v0 v1 F4 B4 => ?_
      have A4 := A3.kp F4 nb qb
      have K4 := K3.trans F4
      apply_rules
      refine Br.both (fun hc => ?_) (fun hc => ?_)
      · have iS := j_inst A4 (m := "spend") rfl
        apply_rules
        have pk := sideP_ok (m := (ts.map D.int).length) (by rw [List.length_map]; exact ht.n0) (by rw [List.length_map]; exact ht.n1)
        have mk := sp_make pk (S := S4)
        refine WX.eq mk.1 ⟨rfl, _, _, _, rfl, mk.2.1, rfl, ?_⟩
        have A5 := A4.kp mk.2.2 (by simp) (by simp)
        apply_rules
        refine WX.use (spend_ok A5 pk.d0 (by rw [T3.ts]; show (((ts.map D.int).length : Nat) : Int) - 1 < _; rw [List.length_map]; omega) (by omega) (by omega)) fun d S6 ⟨e6, A6, K6⟩ => ?_
        have B6 := (B4.kp mk.2.2 (by simp)).kp K6 (by simp; omega)
        have KK6 : Kp S [b] S6 := by
          have k0 := K4.trans (mk.2.2.wide (by simp))
          refine ⟨Nat.le_trans k0.len K6.len, fun m hm hb => ?_⟩
          rw [K6.at_ m (Nat.lt_of_lt_of_le hm k0.len) (by simp; omega)]
          exact k0.at_ m hm hb
        apply_rules
        refine WX.useD B6 (by decide) fun w S7 w0 w1 F7 B7 => ?_
        have A7 := A6.kp F7 nb qb
        have K7 := KK6.trans F7
        have keepK : ∀ {S8}, Kp S7 [S.length, qq] S8 → Kp S [b] S8 := fun {S8} k => ⟨Nat.le_trans K7.len k.len, fun m hm hb => by
          rw [k.at_ m (Nat.lt_of_lt_of_le hm K7.len) (by simp; omega)]
          exact K7.at_ m hm hb⟩
        apply_rules
        refine Br.both (fun hc2 => ?_) (fun hc2 => ?_)
        · have iU := j_inst A7 (m := "undo") rfl
          apply_rules
          refine WX.use (undo_ok A7 (P := J.past) (l := J.ls) (s := J.ss) rfl) fun d S8 ⟨e8, A8, K8⟩ => ?_
          refine Nx.nx (rest _ _ A8 ⟨T3.ts, T3.b, T3.e, T3.ls, T3.ss, by show J.past.length ≤ _; omega⟩ (keepK K8) (B7.kp K8 (by simp; omega)) fun J5 S5 a t k bx => ?_)
          exact Lp.nx (fin J5 S5 a t k bx)
        · have iK := j_inst A7 (m := "strike") rfl
          apply_rules
          have mk2 := sp_make pk (S := S7)
          refine WX.eq mk2.1 ⟨rfl, _, _, _, rfl, mk2.2.1, rfl, ?_⟩
          have A8 := A7.kp mk2.2.2 (by simp) (by simp)
          apply_rules
          have T7 := (T3.spend (sideP (ts.map D.int).length))
          have hmem : sideP (ts.map D.int).length ∈ (J.spend (sideP (ts.map D.int).length)).ls := by
            rw [T7.ls, sortS_mem]; simp
          obtain ⟨m1, m2⟩ := T7.lsl
          have m3 := T7.past
          refine WX.use (strike_ok A8 hmem (by rw [m1]; simp; omega) (by omega)) fun d S9 ⟨e9, A9, K9⟩ => ?_
          have T9 := T7.strike (sideP (ts.map D.int).length)
          have pe : ((rowsOf (zs.take i) ++ [sideP (ts.map D.int).length]).erase (sideP (ts.map D.int).length)).Perm (rowsOf (zs.take i)) := by
            have := (List.perm_append_singleton (sideP (ts.map D.int).length) (rowsOf (zs.take i))).erase (sideP (ts.map D.int).length)
            rw [List.erase_cons_head] at this
            exact this
          refine Nx.nx (rest _ _ A9 (T9.perm pe (List.Perm.refl _) (by omega)) ?_ ((B7.kp mk2.2.2 (by simp)).kp K9 (by simp; omega)) fun J5 S5 a t k bx => ?_)
          · have k0 := K7.trans (mk2.2.2.wide (by simp))
            refine ⟨Nat.le_trans k0.len K9.len, fun m hm hb => ?_⟩
            rw [K9.at_ m (Nat.lt_of_lt_of_le hm k0.len) (by simp; omega)]
            exact k0.at_ m hm hb
          · exact Lp.nx (fin J5 S5 a t k bx)
      · refine Ws_pass (Nx.nx (rest _ _ A4 (T3.perm (List.Perm.refl _) (List.Perm.refl _) (by omega)) K4 B4 fun J5 S5 a t k bx => ?_))
        exact Lp.nx (fin J5 S5 a t k bx)
  · obtain ⟨x6, J, rfl, A3, T3, K3, B3⟩ := hI
    rw [List.length_map, List.take_length] at T3
    apply_rules
    have c1 : (rowsOf zs).Perm rows := by rw [← rows_both rows sums]; exact hzs.filterMap _
    have c2 : (sumsOf zs).Perm sums := by rw [← sums_both rows sums]; exact hzs.filterMap _
    exact ⟨_, _, J, rfl, Nat.le_refl _, by simp, A3, T3.perm c1 c2 (by omega), K3, B3⟩
end Ro
end
section
set_option Elab.async false
set_option linter.all false
set_option maxRecDepth 100000
set_option maxHeartbeats 1000000
namespace Ro
open PySem
variable {S S' : Store} {env : Env}
theorem Told.same {J K : Jn} {ts : List Int} {b e : Int} {rows : List Sp} {sums : List Int} {k k' : Nat} (h : Told J ts b e rows sums k) (g : Told K ts b e rows sums k') : J.same K = true := by
  unfold Jn.same
  rw [h.ts, g.ts, h.b, g.b, h.e, g.e, h.ls, g.ls, h.ss, g.ss]
  simp
theorem same_ls {J K : Jn} (h : J.ls ≠ K.ls) : J.same K = false := by unfold Jn.same; simp [h]
theorem same_ss {J K : Jn} (h : J.ss ≠ K.ss) : J.same K = false := by unfold Jn.same; simp [h]
theorem ne_len {α : Type} {l m : List α} (h : l.length ≠ m.length) : l ≠ m := fun e => h (by rw [e])
def feeP : Sp := ⟨"fee", 12345, 0, true, 1, 0⟩
theorem feeP_ok : feeP.ok := by
  constructor
  · show ("fee" : Str) ∈ kinds
    decide
  all_goals decide
theorem idx0 {p : Sp} {l : List Sp} {n : Nat} (h : S[n]? = some (.lst ((p :: l).map Sp.obj))) : idxB (.ref n) (.int 0) S = some p.obj := by
  show (match S[n]? with
    | some (.lst l) => atP l 0
    | _ => none) = _
  rw [h]
  show atP ((p :: l).map Sp.obj) 0 = _
  simp [atP, pyIx]
theorem twin_right {b n1 q1 n2 q2 : Nat} {J1 J2 : Jn} {ts : List Int} {bg e : Int} (ht : TOk ts bg e) {rows : List Sp} {sums : List Int} {k1 k2 : Nat} (A : JAt S n1 q1 J1) (B : JAt S n2 q2 J2) (T1 : Told J1 ts bg e rows sums k1) (T2 : Told J2 ts bg e rows sums k2)
    (d1 : n2 ≠ n1) (d2 : n2 ≠ q1) (d3 : q2 ≠ n1) (d4 : q2 ≠ q1) (l1 : rows.length ≤ 20) (l2 : sums.length ≤ 8) (h1 : k1 ≤ 300) (hr : RowsOk ts.length rows) :
    W (m__law_twin_right [.ref b, .ref n1, .ref n2, .lst (rows.map rowD)] S) fun d S' => d = .bl true := by
  obtain ⟨a1, a2⟩ := T1.lsl
  obtain ⟨b1, b2⟩ := T2.lsl
  have pa := T1.past
  have lA := A.ln
  have lAq := A.lq
  have lB := B.ln
  have lBq := B.lq
  have i1 := j_inst A (m := "twin") rfl
  have s1 : subTy (.o "Journey") (.o "Journey") = true := by decide
  apply_rules only [x__law_twin_right]
  apply_rules
  refine WX.use (twin_ok A (by rw [T1.ts, T1.b, T1.e]; exact ht)) fun d S1 ⟨n3, q3, e1, g1, g2, C1, K1⟩ => ?_
  subst e1
  have A1 := A.kp K1 (by simp) (by simp)
  have B1 := B.kp K1 (by simp) (by simp)
  have T3 : Told J1 ts bg e rows sums k1 := T1
  have c1 := eqV_ok C1 A1 not
  rw [T1.same T1] at c1
  have ty := j_ty C1
  have i2 := j_inst C1 (m := "spend") rfl
  apply_rules [c1, ty, s1]
  have mk := sp_make feeP_ok (S := S1)
  refine WX.eq mk.1 ⟨rfl, _, _, _, rfl, mk.2.1, rfl, ?_⟩
  have C2 := C1.kp mk.2.2 (by simp) (by simp)
  have A2 := A1.kp mk.2.2 (by simp) (by simp)
  have B2 := B1.kp mk.2.2 (by simp) (by simp)
  apply_rules
  refine WX.use (spend_ok C2 (p := feeP) (by decide) (by rw [T1.ts]; show (0 : Int) < _; have := ht.n0; omega) (by omega) (by omega)) fun d S3 ⟨e3, C3, K3⟩ => ?_
  have A3 := A2.kp K3 (by simp; omega) (by simp; omega)
  have B3 := B2.kp K3 (by simp; omega) (by simp; omega)
  have lk : (J1.spend feeP).ls.length = rows.length + 1 := by
    show (sortS (J1.ls ++ [feeP])).length = _
    rw [sortS_len, List.length_append, a1]; rfl
  have c2 := eqV_ok C3 A3 id
  rw [same_ls (ne_len (by rw [lk, a1]; omega))] at c2
  have c3 := eqV_ok A3 B3 not
  rw [T1.same T2] at c3
  have c4 := lenV_ok A3 (by omega)
  have c5 := lenV_ok C3 (by omega)
  rw [a1] at c4
  rw [lk] at c5
  have hlen : bLenA [.lst (rows.map rowD)] = some (.int rows.length) := by
    show some (D.int (rows.map rowD).length) = _
    rw [List.length_map]
  have i3 := j_inst C3 (m := "undo") rfl
  have n1' : neD (.int rows.length) (.int rows.length) = some (.bl false) := by rw [v_nei]; simp
  have n2' : neD (.int ((rows.length + 1 : Nat) : Int)) (.int ((rows.length : Int) + 1)) = some (.bl false) := by rw [v_nei]; simp
  apply_rules [c2, c3, c4, c5, hlen, n1', n2']
  refine WX.use (undo_ok C3 (P := J1.past) (l := J1.ls) (s := J1.ss) rfl) fun d S4 ⟨e4, C4, K4⟩ => ?_
  have A4 := A3.kp K4 (by simp; omega) (by simp; omega)
  have B4 := B3.kp K4 (by simp; omega) (by simp; omega)
  have C4 : JAt S4 n3 q3 J1 := C4
  have i4 := j_inst A4 (m := "had") rfl
  apply_rules
  refine WX.use (had_ok A4 (by decide) (by decide) (by omega) (by omega) (by omega)) fun d S5 ⟨e5, A5, K5⟩ => ?_
  have C5 := C4.kp K5 (by simp; omega) (by simp; omega)
  have B5 := B4.kp K5 (by simp; omega) (by simp; omega)
  have f1 := eqV_ok C5 B5 not
  rw [T1.same T2] at f1
  have f2 := eqV_ok A5 B5 id
  rw [same_ss (ne_len (by show (isort (J1.ss ++ [77])).length ≠ _; rw [(isort_perm _).length_eq, List.length_append, a2, b2]; simp))] at f2
  have i5 := j_inst A5 (m := "undo") rfl
  apply_rules [f1, f2]
  refine WX.use (undo_ok A5 (P := J1.past) (l := J1.ls) (s := J1.ss) rfl) fun d S6 ⟨e6, A6, K6⟩ => ?_
  have A6 : JAt S6 n1 q1 J1 := A6
  have C6 := C5.kp K6 (by simp; omega) (by simp; omega)
  have B6 := B5.kp K6 (by simp; omega) (by simp; omega)
  apply_rules [hlen]
  refine Ws_loopI (I := fun i env S' => ∃ x5 J r, env = [some (.ref b), some (.ref n1), some (.ref n2), some (.lst (rows.map rowD)), some (.ref n3), x5] ∧ JAt S' n3 q3 J ∧ JAt S' n1 q1 J1 ∧ JAt S' n2 q2 J2 ∧ Told J ts bg e r sums (k1 + i) ∧ r.length + i = rows.length)
    ⟨none, J1, rows, rfl, C6, A6, B6, T1, rfl⟩ (fun i x hx env S7 hI => ?_) (fun env S7 hI => ?_)
  · obtain ⟨x5, J, r, rfl, C7, A7, B7, T7, hr7⟩ := hI
    have hi : i < rows.length := by
      have := (List.getElem?_eq_some_iff.mp hx).1
      rw [rng_len] at this
      omega
    obtain ⟨m1, m2⟩ := T7.lsl
    have m3 := T7.past
    refine ⟨_, rfl, ?_⟩
    have i6 := j_inst C7 (m := "strike") rfl
    have i7 := j_inst C7 (m := "lines") rfl
    cases hls : J.ls with
    | nil => rw [hls] at m1; simp at m1; omega
    | cons p l =>
      have L7 := lines_ok C7
      rw [hls] at L7
      have C8 := C7.app [.lst ((p :: l).map Sp.obj)]
      have A8 := A7.app [.lst ((p :: l).map Sp.obj)]
      have B8 := B7.app [.lst ((p :: l).map Sp.obj)]
      have x0 := idx0 (S := S7 ++ [.lst ((p :: l).map Sp.obj)]) (n := S7.length) (p := p) (l := l) (by simp)
      apply_rules [L7, x0]
      refine WX.use (strike_ok C8 (p := p) (by rw [hls]; simp) (by omega) (by omega)) fun d S9 ⟨e9, C9, K9⟩ => ?_
      apply_rules
      refine Lp.nx ⟨_, _, r.erase p, rfl, C9, A8.kp K9 (by simp; omega) (by simp; omega), B8.kp K9 (by simp; omega) (by simp; omega), T7.strike p, ?_⟩
      have pm : p ∈ r := by rw [← sortS_mem, ← T7.ls, hls]; simp
      rw [List.length_erase_of_mem pm]
      have : 0 < r.length := List.length_pos_of_mem pm
      omega
  · obtain ⟨x5, J, r, rfl, C7, A7, B7, T7, hr7⟩ := hI
    rw [rng_len] at hr7
    obtain ⟨m1, m2⟩ := T7.lsl
    have z0 : J.ls.length = 0 := by omega
    have g1 := lenV_ok C7 (by omega)
    rw [z0] at g1
    have g2 := eqV_ok A7 B7 id
    rw [T1.same T2] at g2
    have g3 := lenV_ok A7 (by omega)
    rw [a1] at g3
    have q0 : eqD (.int ((0 : Nat) : Int)) (.int 0) = some (.bl true) := by rw [v_eqi]; rfl
    have q1' : eqD (.int rows.length) (.int rows.length) = some (.bl true) := by rw [v_eqi]; simp
    apply_rules [g1, g2, g3, hlen, q0, q1']
    rfl
end Ro
end
section
set_option Elab.async false
set_option linter.all false
set_option maxRecDepth 100000
set_option maxHeartbeats 1000000
namespace Ro
open PySem
variable {S S' : Store} {env : Env}
theorem same_self (J : Jn) : J.same J = true := by unfold Jn.same; simp
def st (ts : List Int) (b e : Int) (rows : List Sp) (sums : List Int) (i : Nat) : Jn := ((jn0 ts b e).tell (rows.take i)).tellS (sums.take (i - rows.length))
section
variable {ts : List Int} {b e : Int} {rows : List Sp} {sums : List Int}
theorem st_0 : st ts b e rows sums 0 = jn0 ts b e := by unfold st; simp [Jn.tell, Jn.tellS]
theorem st_n : st ts b e rows sums (rows.length + sums.length) = jtold ts b e rows sums := by
  unfold st jtold
  rw [List.take_of_length_le (by omega), List.take_of_length_le (by omega)]
theorem st_s {i : Nat} (h : i < rows.length + sums.length) : (∃ p, st ts b e rows sums (i + 1) = (st ts b e rows sums i).spend p) ∨ ∃ p, st ts b e rows sums (i + 1) = (st ts b e rows sums i).had p := by
  by_cases hi : i < rows.length
  · left
    refine ⟨rows[i], ?_⟩
    unfold st
    rw [tell_take (List.getElem?_eq_getElem hi), show i + 1 - rows.length = 0 by omega, show i - rows.length = 0 by omega]
    rfl
  · right
    have hs : i - rows.length < sums.length := by omega
    refine ⟨sums[i - rows.length], ?_⟩
    unfold st
    rw [show i + 1 - rows.length = i - rows.length + 1 by omega, tellS_take (List.getElem?_eq_getElem hs), List.take_of_length_le (l := rows) (by omega), List.take_of_length_le (l := rows) (by omega)]
theorem undo_st {n q i : Nat} (h : JAt S n q (st ts b e rows sums (i + 1))) (hi : i < rows.length + sums.length) : W (m_Journey_undo [.ref n] S) fun d S' => d = .non ∧ JAt S' n q (st ts b e rows sums i) ∧ Kp S [n, q] S' := by
  rcases st_s (ts := ts) (b := b) (e := e) hi with ⟨p, hp⟩ | ⟨p, hp⟩
  · rw [hp] at h
    exact undo_ok h (P := (st ts b e rows sums i).past) (l := (st ts b e rows sums i).ls) (s := (st ts b e rows sums i).ss) rfl
  · rw [hp] at h
    exact undo_ok h (P := (st ts b e rows sums i).past) (l := (st ts b e rows sums i).ls) (s := (st ts b e rows sums i).ss) rfl
end
theorem undone_ok {ts : List Int} {b e : Int} (ht : TOk ts b e) {rows : List Sp} {sums : List Int} (hr : RowsOk ts.length rows) (hs : SumsOk sums) (l1 : rows.length ≤ 40) (l2 : sums.length ≤ 10) :
    W (m__law_undone_right [.tup (ts.map .int), .tup [.int b, .int e], .lst (rows.map rowD), .lst (sums.map .int)] S) fun d S' => d = .bl true := by
  have hlr : bLenA [.lst (rows.map rowD)] = some (.int rows.length) := by
    show some (D.int (rows.map rowD).length) = _
    rw [List.length_map]
  have hls : bLenA [.lst (sums.map D.int)] = some (.int sums.length) := by
    show some (D.int (sums.map D.int).length) = _
    rw [List.length_map]
  have hsum : (rows.length : Int) + sums.length = ((rows.length + sums.length : Nat) : Int) := by omega
  apply_rules only [x__law_undone_right]
  apply_rules
  refine WX.use (travel_ok ht hr hs l1 l2) fun d S1 ⟨n1, q1, e1, g1, g2, A1, K1⟩ => ?_
  subst e1
  have a1 := A1.ln
  have a2 := A1.lq
  apply_rules
  have hS : (S1 ++ [Cell.ins "Journey" []])[S1.length]? = some (.ins "Journey" []) := by simp
  refine WX.use (init_ok ht hS) fun d S2 ⟨e2, B2, K2⟩ => ⟨e2, ?_⟩
  have A2 : JAt S2 n1 q1 (jtold ts b e rows sums) := (A1.app [Cell.ins "Journey" []]).kp K2 (by simp; omega) (by simp; omega)
  generalize hqq : (S1 ++ [Cell.ins "Journey" []]).length = qq at B2
  have hq0 : S1.length ≠ qq := by rw [← hqq]; simp
  have hq1 : S1.length < qq := by rw [← hqq]; simp
  have b1 := B2.ln
  have b2 := B2.lq
  have i1 := j_inst A2 (m := "twin") rfl
  have tt : (jtold ts b e rows sums).ts = ts ∧ (jtold ts b e rows sums).b = b ∧ (jtold ts b e rows sums).e = e := by
    obtain ⟨_, _, t3, t4, t5, _⟩ := tell_len (J := jn0 ts b e) (rows := rows)
    obtain ⟨_, _, u3, u4, u5, _⟩ := tellS_len (J := (jn0 ts b e).tell rows) (sums := sums)
    exact ⟨u3.trans t3, u4.trans t4, u5.trans t5⟩
  apply_rules
  refine WX.use (twin_ok A2 (by rw [tt.1, tt.2.1, tt.2.2]; exact ht)) fun d S3 ⟨n3, q3, e3, g3, g4, C3, K3⟩ => ?_
  subst e3
  have A3 := A2.kp K3 (by simp) (by simp)
  have B3 := B2.kp K3 (by simp) (by simp)
  rw [← st_n] at C3 A3
  apply_rules [hlr, hls]
  refine Ws_loopI (I := fun i env S' => ∃ x5, env = [some (.tup (ts.map .int)), some (.tup [.int b, .int e]), some (.lst (rows.map rowD)), some (.lst (sums.map .int)), some (.ref n3), x5, some (.ref n1), some (.ref S1.length)] ∧ JAt S' n3 q3 (st ts b e rows sums (rows.length + sums.length - i)) ∧
    JAt S' n1 q1 (st ts b e rows sums (rows.length + sums.length)) ∧ JAt S' S1.length qq (jn0 ts b e)) ⟨none, rfl, C3, A3, B3⟩ (fun i x hx env S4 hI => ?_) (fun env S4 hI => ?_)
  · obtain ⟨x5, rfl, C4, A4, B4⟩ := hI
    have hi : i < rows.length + sums.length := by
      have := (List.getElem?_eq_some_iff.mp hx).1
      rw [rng_len] at this
      omega
    have i4 := j_inst C4 (m := "undo") rfl
    refine ⟨_, rfl, ?_⟩
    apply_rules
    rw [show rows.length + sums.length - i = (rows.length + sums.length - (i + 1)) + 1 by omega] at C4
    refine WX.use (undo_st C4 (by omega)) fun d S5 ⟨e5, C5, K5⟩ => ?_
    apply_rules
    exact Lp.nx ⟨_, rfl, C5, A4.kp K5 (by simp; omega) (by simp; omega), B4.kp K5 (by simp; omega) (by simp; omega)⟩
  · obtain ⟨x5, rfl, C4, A4, B4⟩ := hI
    rw [rng_len] at C4
    rw [show rows.length + sums.length - (rows.length + sums.length) = 0 by omega, st_0] at C4
    have f1 := eqV_ok C4 B4 not
    rw [same_self] at f1
    apply_rules [f1]
    refine WX.use (travel_ok ht hr hs l1 l2) fun d S5 ⟨n5, q5, e5, g5, g6, D5, K5⟩ => ?_
    subst e5
    have A5 := A4.kp K5 (by simp) (by simp)
    have B5 := B4.kp K5 (by simp) (by simp)
    have C5 := C4.kp K5 (by simp) (by simp)
    have f2 := eqV_ok A5 D5 not
    rw [st_n, same_self] at f2
    apply_rules [f2, hlr, hls]
    refine Ws_loopI (I := fun i env S' => ∃ x5, env = [some (.tup (ts.map .int)), some (.tup [.int b, .int e]), some (.lst (rows.map rowD)), some (.lst (sums.map .int)), some (.ref n3), x5, some (.ref n1), some (.ref S1.length)] ∧ JAt S' n3 q3 (jn0 ts b e) ∧
      JAt S' n1 q1 (st ts b e rows sums (rows.length + sums.length - i)) ∧ JAt S' S1.length qq (jn0 ts b e)) ⟨_, rfl, C5, A5, B5⟩ (fun i x hx env S6 hI => ?_) (fun env S6 hI => ?_)
    · obtain ⟨x5, rfl, C6, A6, B6⟩ := hI
      have hi : i < rows.length + sums.length := by
        have := (List.getElem?_eq_some_iff.mp hx).1
        rw [rng_len] at this
        omega
      have i4 := j_inst A6 (m := "undo") rfl
      refine ⟨_, rfl, ?_⟩
      apply_rules
      rw [show rows.length + sums.length - i = (rows.length + sums.length - (i + 1)) + 1 by omega] at A6
      refine WX.use (undo_st A6 (by omega)) fun d S7 ⟨e7, A7, K7⟩ => ?_
      apply_rules
      exact Lp.nx ⟨_, rfl, C6.kp K7 (by simp; omega) (by simp; omega), A7, B6.kp K7 (by simp; omega) (by simp; omega)⟩
    · obtain ⟨x5, rfl, C6, A6, B6⟩ := hI
      rw [rng_len] at A6
      rw [show rows.length + sums.length - (rows.length + sums.length) = 0 by omega, st_0] at A6
      have h1 := eqV_ok A6 B6 id
      have h2 := eqV_ok C6 B6 id
      rw [same_self] at h1 h2
      apply_rules [h1, h2]
      rfl
end Ro
end
section
set_option Elab.async false
set_option linter.all false
set_option maxRecDepth 100000
set_option maxHeartbeats 1000000
namespace Ro
open PySem
variable {S S' : Store} {env : Env}
theorem told_told {ts : List Int} {b e : Int} {rows : List Sp} {sums : List Int} : Told (jtold ts b e rows sums) ts b e rows sums (rows.length + sums.length) := by
  have h1 : ∀ (rs : List Sp) (J : Jn) (r0 : List Sp) (s0 : List Int) (k : Nat), Told J ts b e r0 s0 k → Told (J.tell rs) ts b e (r0 ++ rs) s0 (k + rs.length) := by
    intro rs
    induction rs with
    | nil =>
      intro J r0 s0 k h
      show Told J ts b e (r0 ++ []) s0 (k + 0)
      rw [List.append_nil]
      exact h
    | cons p rs ih =>
      intro J r0 s0 k h
      have := ih (J.spend p) (r0 ++ [p]) s0 (k + 1) (h.spend p)
      rw [List.append_assoc] at this
      exact this.perm (List.Perm.refl _) (List.Perm.refl _) (by simp; omega)
  have h2 : ∀ (ss : List Int) (J : Jn) (r0 : List Sp) (s0 : List Int) (k : Nat), Told J ts b e r0 s0 k → Told (J.tellS ss) ts b e r0 (s0 ++ ss) (k + ss.length) := by
    intro ss
    induction ss with
    | nil =>
      intro J r0 s0 k h
      show Told J ts b e r0 (s0 ++ []) (k + 0)
      rw [List.append_nil]
      exact h
    | cons p ss ih =>
      intro J r0 s0 k h
      have := ih (J.had p) r0 (s0 ++ [p]) (k + 1) (h.had p)
      rw [List.append_assoc] at this
      exact this.perm (List.Perm.refl _) (List.Perm.refl _) (by simp; omega)
  have a := h1 rows (jn0 ts b e) [] [] 0 Told.jn0
  have b := h2 sums _ _ _ _ a
  rw [List.nil_append, List.nil_append] at b
  exact b.perm (List.Perm.refl _) (List.Perm.refl _) (by omega)
/-- another one: towns, tenths, rows, sums -/
structure Oth where
  ts : List Int
  b : Int
  e : Int
  rows : List Sp
  sums : List Int
def Oth.d (o : Oth) : D := .tup [.tup (o.ts.map .int), .tup [.int o.b, .int o.e], .lst (o.rows.map rowD), .lst (o.sums.map .int)]
structure Oth.ok (o : Oth) : Prop where
  t : TOk o.ts o.b o.e
  r : RowsOk o.ts.length o.rows
  s : SumsOk o.sums
  l1 : o.rows.length ≤ 40
  l2 : o.sums.length ≤ 10
/-- not the same -/
def Oth.ne (o : Oth) (ts : List Int) (b e : Int) (rows : List Sp) (sums : List Int) : Prop := o.ts ≠ ts ∨ o.b ≠ b ∨ o.e ≠ e ∨ ¬ o.rows.Perm rows ∨ ¬ o.sums.Perm sums
theorem told_ne {J K : Jn} {ts : List Int} {b e : Int} {rows : List Sp} {sums : List Int} {k k' : Nat} {o : Oth} (h : Told J ts b e rows sums k) (g : Told K o.ts o.b o.e o.rows o.sums k') (hn : o.ne ts b e rows sums) : J.same K = false := by
  cases z : J.same K with
  | false => rfl
  | true =>
    exfalso
    unfold Jn.same at z
    simp only [Bool.and_eq_true, decide_eq_true_eq] at z
    obtain ⟨⟨⟨z1, z2⟩, z3⟩, z4⟩ := z
    rw [h.ts, g.ts] at z1
    rw [h.b, g.b, h.e, g.e] at z2
    rw [h.ls, g.ls] at z3
    rw [h.ss, g.ss] at z4
    rcases hn with hn | hn | hn | hn | hn
    · exact hn z1.symm
    · exact hn z2.1.symm
    · exact hn z2.2.symm
    · exact hn ((sortS_perm _).symm.trans (by rw [← z3]; exact sortS_perm _))
    · exact hn ((isort_perm _).symm.trans (by rw [← z4]; exact isort_perm _))
theorem frz_at {n : Nat} {l : List D} (h : S[n]? = some (.lst l)) : frzL (.ref n) S = .ok (.lst l) (S.set n .dead) := by
  unfold frzL
  dsimp only
  rw [h]
theorem oth_i {o : Oth} : idxB o.d (.int 0) S = some (.tup (o.ts.map .int)) ∧ idxB o.d (.int 1) S = some (.tup [.int o.b, .int o.e]) ∧ idxB o.d (.int 2) S = some (.lst (o.rows.map rowD)) ∧ idxB o.d (.int 3) S = some (.lst (o.sums.map .int)) := ⟨rfl, rfl, rfl, rfl⟩
def mores : List (List Int) := [[1, 3], [2, 2], [4]]
theorem unl_tail {n1 q1 n6 : Nat} {J : Jn} {ts : List Int} {bg e : Int} (ht : TOk ts bg e) {rows : List Sp} {sums : List Int} {k : Nat} {L : List Oth} {x0 x7 x8 x9 x10 x11 : Option D} (A : JAt S n1 q1 J) (T : Told J ts bg e rows sums k) (hL : S[n6]? = some (.lst (L.map Oth.d)))
    (h1 : n1 ≠ n6) (h2 : q1 ≠ n6) (ho : ∀ o ∈ L, o.ok ∧ o.ne ts bg e rows sums) (hr : RowsOk ts.length rows) (hs : SumsOk sums) (l1 : rows.length ≤ 40) (l2 : sums.length ≤ 8) {E : String → List D → Store → Prop} :
    WX E (t__law_unlike_right_11 [x0, some (.ref n1), some (.tup (ts.map .int)), some (.tup [.int bg, .int e]), some (.lst (rows.map rowD)), some (.lst (sums.map .int)), some (.ref n6), x7, x8, x9, x10, x11] S) (Fq fun d S' => d = .bl true ∧ Kp S [n6] S') := by
  have fz := frz_at hL
  unfold t__law_unlike_right_11
  apply_rules [fz]
  refine Ws_loopI (I := fun i env S' => ∃ x7, env = [x0, some (.ref n1), some (.tup (ts.map .int)), some (.tup [.int bg, .int e]), some (.lst (rows.map rowD)), some (.lst (sums.map .int)), some (.ref n6), x7, x8, x9, x10, x11] ∧ JAt S' n1 q1 J ∧ Kp S [n6] S')
    ⟨x7, rfl, A.set h1 h2, Kp.set (by simp)⟩ (fun i x hx env S2 hI => ?_) (fun env S2 hI => ?_)
  · obtain ⟨x7, rfl, A2, KA⟩ := hI
    obtain ⟨o, hm, rfl⟩ := List.mem_map.mp (List.mem_of_getElem? hx)
    obtain ⟨ok, ne⟩ := ho o hm
    refine ⟨_, rfl, ?_⟩
    have i0 := fun S => (oth_i (S := S) (o := o)).1
    have i1 := fun S => (oth_i (S := S) (o := o)).2.1
    have i2 := fun S => (oth_i (S := S) (o := o)).2.2.1
    have i3 := fun S => (oth_i (S := S) (o := o)).2.2.2
    apply_rules [i0, i1, i2, i3]
    refine WX.use (travel_ok ok.t ok.r ok.s ok.l1 ok.l2) fun d S3 ⟨n3, q3, e3, g1, g2, B3, K3⟩ => ?_
    subst e3
    have A3 := A2.kp K3 (by simp) (by simp)
    have f := eqV_ok A3 B3 id
    rw [told_ne T told_told ne] at f
    apply_rules [f]
    exact Lp.nx ⟨_, rfl, A3, KA.trans (K3.wide (by simp))⟩
  · obtain ⟨x7, rfl, A2, KA⟩ := hI
    apply_rules
    have mem : ∀ {i : Nat} {x : D}, [D.lst [.int 1, .int 3], .lst [.int 2, .int 2], .lst [.int 4]][i]? = some x → ∃ m, mores[i]? = some m ∧ x = .lst (m.map .int) ∧ (m = [1, 3] ∨ m = [2, 2] ∨ m = [4]) := fun {i x} h => by
      match i, h with
      | 0, h => cases h; exact ⟨_, rfl, rfl, .inl rfl⟩
      | 1, h => cases h; exact ⟨_, rfl, rfl, .inr (.inl rfl)⟩
      | 2, h => cases h; exact ⟨_, rfl, rfl, .inr (.inr rfl)⟩
      | n + 3, h => simp at h
    refine Ws_lcI (fun i acc S' => Kp S [n6] S' ∧ acc.length = i ∧ ∀ j m, j < i → mores[j]? = some m → ∃ n q, acc[j]? = some (.ref n) ∧ JAt S' n q (jtold ts bg e rows (sums ++ m))) ⟨KA, rfl, fun j m h => absurd h (Nat.not_lt_zero _)⟩ (by simp) (fun i x acc S3 hx hI => ?_) (fun acc S3 hI => ?_)
    · obtain ⟨m, hm, rfl, hmm⟩ := mem hx
      obtain ⟨KB, hl, hj⟩ := hI
      have hmo : SumsOk m ∧ m.length ≤ 2 := by
        rcases hmm with rfl | rfl | rfl
        · exact ⟨by intro i hi; simp at hi; omega, by decide⟩
        · exact ⟨by intro i hi; simp at hi; omega, by decide⟩
        · exact ⟨by intro i hi; simp at hi; omega, by decide⟩
      have ha : addD (.lst (sums.map .int)) (.lst (m.map .int)) = some (.lst ((sums ++ m).map .int)) := by
        unfold addD
        dsimp only
        rw [if_pos (by simp; omega), List.map_append]
      refine ⟨_, rfl, ?_⟩
      apply_rules [ha]
      refine WX.use (travel_ok ht hr (fun i hi => (List.mem_append.mp hi).elim (hs i) (hmo.1 i)) l1 (by rw [List.length_append]; omega)) fun d S4 ⟨n3, q3, e3, g1, g2, B3, K3⟩ => ?_
      subst e3
      refine ⟨KB.trans (K3.wide (by simp)), by simp [hl], fun j m' hj' hm' => ?_⟩
      by_cases e : j = i
      · subst e
        rw [hm] at hm'
        cases hm'
        exact ⟨n3, q3, by rw [List.getElem?_append_right (by omega), hl]; simp, B3⟩
      · obtain ⟨n, q, k1, k2⟩ := hj j m' (by omega) hm'
        exact ⟨n, q, by rw [List.getElem?_append_left (by omega)]; exact k1, k2.kp K3 (by simp) (by simp)⟩
    · obtain ⟨KB, hl, hj⟩ := hI
      obtain ⟨a1, b1, k1, J1⟩ := hj 0 [1, 3] (by decide) rfl
      obtain ⟨a2, b2, k2, J2⟩ := hj 1 [2, 2] (by decide) rfl
      obtain ⟨a3, b3, k3, J3⟩ := hj 2 [4] (by decide) rfl
      have ix : ∀ (j : Nat) (a : Nat), j < 3 → acc[j]? = some (.ref a) → idxB (.lst acc) (.int (j : Int)) S3 = some (.ref a) := fun j a h1 h2 => by
        show atP acc (j : Int) = _
        unfold atP pyIx
        rw [if_pos (by omega), if_pos (by rw [hl]; show (j : Int) < ((3 : Nat) : Int); omega)]
        simpa using h2
      have x0 : idxB (.lst acc) (.int 0) S3 = some (.ref a1) := ix 0 a1 (by decide) k1
      have x1 : idxB (.lst acc) (.int 1) S3 = some (.ref a2) := ix 1 a2 (by decide) k2
      have x2 : idxB (.lst acc) (.int 2) S3 = some (.ref a3) := ix 2 a3 (by decide) k3
      have np : ∀ {m m' : List Int}, ¬ m'.Perm m → (jtold ts bg e rows (sums ++ m)).same (jtold ts bg e rows (sums ++ m')) = false := fun {m m'} h =>
        told_ne (o := ⟨ts, bg, e, rows, sums ++ m'⟩) told_told told_told (.inr (.inr (.inr (.inr fun p => h ((List.perm_append_left_iff sums).mp p)))))
      have f1 := eqV_ok J1 J2 not
      rw [np (by decide)] at f1
      have f2 := eqV_ok J1 J3 not
      rw [np (by decide)] at f2
      have f3 := eqV_ok J2 J3 not
      rw [np (by decide)] at f3
      apply_rules [x0, x1, x2, f1, f2, f3]
      first | exact ⟨rfl, KB⟩ | exact KB
end Ro
end
section
set_option Elab.async false
set_option linter.all false
set_option maxRecDepth 100000
set_option maxHeartbeats 1000000
namespace Ro
open PySem
variable {S S' : Store} {env : Env}
theorem ne_rows (l : List Sp) : neD (.lst (l.map rowD)) (.lst []) = some (.bl (!l.isEmpty)) := by
  have := ne_nil (l := l.map rowD) (List.all_eq_true.mpr fun x hx => by
    obtain ⟨p, _, rfl⟩ := List.mem_map.mp hx
    show plN 7 (.tup p.ds) = true
    have : p.ds.all (plN 6) = true := List.all_eq_true.mpr fun x hx => pl_at (sp_at p x hx)
    simpa using this)
  rw [this]
  cases l <;> rfl
theorem ne_ints (l : List Int) : neD (.lst (l.map .int)) (.lst []) = some (.bl (!l.isEmpty)) := by
  rw [ne_nil (pl_ints 7 l)]
  cases l <;> rfl
theorem add_l {f : Sp → D} {l m : List Sp} (h : l.length + m.length ≤ 1000) : addD (.lst (l.map f)) (.lst (m.map f)) = some (.lst ((l ++ m).map f)) := by
  unfold addD
  dsimp only
  rw [if_pos (by simp; omega), List.map_append]
theorem add_i {l m : List Int} (h : l.length + m.length ≤ 1000) : addD (.lst (l.map .int)) (.lst (m.map .int)) = some (.lst ((l ++ m).map .int)) := by
  unfold addD
  dsimp only
  rw [if_pos (by simp; omega), List.map_append]
theorem fq_wide {S S1 S' : Store} {l : List Nat} {c : Ctl} (h : Fq (fun d S' => d = .bl true ∧ Kp S1 l S') c S') (k : Kp S l S1) : Fq (fun d S' => d = .bl true ∧ Kp S l S') c S' := by
  unfold Fq at h ⊢
  cases c with
  | nx e => exact ⟨h.1, k.trans h.2⟩
  | rt d => exact ⟨h.1, k.trans h.2⟩
  | bk e => exact h
  | ct e => exact h
theorem unl_9 {n1 q1 n6 : Nat} {J : Jn} {ts : List Int} {bg e : Int} (ht : TOk ts bg e) {rows : List Sp} {sums : List Int} {k : Nat} {L : List Oth} {x0 x7 x8 x9 x10 x11 : Option D} (A : JAt S n1 q1 J) (T : Told J ts bg e rows sums k) (hL : S[n6]? = some (.lst (L.map Oth.d)))
    (h1 : n1 ≠ n6) (h2 : q1 ≠ n6) (ho : ∀ o ∈ L, o.ok ∧ o.ne ts bg e rows sums) (hll : L.length ≤ 50) (hr : RowsOk ts.length rows) (hs : SumsOk sums) (l1 : rows.length ≤ 40) (l2 : sums.length ≤ 8) {E : String → List D → Store → Prop} :
    WX E (t__law_unlike_right_9 [x0, some (.ref n1), some (.tup (ts.map .int)), some (.tup [.int bg, .int e]), some (.lst (rows.map rowD)), some (.lst (sums.map .int)), some (.ref n6), x7, x8, x9, x10, x11] S) (Fq fun d S' => d = .bl true ∧ Kp S [n6] S') := by
  have tl := ty_at hL
  have rest : ∀ (L : List Oth) S, JAt S n1 q1 J → S[n6]? = some (.lst (L.map Oth.d)) → (∀ o ∈ L, o.ok ∧ o.ne ts bg e rows sums) → WX E (t__law_unlike_right_11 [x0, some (.ref n1), some (.tup (ts.map .int)), some (.tup [.int bg, .int e]), some (.lst (rows.map rowD)), some (.lst (sums.map .int)), some (.ref n6), x7, x8, x9, x10, x11] S) (Fq fun d S' => d = .bl true ∧ Kp S [n6] S') :=
    fun L S a h o => unl_tail ht a T h h1 h2 o hr hs l1 l2
  unfold t__law_unlike_right_9
  generalize t__law_unlike_right_11 = t11 at rest ⊢
  cases sums with
  | nil =>
    have hn := ne_ints []
    apply_rules [hn]
    exact rest L S A hL ho
  | cons s0 sums =>
    have hn := ne_ints (s0 :: sums)
    have hc : cutD (.lst ((s0 :: sums).map .int)) (some 1) none = some (.lst (sums.map .int)) := by
      show some (D.lst (cutL ((s0 :: sums).map D.int) (some ((1 : Nat) : Int)) none)) = _
      rw [cut_hi (by simp)]
      rfl
    have ha : appM (.ref n6) (.tup [.tup (ts.map .int), .tup [.int bg, .int e], .lst (rows.map rowD), .lst (sums.map .int)]) S = some (S.set n6 (.lst (L.map Oth.d ++ [(⟨ts, bg, e, rows, sums⟩ : Oth).d]))) := app_ref hL (x := (⟨ts, bg, e, rows, sums⟩ : Oth).d) (by rw [List.length_map]; omega)
    apply_rules [hn, hc, ha]
    refine (rest (L ++ [⟨ts, bg, e, rows, sums⟩]) _ (A.set h1 h2) ?_ (fun o ho' => ?_)).mono fun c S' hc => fq_wide hc (Kp.set (by simp))
    · rw [List.getElem?_set_self (List.getElem?_eq_some_iff.mp hL).1, List.map_append]; rfl
    · rcases List.mem_append.mp ho' with h | h
      · exact ho o h
      · obtain rfl := List.mem_singleton.mp h
        refine ⟨⟨ht, hr, fun i hi => hs i (List.mem_cons_of_mem _ hi), l1, by simp at l2; show sums.length ≤ 10; omega⟩, .inr (.inr (.inr (.inr fun p => ?_)))⟩
        have := p.length_eq
        simp at this
end Ro
end
section
set_option Elab.async false
set_option linter.all false
set_option maxRecDepth 100000
set_option maxHeartbeats 1000000
namespace Ro
open PySem
variable {S S' : Store} {env : Env}
/-- a row that is otherwise by its paper -/
def flipP (p : Sp) : Sp := { p with paper := !p.paper }
theorem flip_ok {p : Sp} (h : p.ok) : (flipP p).ok := ⟨h.kind, h.a0, h.a1, h.d0, h.d1, h.h0, h.h1, h.m0, h.m1⟩
theorem flip_ne (p : Sp) : flipP p ≠ p := fun e => by
  have := congrArg Sp.paper e
  unfold flipP at this
  simp at this
theorem idx_rows {l : List Sp} {a : Int} (h0 : 0 ≤ a) (h1 : a < l.length) : ∃ p, l[a.toNat]? = some p ∧ ∀ S, idxB (.lst (l.map rowD)) (.int a) S = some (rowD p) := by
  refine ⟨l[a.toNat]'(by omega), List.getElem?_eq_getElem (by omega), fun S => ?_⟩
  show atP (l.map rowD) a = _
  unfold atP pyIx
  rw [if_pos h0, if_pos (by rw [List.length_map]; exact h1)]
  simp
  exact ⟨_, List.getElem?_eq_getElem (by omega), rfl⟩
theorem swap_ne {l : List Sp} {a : Nat} {p p' : Sp} (h : l[a]? = some p) (hp : p' ≠ p) : ¬ (l.take a ++ [p'] ++ l.drop (a + 1)).Perm l := fun k => by
  obtain ⟨hl, rfl⟩ := List.getElem?_eq_some_iff.mp h
  have e : l = l.take a ++ l[a] :: l.drop (a + 1) := by rw [← List.drop_eq_getElem_cons hl, List.take_append_drop]
  have c1 := k.count_eq p'
  have c2 : l.count p' = (l.take a).count p' + (l.drop (a + 1)).count p' := by
    conv => lhs; rw [e]
    rw [List.count_append, List.count_cons_of_ne (fun z => hp z.symm)]
  rw [List.count_append, List.count_append, List.count_singleton_self, c2] at c1
  omega
theorem fq_w2 {S S1 S' : Store} {l m : List Nat} {c : Ctl} (h : Fq (fun d S' => d = .bl true ∧ Kp S1 l S') c S') (k : Kp S m S1) (sub : ∀ i ∈ l, i ∈ m) : Fq (fun d S' => d = .bl true ∧ Kp S m S') c S' := by
  unfold Fq at h ⊢
  cases c with
  | nx e => exact ⟨h.1, k.trans (h.2.wide fun i _ => sub i)⟩
  | rt d => exact ⟨h.1, k.trans (h.2.wide fun i _ => sub i)⟩
  | bk e => exact h
  | ct e => exact h
theorem unl_4 {b n1 q1 n6 : Nat} {J : Jn} {ts : List Int} {bg e : Int} (ht : TOk ts bg e) {rows : List Sp} {sums : List Int} {k : Nat} {L : List Oth} {x7 x8 x9 x10 x11 : Option D} (hB : Bx S b) (A : JAt S n1 q1 J) (T : Told J ts bg e rows sums k) (hL : S[n6]? = some (.lst (L.map Oth.d)))
    (h1 : n1 ≠ n6) (h2 : q1 ≠ n6) (hb1 : n1 ≠ b) (hb2 : q1 ≠ b) (hb3 : n6 ≠ b) (ho : ∀ o ∈ L, o.ok ∧ o.ne ts bg e rows sums) (hll : L.length ≤ 40) (hr : RowsOk ts.length rows) (hs : SumsOk sums) (l1 : rows.length ≤ 20) (l2 : sums.length ≤ 8) {E : String → List D → Store → Prop} :
    WX E (t__law_unlike_right_4 [some (.ref b), some (.ref n1), some (.tup (ts.map .int)), some (.tup [.int bg, .int e]), some (.lst (rows.map rowD)), some (.lst (sums.map .int)), some (.ref n6), x7, x8, x9, x10, x11] S) (Fq fun d S' => d = .bl true ∧ Kp S [b, n6] S') := by
  have tl := ty_at hL
  have rest : ∀ (L : List Oth) x9 x10 S, JAt S n1 q1 J → S[n6]? = some (.lst (L.map Oth.d)) → (∀ o ∈ L, o.ok ∧ o.ne ts bg e rows sums) → L.length ≤ 50 → WX E (t__law_unlike_right_9 [some (.ref b), some (.ref n1), some (.tup (ts.map .int)), some (.tup [.int bg, .int e]), some (.lst (rows.map rowD)), some (.lst (sums.map .int)), some (.ref n6), x7, x8, x9, x10, x11] S) (Fq fun d S' => d = .bl true ∧ Kp S [n6] S') :=
    fun L x9 x10 S a h o hl => unl_9 ht a T h h1 h2 o hl hr hs (by omega) l2
  unfold t__law_unlike_right_4
  generalize t__law_unlike_right_9 = t9 at rest ⊢
  have hn := ne_rows rows
  cases hrw : rows.isEmpty with
  | true =>
    rw [hrw] at hn
    apply_rules [hn]
    exact (rest L _ _ S A hL ho (by omega)).mono fun c S' hc => fq_w2 hc (Kp.refl _ _) (by simp)
  | false =>
    rw [hrw] at hn
    have h0 : 0 < rows.length := by
      cases rows with
      | nil => cases hrw
      | cons _ _ => simp
    have hlen : bLenA [.lst (rows.map rowD)] = some (.int rows.length) := by
      show some (D.int (rows.map rowD).length) = _
      rw [List.length_map]
    apply_rules [hn, hlen]
    refine WX.useD hB ⟨by omega, by omega⟩ fun a S2 a0 a1 F2 B2 => ?_
    have A2 := A.kp F2 (by simpa using hb1) (by simpa using hb2)
    have L2 := F2.get hL (by simpa using hb3)
    have tl2 := ty_at L2
    obtain ⟨p, hp, ix⟩ := idx_rows (l := rows) a0 a1
    have ea : ((a.toNat : Nat) : Int) = a := Int.toNat_of_nonneg a0
    have c1 : cutD (.lst (rows.map rowD)) none (some a) = some (.lst ((rows.take a.toNat).map rowD)) := by
      show some (D.lst (cutL _ none (some a))) = _
      have := cut_lo (l := rows.map rowD) (i := a.toNat) (by rw [List.length_map]; omega)
      rw [ea] at this
      rw [this, List.map_take]
    have c2 : cutD (.lst (rows.map rowD)) (some (a + 1)) none = some (.lst ((rows.drop (a.toNat + 1)).map rowD)) := by
      show some (D.lst (cutL _ (some (a + 1)) none)) = _
      rw [show a + 1 = ((a.toNat + 1 : Nat) : Int) by omega, cut_hi (by rw [List.length_map]; omega), List.map_drop]
    have ha := add_l (f := rowD) (l := rows.take a.toNat) (m := rows.drop (a.toNat + 1)) (by simp; omega)
    have hb : addD (.lst ((rows.take a.toNat).map rowD)) (.lst [rowD (flipP p)]) = some (.lst ((rows.take a.toNat ++ [flipP p]).map rowD)) := add_l (f := rowD) (l := rows.take a.toNat) (m := [flipP p]) (by simp; omega)
    have hc := add_l (f := rowD) (l := rows.take a.toNat ++ [flipP p]) (m := rows.drop (a.toNat + 1)) (by simp; omega)
    have e5 : appM (.ref n6) (.tup [.tup (ts.map .int), .tup [.int bg, .int e], .lst ((rows.take a.toNat ++ rows.drop (a.toNat + 1)).map rowD), .lst (sums.map .int)]) S2 = some (S2.set n6 (.lst (L.map Oth.d ++ [(⟨ts, bg, e, rows.take a.toNat ++ rows.drop (a.toNat + 1), sums⟩ : Oth).d]))) := app_ref L2 (x := (⟨ts, bg, e, rows.take a.toNat ++ rows.drop (a.toNat + 1), sums⟩ : Oth).d) (by rw [List.length_map]; omega)
    have A3 := A2.set (c := .lst (L.map Oth.d ++ [(⟨ts, bg, e, rows.take a.toNat ++ rows.drop (a.toNat + 1), sums⟩ : Oth).d])) h1 h2
    have L3 : (S2.set n6 (.lst (L.map Oth.d ++ [(⟨ts, bg, e, rows.take a.toNat ++ rows.drop (a.toNat + 1), sums⟩ : Oth).d])))[n6]? = some (.lst (L.map Oth.d ++ [(⟨ts, bg, e, rows.take a.toNat ++ rows.drop (a.toNat + 1), sums⟩ : Oth).d])) := List.getElem?_set_self (List.getElem?_eq_some_iff.mp L2).1
    apply_rules [c1, c2, ha, e5]
    generalize hS3 : S2.set n6 (.lst (L.map Oth.d ++ [(⟨ts, bg, e, rows.take a.toNat ++ rows.drop (a.toNat + 1), sums⟩ : Oth).d])) = S3 at A3 L3 ⊢
    have tl3 := ty_at L3
    have r3 : idxB (rowD p) (.int 3) S3 = some (.bl p.paper) := rfl
    have k1 : cutD (rowD p) none (some 3) = some (.tup [.str p.kind, .int p.amount, .int p.day]) := rfl
    have k2 : cutD (rowD p) (some 4) none = some (.tup [.int p.heads, .int p.money]) := rfl
    have k3 : addD (.tup [.str p.kind, .int p.amount, .int p.day]) (.tup [.bl (!p.paper)]) = some (.tup [.str p.kind, .int p.amount, .int p.day, .bl (!p.paper)]) := rfl
    have k4 : addD (.tup [.str p.kind, .int p.amount, .int p.day, .bl (!p.paper)]) (.tup [.int p.heads, .int p.money]) = some (rowD (flipP p)) := rfl
    have e6 : appM (.ref n6) (.tup [.tup (ts.map .int), .tup [.int bg, .int e], .lst ((rows.take a.toNat ++ [flipP p] ++ rows.drop (a.toNat + 1)).map rowD), .lst (sums.map .int)]) S3 = some (S3.set n6 (.lst ((L.map Oth.d ++ [(⟨ts, bg, e, rows.take a.toNat ++ rows.drop (a.toNat + 1), sums⟩ : Oth).d]) ++ [(⟨ts, bg, e, rows.take a.toNat ++ [flipP p] ++ rows.drop (a.toNat + 1), sums⟩ : Oth).d]))) := app_ref L3 (x := (⟨ts, bg, e, rows.take a.toNat ++ [flipP p] ++ rows.drop (a.toNat + 1), sums⟩ : Oth).d) (by simp; omega)
    apply_rules [ix, r3, k1, k2, k3, k4, c1, c2, hb, hc, e6]
    obtain ⟨pk, pd⟩ := hr p (List.mem_of_getElem? hp)
    have al : a.toNat < rows.length := by omega
    refine (rest (L ++ [⟨ts, bg, e, rows.take a.toNat ++ rows.drop (a.toNat + 1), sums⟩] ++ [⟨ts, bg, e, rows.take a.toNat ++ [flipP p] ++ rows.drop (a.toNat + 1), sums⟩]) _ _ _ (A3.set h1 h2) ?_ (fun o ho' => ?_) (by simp; omega)).mono fun c S' hc => fq_w2 hc (((F2.wide (fun i _ hi => by simp at hi ⊢; exact .inl hi)).trans (by rw [← hS3]; exact Kp.set (by simp))).trans (Kp.set (by simp))) (by simp)
    · rw [List.getElem?_set_self (List.getElem?_eq_some_iff.mp L3).1, List.map_append, List.map_append]; rfl
    · have sub : ∀ x ∈ rows.take a.toNat ++ rows.drop (a.toNat + 1), x ∈ rows := fun x hx => (List.mem_append.mp hx).elim List.mem_of_mem_take List.mem_of_mem_drop
      rcases List.mem_append.mp ho' with h | h
      · rcases List.mem_append.mp h with h | h
        · exact ho o h
        · obtain rfl := List.mem_singleton.mp h
          refine ⟨⟨ht, fun x hx => hr x (sub x hx), hs, by simp; omega, by show sums.length ≤ 10; omega⟩, .inr (.inr (.inr (.inl fun q => ?_)))⟩
          have := q.length_eq
          simp at this
          omega
      · obtain rfl := List.mem_singleton.mp h
        refine ⟨⟨ht, fun x hx => ?_, hs, by simp; omega, by show sums.length ≤ 10; omega⟩, .inr (.inr (.inr (.inl (swap_ne hp (flip_ne p)))))⟩
        rcases List.mem_append.mp hx with hx | hx
        · rcases List.mem_append.mp hx with hx | hx
          · exact hr x (List.mem_of_mem_take hx)
          · obtain rfl := List.mem_singleton.mp hx
            exact ⟨flip_ok pk, pd⟩
        · exact hr x (List.mem_of_mem_drop hx)
end Ro
end
section
set_option Elab.async false
set_option linter.all false
set_option maxRecDepth 100000
set_option maxHeartbeats 1000000
namespace Ro
open PySem
variable {S S' : Store} {env : Env}
def bedP : Sp := ⟨"bed", 3, 0, true, 1, 0⟩
theorem bedP_ok : bedP.ok := by
  constructor
  · show ("bed" : Str) ∈ kinds
    decide
  all_goals decide
theorem fq_end {S S1 S' : Store} {b : Nat} {c : Ctl} (h : Fq (fun d S' => d = .bl true ∧ Kp S1 [b, S.length] S') c S') (hl : S.length ≤ S1.length) (k : ∀ i, i < S.length → i ≠ b → S1[i]? = S[i]?) : Fq (fun d S' => d = .bl true ∧ Kp S [b] S') c S' := by
  have key : Kp S1 [b, S.length] S' → Kp S [b] S' := fun h2 => ⟨Nat.le_trans hl h2.len, fun i hi hb => by
    have hb : i ≠ b := by simpa using hb
    rw [h2.at_ i (by omega) (by simp; omega)]
    exact k i hi hb⟩
  unfold Fq at h ⊢
  cases c with
  | nx e => exact ⟨h.1, key h.2⟩
  | rt d => exact ⟨h.1, key h.2⟩
  | bk e => exact h
  | ct e => exact h
theorem unlike_ok {b n1 q1 : Nat} {J : Jn} {ts : List Int} {bg e : Int} (ht : TOk ts bg e) {rows : List Sp} {sums : List Int} {k : Nat} (hB : Bx S b) (A : JAt S n1 q1 J) (T : Told J ts bg e rows sums k) (hb1 : n1 ≠ b) (hb2 : q1 ≠ b)
    (hr : RowsOk ts.length rows) (hs : SumsOk sums) (l1 : rows.length ≤ 20) (l2 : sums.length ≤ 8) :
    W (m__law_unlike_right [.ref b, .ref n1, .tup (ts.map .int), .tup [.int bg, .int e], .lst (rows.map rowD), .lst (sums.map .int)] S) fun d S' => d = .bl true ∧ Kp S [b] S' := by
  have lb := hB.lt
  have la := A.ln
  have lq := A.lq
  have t0 := ht.n0
  have rest : ∀ (L : List Oth) x7 x8 x9 x10 x11 S, Bx S b → JAt S n1 q1 J → ∀ n6, S[n6]? = some (.lst (L.map Oth.d)) → n1 ≠ n6 → q1 ≠ n6 → n6 ≠ b → (∀ o ∈ L, o.ok ∧ o.ne ts bg e rows sums) → L.length ≤ 40 → WX (fun _ _ _ => False) (t__law_unlike_right_4 [some (.ref b), some (.ref n1), some (.tup (ts.map .int)), some (.tup [.int bg, .int e]), some (.lst (rows.map rowD)), some (.lst (sums.map .int)), some (.ref n6), x7, x8, x9, x10, x11] S) (Fq fun d S' => d = .bl true ∧ Kp S [b, n6] S') :=
    fun L x7 x8 x9 x10 x11 S hB a n6 h h1 h2 h3 o hl => unl_4 ht hB a T h h1 h2 hb1 hb2 h3 o hl hr hs l1 l2
  have g1 : addD (.lst (rows.map rowD)) (.lst [rowD bedP]) = some (.lst ((rows ++ [bedP]).map rowD)) := add_l (f := rowD) (m := [bedP]) (by simp; omega)
  have g2 : addD (.lst (sums.map D.int)) (.lst [.int 1]) = some (.lst ((sums ++ [1]).map D.int)) := add_i (m := [1]) (by simp; omega)
  have be : D.tup [.str "bed", .int 3, .int 0, .bl true, .int 1, .int 0] = rowD bedP := rfl
  obtain ⟨z, zs, rfl⟩ : ∃ z zs, ts = z :: zs := by
    cases ts with
    | nil => simp at t0
    | cons z zs => exact ⟨z, zs, rfl⟩
  have g1' : addD (.lst (rows.map rowD)) (.lst [.tup [.str "bed", .int 3, .int 0, .bl true, .int 1, .int 0]]) = some (.lst ((rows ++ [bedP]).map rowD)) := g1
  have zz := ht.t z (by simp)
  have m1 : modD (.int (e + 1)) (.int 11) = some (.int ((e + 1) % 11)) := rfl
  have m2 : modD (.int (z + 1)) (.int 4) = some (.int ((z + 1) % 4)) := rfl
  have ix0 : ∀ S, idxB (.tup (.int z :: zs.map D.int)) (.int 0) S = some (.int z) := fun S => by
    show atP ((z :: zs).map D.int) 0 = _
    simp [atP, pyIx]
  have c1 : cutD (.tup (.int z :: zs.map D.int)) (some 1) none = some (.tup (zs.map D.int)) := by
    show some (D.tup (cutL ((z :: zs).map D.int) (some ((1 : Nat) : Int)) none)) = _
    rw [cut_hi (by simp)]
    rfl
  have ad : addD (.tup [.int ((z + 1) % 4)]) (.tup (zs.map D.int)) = some (.tup ((((z + 1) % 4) :: zs).map D.int)) := by
    have := ht.n1
    unfold addD
    dsimp only
    rw [if_pos (by simp at this ⊢; show _ ≤ 16777216; omega)]
    rfl
  apply_rules only [x__law_unlike_right]
  apply_rules [g1', g2]
  have L1 : (S ++ [Cell.lst [.tup [.tup (.int z :: zs.map D.int), .tup [.int bg, .int e], .lst ((rows ++ [bedP]).map rowD), .lst (sums.map D.int)], .tup [.tup (.int z :: zs.map D.int), .tup [.int bg, .int e], .lst (rows.map rowD), .lst ((sums ++ [1]).map D.int)]]])[S.length]? = some (.lst ([(⟨z :: zs, bg, e, rows ++ [bedP], sums⟩ : Oth), ⟨z :: zs, bg, e, rows, sums ++ [1]⟩].map Oth.d)) := by
    rw [List.getElem?_append_right (Nat.le_refl _), Nat.sub_self]
    rfl
  have A1 := A.app [Cell.lst [.tup [.tup (.int z :: zs.map D.int), .tup [.int bg, .int e], .lst ((rows ++ [bedP]).map rowD), .lst (sums.map D.int)], .tup [.tup (.int z :: zs.map D.int), .tup [.int bg, .int e], .lst (rows.map rowD), .lst ((sums ++ [1]).map D.int)]]]
  have B1 := hB.app [Cell.lst [.tup [.tup (.int z :: zs.map D.int), .tup [.int bg, .int e], .lst ((rows ++ [bedP]).map rowD), .lst (sums.map D.int)], .tup [.tup (.int z :: zs.map D.int), .tup [.int bg, .int e], .lst (rows.map rowD), .lst ((sums ++ [1]).map D.int)]]]
  have K1 := Kp.app S [Cell.lst [.tup [.tup (.int z :: zs.map D.int), .tup [.int bg, .int e], .lst ((rows ++ [bedP]).map rowD), .lst (sums.map D.int)], .tup [.tup (.int z :: zs.map D.int), .tup [.int bg, .int e], .lst (rows.map rowD), .lst ((sums ++ [1]).map D.int)]]] [S.length]
  generalize S ++ [Cell.lst [.tup [.tup (.int z :: zs.map D.int), .tup [.int bg, .int e], .lst ((rows ++ [bedP]).map rowD), .lst (sums.map D.int)], .tup [.tup (.int z :: zs.map D.int), .tup [.int bg, .int e], .lst (rows.map rowD), .lst ((sums ++ [1]).map D.int)]]] = S1 at L1 A1 B1 K1 ⊢
  have tl1 := ty_at L1
  have p1 : appM (.ref S.length) (.tup [.tup (.int z :: zs.map D.int), .tup [.int bg, .int ((e + 1) % 11)], .lst (rows.map rowD), .lst (sums.map D.int)]) S1 = some (S1.set S.length (.lst ([(⟨z :: zs, bg, e, rows ++ [bedP], sums⟩ : Oth), ⟨z :: zs, bg, e, rows, sums ++ [1]⟩, ⟨z :: zs, bg, (e + 1) % 11, rows, sums⟩].map Oth.d))) := app_ref L1 (by simp)
  have l1' := (List.getElem?_eq_some_iff.mp L1).1
  apply_rules [m1, p1]
  have L2 : (S1.set S.length (.lst ([(⟨z :: zs, bg, e, rows ++ [bedP], sums⟩ : Oth), ⟨z :: zs, bg, e, rows, sums ++ [1]⟩, ⟨z :: zs, bg, (e + 1) % 11, rows, sums⟩].map Oth.d)))[S.length]? = some (.lst ([(⟨z :: zs, bg, e, rows ++ [bedP], sums⟩ : Oth), ⟨z :: zs, bg, e, rows, sums ++ [1]⟩, ⟨z :: zs, bg, (e + 1) % 11, rows, sums⟩].map Oth.d)) := List.getElem?_set_self l1'
  have n1s : n1 ≠ S.length := by omega
  have q1s : q1 ≠ S.length := by omega
  have A2 := A1.set (c := .lst ([(⟨z :: zs, bg, e, rows ++ [bedP], sums⟩ : Oth), ⟨z :: zs, bg, e, rows, sums ++ [1]⟩, ⟨z :: zs, bg, (e + 1) % 11, rows, sums⟩].map Oth.d)) n1s q1s
  have B2 : Bx (S1.set S.length (.lst ([(⟨z :: zs, bg, e, rows ++ [bedP], sums⟩ : Oth), ⟨z :: zs, bg, e, rows, sums ++ [1]⟩, ⟨z :: zs, bg, (e + 1) % 11, rows, sums⟩].map Oth.d))) b := B1.kp (l := [S.length]) (Kp.set (by simp)) (by simp; omega)
  have KK : Kp S [S.length] (S1.set S.length (.lst ([(⟨z :: zs, bg, e, rows ++ [bedP], sums⟩ : Oth), ⟨z :: zs, bg, e, rows, sums ++ [1]⟩, ⟨z :: zs, bg, (e + 1) % 11, rows, sums⟩].map Oth.d))) := K1.trans (Kp.set (by simp))
  generalize S1.set S.length (.lst ([(⟨z :: zs, bg, e, rows ++ [bedP], sums⟩ : Oth), ⟨z :: zs, bg, e, rows, sums ++ [1]⟩, ⟨z :: zs, bg, (e + 1) % 11, rows, sums⟩].map Oth.d)) = S2 at L2 A2 B2 KK ⊢
  have tl2 := ty_at L2
  have l2' := (List.getElem?_eq_some_iff.mp L2).1
  apply_rules [ix0, m2, c1, ad]
  have p2 : appM (.ref S.length) (.tup [.tup ((((z + 1) % 4) :: zs).map D.int), .tup [.int bg, .int e], .lst (rows.map rowD), .lst (sums.map D.int)]) S2 = some (S2.set S.length (.lst ([(⟨z :: zs, bg, e, rows ++ [bedP], sums⟩ : Oth), ⟨z :: zs, bg, e, rows, sums ++ [1]⟩, ⟨z :: zs, bg, (e + 1) % 11, rows, sums⟩, ⟨((z + 1) % 4) :: zs, bg, e, rows, sums⟩].map Oth.d))) := app_ref L2 (by simp)
  refine ⟨_, p2, Nx.nx ?_⟩
  have hbd : RowsOk (z :: zs).length (rows ++ [bedP]) := fun p hp => by
    rcases List.mem_append.mp hp with h | h
    · exact hr p h
    · obtain rfl := List.mem_singleton.mp h
      exact ⟨bedP_ok, by show (0 : Int) < _; simp⟩
  have hsd : SumsOk (sums ++ [1]) := fun p hp => by
    rcases List.mem_append.mp hp with h | h
    · exact hs p h
    · obtain rfl := List.mem_singleton.mp h
      exact ⟨by decide, by decide⟩
  have ht3 : TOk (z :: zs) bg ((e + 1) % 11) := ⟨ht.n0, ht.n1, ht.t, ht.b0, ht.b1, by omega, by omega⟩
  have ht4 : TOk (((z + 1) % 4) :: zs) bg e := ⟨by simp, by simpa using ht.n1, fun x hx => by
    rcases List.mem_cons.mp hx with h | h
    · omega
    · exact ht.t x (by simp [h]), ht.b0, ht.b1, ht.e0, ht.e1⟩
  have hr4 : RowsOk (((z + 1) % 4) :: zs).length rows := by simpa using hr
  refine (rest [(⟨z :: zs, bg, e, rows ++ [bedP], sums⟩ : Oth), ⟨z :: zs, bg, e, rows, sums ++ [1]⟩, ⟨z :: zs, bg, (e + 1) % 11, rows, sums⟩, ⟨((z + 1) % 4) :: zs, bg, e, rows, sums⟩] _ _ _ _ _ _ (B2.kp (l := [S.length]) (Kp.set (by simp)) (by simp; omega)) (A2.set n1s q1s) S.length (List.getElem?_set_self l2') n1s q1s (by omega) (fun o ho => ?_) (by simp)).mono fun c S' hc => fq_end hc (by have := KK.len; simpa using this) fun i hi hb => by
    rw [List.getElem?_set_ne (by omega)]; exact KK.at_ i hi (by simp; omega)
  simp only [List.mem_cons, List.not_mem_nil, or_false] at ho
  rcases ho with rfl | rfl | rfl | rfl
  · exact ⟨⟨ht, hbd, hs, by simp; omega, by show sums.length ≤ 10; omega⟩, .inr (.inr (.inr (.inl fun p => by have := p.length_eq; simp at this)))⟩
  · exact ⟨⟨ht, hr, hsd, by show rows.length ≤ 40; omega, by simp; omega⟩, .inr (.inr (.inr (.inr fun p => by have := p.length_eq; simp at this)))⟩
  · exact ⟨⟨ht3, hr, hs, by show rows.length ≤ 40; omega, by show sums.length ≤ 10; omega⟩, .inr (.inr (.inl (by show (e + 1) % 11 ≠ e; have := ht.e0; have := ht.e1; omega)))⟩
  · exact ⟨⟨ht4, hr4, hs, by show rows.length ≤ 40; omega, by show sums.length ≤ 10; omega⟩, .inl (by show ((z + 1) % 4) :: zs ≠ z :: zs; intro h; have := (List.cons.inj h).1; omega)⟩
end Ro
end
section
set_option Elab.async false
set_option linter.all false
set_option maxRecDepth 100000
set_option maxHeartbeats 1000000
namespace Ro
open PySem
variable {S S' : Store} {env : Env}
def twB (p q : Sp) : Bool := decide (p.kind = q.kind) && decide (p.amount = q.amount) && decide (p.day = q.day) && decide (p.money = q.money)
theorem tw_ok {p q : Sp} : m_are_twins [p.obj, q.obj] S = .ok (.bl (twB p q)) S := by
  have a1 : ∀ (p : Sp) S, attrD cf ["Spending"] "kind" p.obj S = some (.str p.kind) := fun p S => rfl
  have a2 : ∀ (p : Sp) S, attrD cf ["Spending"] "amount" p.obj S = some (.int p.amount) := fun p S => rfl
  have a3 : ∀ (p : Sp) S, attrD cf ["Spending"] "day" p.obj S = some (.int p.day) := fun p S => rfl
  have a4 : ∀ (p : Sp) S, attrD cf ["Spending"] "money" p.obj S = some (.int p.money) := fun p S => rfl
  refine WX.toEq ?_
  unfold twB
  cases z1 : decide (p.kind = q.kind) <;> cases z2 : decide (p.amount = q.amount) <;> cases z3 : decide (p.day = q.day) <;> apply_rules only [x_are_twins] <;> apply_rules [a1, a2, a3, a4, z1, z2, z3] <;> first | rfl | exact ⟨by simp, rfl⟩
def twN (ls : List Sp) : Nat → List Int
  | 0 => []
  | i + 1 => twN ls i ++ (match ls[i]? with
    | some p => if (ls.take i).any (twB p) then [(i : Int)] else []
    | none => [])
theorem enum_at {l : List D} {i : Nat} : (enumL 0 l)[i]? = (l[i]?).map fun x => .tup [.int (i : Int), x] := by
  have := enumL_get l 0 i
  rw [Nat.zero_add] at this
  exact this
def spOf : D → Sp
  | .obj _ [.str k, .int a, .int d, .bl p, .int h, .int m] => ⟨k, a, d, p, h, m⟩
  | _ => ⟨"", 0, 0, true, 0, 0⟩
theorem bAny_map {g : D → Bool} (l : List D) : bAny [.lst (l.map fun x => .bl (g x))] = some (.bl (l.any g)) := by
  show ((dBls (l.map fun x => .bl (g x))).map fun bs => D.bl (bs.any id)) = _
  rw [dBls_map]
  simp [List.any_map]
theorem twins_ok {n q : Nat} {J : Jn} (h : JAt S n q J) (hl : J.ls.length ≤ 1000) : W (m_Journey_twins [.ref n] S) fun d S' => ∃ m, d = .ref m ∧ S.length ≤ m ∧ S'[m]? = some (.lst ((twN J.ls J.ls.length).map .int)) ∧ Kp S [] S' := by
  have h1 := h.app [.lst []]
  apply_rules only [x_Journey_twins]
  apply_rules [a_lines h1]
  refine Ws_loopI (I := fun i env S' => ∃ x2 x3 x4, env = [some (.ref n), some (.ref S.length), x2, x3, x4] ∧ JAt S' n q J ∧ S'[S.length]? = some (.lst ((twN J.ls i).map .int)) ∧ Kp S [] S') ⟨none, none, none, rfl, h1, by simp [twN], Kp.app _ _ _⟩ (fun i x hx env S2 hI => ?_) (fun env S2 hI => ?_)
  · obtain ⟨x2, x3, x4, rfl, A2, L2, K2⟩ := hI
    obtain ⟨p, hp, rfl⟩ : ∃ p, J.ls[i]? = some p ∧ x = .tup [.int i, p.obj] := by
      rw [enum_at, List.getElem?_map] at hx
      cases hp : J.ls[i]? with
      | none => rw [hp] at hx; cases hx
      | some p =>
        rw [hp] at hx
        cases hx
        exact ⟨p, rfl, by simp⟩
    have hi : i < J.ls.length := (List.getElem?_eq_some_iff.mp hp).1
    have tl := ty_at L2
    have c1 : cutD (.lst (J.ls.map Sp.obj)) none (some ((i : Nat) : Int)) = some (.lst ((J.ls.take i).map Sp.obj)) := by
      show some (D.lst (cutL _ none (some ((i : Nat) : Int)))) = _
      rw [cut_lo (by rw [List.length_map]; omega), List.map_take]
    refine ⟨_, rfl, ?_⟩
    apply_rules [a_lines A2, c1]
    refine Ws_lcm (fun x => .bl (twB p (spOf x))) (by simp; omega) (fun x hx => ?_) ?_
    · obtain ⟨r, _, rfl⟩ := List.mem_map.mp hx
      refine ⟨_, rfl, ?_⟩
      apply_rules [fun S => tw_ok (S := S) (p := p) (q := r)]
      first | exact ⟨rfl, rfl⟩ | rfl
    · have hb := bAny_map (g := fun x => twB p (spOf x)) ((J.ls.take i).map Sp.obj)
      have he : (((J.ls.take i).map Sp.obj).any fun x => twB p (spOf x)) = (J.ls.take i).any (twB p) := by
        rw [List.any_map]; rfl
      rw [he] at hb
      apply_rules [hb]
      have tn : twN J.ls (i + 1) = twN J.ls i ++ (if (J.ls.take i).any (twB p) then [(i : Int)] else []) := by
        show twN J.ls i ++ _ = _
        rw [hp]
      refine Br.both (fun hc => ?_) (fun hc => ?_)
      · rw [hc] at tn
        have tl2 : ∀ n, n ≤ i → (twN J.ls n).length ≤ n := fun n => by
          induction n with
          | zero => intro _; simp [twN]
          | succ n ih =>
            intro hn
            have := ih (by omega)
            rw [twN, List.length_append]
            split
            · split <;> simp <;> omega
            · simp; omega
        have := tl2 i (Nat.le_refl _)
        have ap := app_ref L2 (x := .int (i : Int)) (by rw [List.length_map]; omega)
        apply_rules [ap]
        refine Lp.nx ⟨_, _, _, rfl, A2.set (by have := h.ln; omega) (by have := h.lq; omega), ?_, ?_⟩
        · rw [List.getElem?_set_self (List.getElem?_eq_some_iff.mp L2).1, tn]
          simp
        · refine ⟨by rw [List.length_set]; exact K2.len, fun k hk _ => ?_⟩
          rw [List.getElem?_set_ne (by omega)]
          exact K2.at_ k hk (by simp)
      · rw [hc] at tn
        apply_rules
        refine Lp.nx ⟨_, _, _, rfl, A2, ?_, K2⟩
        rw [tn]
        simpa using L2
  · obtain ⟨x2, x3, x4, rfl, A2, L2, K2⟩ := hI
    rw [show (enumL 0 (J.ls.map Sp.obj)).length = J.ls.length by rw [enumL_len, List.length_map]] at L2
    apply_rules
    first | exact ⟨L2, K2⟩ | exact K2
end Ro
end
section
set_option Elab.async false
set_option linter.all false
set_option maxRecDepth 100000
set_option maxHeartbeats 1000000
namespace Ro
open PySem
variable {S S' : Store} {env : Env}
def spR : D → Sp
  | .tup [.str k, .int a, .int d, .bl p, .int h, .int m] => ⟨k, a, d, p, h, m⟩
  | _ => ⟨"", 0, 0, true, 0, 0⟩
theorem l33 {ns : List Int} {k lap : Nat} (hlap : lap < 2) {x3 x4 x5 x6 x7 x8 x9 x10 x11 : Option D} : W (t_law_3 [some (.scr ns), some (.int (k : Int)), some (.int (lap : Int)), x3, x4, x5, x6, x7, x8, x9, x10, x11] S) fun c S' => ∃ y3 y4 y5 y6 y7 y8 y9 y10 y11, c = .nx [some (.scr ns), some (.int (k : Int)), some (.int (lap : Int)), y3, y4, y5, y6, y7, y8, y9, y10, y11] := by
  refine W.ofX ?_
  unfold t_law_3
  apply_rules
  refine WX.use (box_ok (by omega)) fun d S1 ⟨x, e, e2, hx⟩ => ?_
  subst e
  have B1 : Bx S1 S.length := ⟨x, 0, by rw [e2]; simp, hx, Int.le_refl _⟩
  generalize S.length = b at B1
  apply_rules
  refine WX.use (towns_ok B1) fun d S2 ⟨ts, e3, ⟨t0, t1, t2⟩, K2, B2⟩ => ?_
  subst e3
  apply_rules
  refine WX.useD B2 (by decide) fun bg S3 bg0 bg1 K3 B3 => ?_
  apply_rules
  refine WX.useD B3 (by decide) fun en S4 en0 en1 K4 B4 => ?_
  apply_rules
  refine WX.useD B4 (by decide) fun nr S5 nr0 nr1 K5 B5 => ?_
  obtain ⟨m, rfl⟩ := Int.eq_ofNat_of_zero_le nr0
  have ht : TOk ts bg en := ⟨t0, t1, t2, bg0, by omega, en0, by omega⟩
  have hlen : bLenA [.tup (ts.map D.int)] = some (.int ts.length) := by
    show some (D.int (ts.map D.int).length) = _
    rw [List.length_map]
  apply_rules
  refine Ws_lcI (fun i acc S' => ∃ rs : List Sp, acc = rs.map rowD ∧ rs.length = i ∧ (∀ p ∈ rs, p.ok) ∧ Bx S' b) ⟨[], rfl, rfl, by simp, B5⟩ (by rw [rng_len]; omega) (fun j x acc S6 hx hI => ?_) (fun acc S6 hI => ?_)
  · obtain ⟨rs, rfl, hl, ho, B6⟩ := hI
    refine ⟨_, rfl, ?_⟩
    apply_rules [hlen]
    refine WX.use (row_ok B6 (by omega) (by omega)) fun d S7 ⟨p, e7, pk, K7, B7⟩ => ?_
    subst e7
    exact ⟨rs ++ [p], by simp [rowD], by simp [hl], fun q hq => by
      rcases List.mem_append.mp hq with h | h
      · exact ho q h
      · obtain rfl := List.mem_singleton.mp h; exact pk, B7⟩
  · obtain ⟨rs, rfl, hl, ho, B6⟩ := hI
    rw [rng_len] at hl
    apply_rules
    refine Ws_lcf (fun x => decide ((spR x).day < ts.length)) id (by simp; omega) (fun x hx => ?_) ?_
    · obtain ⟨p, _, rfl⟩ := List.mem_map.mp hx
      have i2 : ∀ S, idxB (rowD p) (.int 2) S = some (.int p.day) := fun S => rfl
      have lt : ltA (.int p.day) (.int ts.length) = some (.bl (decide (p.day < ts.length))) := rfl
      refine ⟨_, rfl, ?_⟩
      apply_rules [i2, hlen, lt]
      first
        | (intro _; apply_rules; first | rfl | exact ⟨rfl, rfl⟩ | done)
        | (refine ⟨rfl, fun _ => ?_⟩; apply_rules; first | rfl | exact ⟨rfl, rfl⟩ | done)
    · have er : ((rs.map rowD).filter fun x => decide ((spR x).day < ts.length)).map id = (rs.filter fun p => decide (p.day < (ts.length : Int))).map rowD := by
        rw [List.map_id, List.filter_map]
        rfl
      rw [er]
      have hr : RowsOk ts.length (rs.filter fun p => decide (p.day < (ts.length : Int))) := fun p hp => by
        obtain ⟨h1, h2⟩ := List.mem_filter.mp hp
        exact ⟨ho p h1, by simpa using h2⟩
      have lr : (rs.filter fun p => decide (p.day < (ts.length : Int))).length ≤ 12 := by
        have := List.length_filter_le (fun p : Sp => decide (p.day < (ts.length : Int))) rs
        omega
      generalize (rs.filter fun p => decide (p.day < (ts.length : Int))) = rows at hr lr
      apply_rules
      refine WX.useD B6 (by decide) fun nsu S7 ns0 ns1 K7 B7 => ?_
      obtain ⟨m2, rfl⟩ := Int.eq_ofNat_of_zero_le ns0
      apply_rules
      refine Ws_lcI (fun i acc S' => ∃ ss : List Int, acc = ss.map D.int ∧ ss.length = i ∧ SumsOk ss ∧ Bx S' b) ⟨[], rfl, rfl, fun _ h => (by simp at h), B7⟩ (by rw [rng_len]; omega) (fun j x acc S8 hx hI => ?_) (fun acc S8 hI => ?_)
      · obtain ⟨ss, rfl, hl, hs, B8⟩ := hI
        refine ⟨_, rfl, ?_⟩
        apply_rules
        refine WX.useD B8 (by decide) fun v S9 v0 v1 K9 B9 => ?_
        apply_rules
        exact ⟨ss ++ [1 + v], by simp, by simp [hl], fun q hq => by
          rcases List.mem_append.mp hq with h | h
          · exact hs q h
          · obtain rfl := List.mem_singleton.mp h; exact ⟨by omega, by omega⟩, B9⟩
      · obtain ⟨sums, rfl, hl, hs, B8⟩ := hI
        rw [rng_len] at hl
        have ls : sums.length ≤ 4 := by omega
        apply_rules
        refine WX.use (among_ok B8 ht hr hs (by omega) (by omega)) fun d S9 ⟨n1, q1, J1, e9, g1, g2, A9, T1, K9, B9⟩ => ?_
        subst e9
        apply_rules
        refine WX.use (among_ok B9 ht hr hs (by omega) (by omega)) fun d S10 ⟨n2, q2, J2, e10, g3, g4, C10, T2, K10, B10⟩ => ?_
        subst e10
        have lb := B8.lt
        have la := A9.ln
        have lq := A9.lq
        have A10 := A9.kp K10 (by simp; omega) (by simp; omega)
        have f1 := eqV_ok A10 C10 not
        rw [T1.same T2] at f1
        have el : J1.ls = J2.ls := by rw [T1.ls, T2.ls]
        have iL1 := j_inst A10 (m := "lines") rfl
        have L1 := lines_ok A10
        have C11 := C10.app [Cell.lst (J1.ls.map Sp.obj)]
        have A11 := A10.app [Cell.lst (J1.ls.map Sp.obj)]
        have B11 := B10.app [Cell.lst (J1.ls.map Sp.obj)]
        have v1 : (S10 ++ [Cell.lst (J1.ls.map Sp.obj)])[S10.length]? = some (.lst (J1.ls.map Sp.obj)) := by simp
        have iL2 := j_inst C11 (m := "lines") rfl
        have L2 := lines_ok C11
        have C12 := C11.app [Cell.lst (J2.ls.map Sp.obj)]
        have A12 := A11.app [Cell.lst (J2.ls.map Sp.obj)]
        have B12 := B11.app [Cell.lst (J2.ls.map Sp.obj)]
        have s1 : seeD (.ref S10.length) (S10 ++ [Cell.lst (J1.ls.map Sp.obj)] ++ [Cell.lst (J2.ls.map Sp.obj)]) = .lst (J1.ls.map Sp.obj) := see_l (by rw [List.getElem?_append_left (by simp)]; exact v1)
        have s2 : seeD (.ref (S10 ++ [Cell.lst (J1.ls.map Sp.obj)]).length) (S10 ++ [Cell.lst (J1.ls.map Sp.obj)] ++ [Cell.lst (J2.ls.map Sp.obj)]) = .lst (J2.ls.map Sp.obj) := see_l (by simp)
        have f2 := lstM s1 s2 spl_A not
        rw [decide_eq_true el] at f2
        apply_rules [f1, L1, L2, f2]
        generalize S10 ++ [Cell.lst (J1.ls.map Sp.obj)] ++ [Cell.lst (J2.ls.map Sp.obj)] = S12 at A12 B12 C12 ⊢
        have iT1 := j_inst A12 (m := "twins") rfl
        obtain ⟨m1, m2⟩ := T1.lsl
        obtain ⟨m3, m4⟩ := T2.lsl
        apply_rules
        refine WX.use (twins_ok A12 (by omega)) fun d S13 ⟨w1, e13, u1, U1, K13⟩ => ?_
        subst e13
        have A13 := A12.kp K13 (by simp) (by simp)
        have B13 := B12.kp K13 (by simp)
        have C13 := C12.kp K13 (by simp) (by simp)
        have iT2 := j_inst C13 (m := "twins") rfl
        apply_rules
        refine WX.use (twins_ok C13 (by omega)) fun d S14 ⟨w2, e14, u2, U2, K14⟩ => ?_
        subst e14
        have A14 := A13.kp K14 (by simp) (by simp)
        have B14 := B13.kp K14 (by simp)
        have C14 := C13.kp K14 (by simp) (by simp)
        have U1 := K14.get U1 (by simp)
        have ne : neD (seeD (.ref w1) S14) (seeD (.ref w2) S14) = some (.bl false) := by
          rw [see_l U1, see_l U2, el]
          have hp : plD (.lst ((twN J2.ls J2.ls.length).map .int)) = true := pl_ints 7 _
          unfold neD
          rw [hp, pyEq_lst, pyEqs_int]
          simp
        have iL3 := j_inst A14 (m := "lines") rfl
        have L3 := lines_ok A14
        have a3 := app_ref (S := S14 ++ [Cell.lst (J1.ls.map Sp.obj)]) (n := S14.length) (l := J1.ls.map Sp.obj) (x := .non) (by simp) (by rw [List.length_map]; omega)
        have tyL : tyD (.ref S14.length) (S14 ++ [Cell.lst (J1.ls.map Sp.obj)]) = some (.b "list") := ty_at (l := J1.ls.map Sp.obj) (by simp)
        apply_rules [ne, L3, a3]
        have A15 : JAt ((S14 ++ [Cell.lst (J1.ls.map Sp.obj)]).set S14.length (.lst (J1.ls.map Sp.obj ++ [.non]))) n1 q1 J1 := (A14.app _).set (by have := A14.ln; omega) (by have := A14.lq; omega)
        have C15 : JAt ((S14 ++ [Cell.lst (J1.ls.map Sp.obj)]).set S14.length (.lst (J1.ls.map Sp.obj ++ [.non]))) n2 q2 J2 := (C14.app _).set (by have := C14.ln; omega) (by have := C14.lq; omega)
        have B15 : Bx ((S14 ++ [Cell.lst (J1.ls.map Sp.obj)]).set S14.length (.lst (J1.ls.map Sp.obj ++ [.non]))) b := (B14.app _).kp (l := [S14.length]) (Kp.set (by simp)) (by have := B14.lt; simp; omega)
        generalize (S14 ++ [Cell.lst (J1.ls.map Sp.obj)]).set S14.length (.lst (J1.ls.map Sp.obj ++ [.non])) = S15 at A15 B15 C15 ⊢
        have iT3 := j_inst A15 (m := "twins") rfl
        apply_rules
        refine WX.use (twins_ok A15 (by omega)) fun d S16 ⟨w3, e16, u3, U3, K16⟩ => ?_
        subst e16
        have A16 := A15.kp K16 (by simp) (by simp)
        have B16 := B15.kp K16 (by simp)
        have C16 := C15.kp K16 (by simp) (by simp)
        have tw : ∀ (ls : List Sp) n, (twN ls n).length ≤ n := fun ls n => by
          induction n with
          | zero => simp [twN]
          | succ n ih =>
            rw [twN, List.length_append]
            split
            · split <;> simp <;> omega
            · simp; omega
        have a4 := app_ref U3 (x := .int 0) (by rw [List.length_map]; have := tw J1.ls J1.ls.length; omega)
        have ty3 := ty_at U3
        have A17 := A16.set (m := w3) (c := .lst ((twN J1.ls J1.ls.length).map .int ++ [.int 0])) (by have := A15.ln; omega) (by have := A15.lq; omega)
        have C17 := C16.set (m := w3) (c := .lst ((twN J1.ls J1.ls.length).map .int ++ [.int 0])) (by have := C15.ln; omega) (by have := C15.lq; omega)
        have B17 := B16.kp (l := [w3]) (Kp.set (n := w3) (c := .lst ((twN J1.ls J1.ls.length).map .int ++ [.int 0])) (by simp)) (by have := B15.lt; simp; omega)
        have iL4 := j_inst C17 (m := "lines") rfl
        have L4 := lines_ok C17
        apply_rules [a4]
        generalize S16.set w3 (.lst ((twN J1.ls J1.ls.length).map .int ++ [.int 0])) = S17 at A17 B17 C17 iL4 L4 ⊢
        refine WX.eq L4 ?_
        have v4 : (S17 ++ [Cell.lst (J2.ls.map Sp.obj)])[S17.length]? = some (.lst (J2.ls.map Sp.obj)) := by simp
        have ty4 := ty_at v4
        have cl : clrM (.ref S17.length) (S17 ++ [Cell.lst (J2.ls.map Sp.obj)]) = .ok .non ((S17 ++ [Cell.lst (J2.ls.map Sp.obj)]).set S17.length (.lst [])) := by
          unfold clrM
          dsimp only
          rw [v4]
        have A18 : JAt ((S17 ++ [Cell.lst (J2.ls.map Sp.obj)]).set S17.length (.lst [])) n1 q1 J1 := (A17.app _).set (by have := A17.ln; omega) (by have := A17.lq; omega)
        have C18 : JAt ((S17 ++ [Cell.lst (J2.ls.map Sp.obj)]).set S17.length (.lst [])) n2 q2 J2 := (C17.app _).set (by have := C17.ln; omega) (by have := C17.lq; omega)
        have B18 : Bx ((S17 ++ [Cell.lst (J2.ls.map Sp.obj)]).set S17.length (.lst [])) b := (B17.app _).kp (l := [S17.length]) (Kp.set (n := S17.length) (by simp)) (by have := B17.lt; simp; omega)
        have f3 := eqV_ok A18 C18 not
        rw [T1.same T2] at f3
        generalize (S17 ++ [Cell.lst (J2.ls.map Sp.obj)]).set S17.length (.lst []) = S18 at A18 B18 C18 f3 cl ⊢
        apply_rules [cl, f3]
        refine WX.use (travel_ok ht hr hs (by omega) (by omega)) fun d S19 ⟨n5, q5, e19, g5, g6, D19, K19⟩ => ?_
        subst e19
        have A19 := A18.kp K19 (by simp) (by simp)
        have B19 := B18.kp K19 (by simp)
        have C19 := C18.kp K19 (by simp) (by simp)
        have f4 := eqV_ok A19 D19 not
        rw [T1.same told_told] at f4
        have iL5 := j_inst A19 (m := "lines") rfl
        have L5 := lines_ok A19
        have hl5 : bLenA ([D.ref S19.length].map fun x => seeD x (S19 ++ [Cell.lst (J1.ls.map Sp.obj)])) = some (.int rows.length) := by
          show bLenA [seeD (.ref S19.length) _] = _
          rw [see_l (l := J1.ls.map Sp.obj) (by simp)]
          show some (D.int (J1.ls.map Sp.obj).length) = _
          rw [List.length_map, m1]
        have hlr : bLenA [.lst (rows.map rowD)] = some (.int rows.length) := by
          show some (D.int (rows.map rowD).length) = _
          rw [List.length_map]
        have nn : neD (.int rows.length) (.int rows.length) = some (.bl false) := by rw [v_nei]; simp
        have A20 := A19.app [Cell.lst (J1.ls.map Sp.obj)]
        have B20 := B19.app [Cell.lst (J1.ls.map Sp.obj)]
        have C20 := C19.app [Cell.lst (J1.ls.map Sp.obj)]
        apply_rules [f4, L5, hl5, hlr, nn]
        refine WX.use (unlike_ok ht B20 A20 T1 (by omega) (by omega) hr hs (by omega) (by omega)) fun d S21 ⟨e21, K21⟩ => ?_
        subst e21
        have A21 := A20.kp K21 (by simp; omega) (by simp; omega)
        have C21 := C20.kp K21 (by simp; omega) (by simp; omega)
        have lA10 := A10.ln
        have lA10q := A10.lq
        have lS9 := C10.ln
        apply_rules
        refine WX.use (twin_right ht A21 C21 T1 T2 (by omega) (by omega) (by omega) (by omega) (by omega) (by omega) (by omega) hr) fun d S22 e22 => ?_
        subst e22
        apply_rules
        refine WX.use (undone_ok ht hr hs (by omega) (by omega)) fun d S23 e23 => ?_
        subst e23
        apply_rules
        exact ⟨_, _, _, _, _, _, _, _, _, rfl⟩
end Ro
end
section
set_option Elab.async false
set_option linter.all false
set_option maxRecDepth 100000
set_option maxHeartbeats 1000000
namespace Ro
open PySem
variable {S : Store} {env : Env}
theorem law33_ok {ns : List Int} (hl : ns.length ≤ 63) : ∃ S, m_law [.scr ns] [] = .ok (.bl true) S := by
  refine W.ex ?_
  obtain ⟨m, h1, h2, hm⟩ : ∃ m : Nat, bMin2 [.int (ns.length : Int), .int 2] = some (.int (m : Int)) ∧ m ≤ 2 ∧ ∃ k : Nat, bMax2 [.int 1, .int (m : Int)] = some (.int (k : Int)) ∧ k ≤ 2 := by
    refine ⟨min ns.length 2, ?_, by omega, max 1 (min ns.length 2), ?_, by omega⟩
    · show some (D.int (if (2 : Int) < ns.length then 2 else ns.length)) = _
      split <;> (congr 2; omega)
    · show some (D.int (if ((min ns.length 2 : Nat) : Int) > 1 then ((min ns.length 2 : Nat) : Int) else 1)) = _
      split <;> (congr 2; omega)
  obtain ⟨k, h3, h4⟩ := hm
  have ll : bLenA [.scr ns] = some (.int (ns.length : Int)) := rfl
  apply_rules only [x_law]
  apply_rules [ll, h1, h3]
  refine Ws_loop (I := fun env S' => ∃ x1 x2 x3 x4 x5 x6 x7 x8 x9 x10 x11, env = [some (.scr ns), x1, x2, x3, x4, x5, x6, x7, x8, x9, x10, x11]) ⟨_, _, _, _, _, _, _, _, _, _, _, rfl⟩ (fun d hd env S' hI => ?_) (fun env S' hI => ?_)
  · obtain ⟨x1, x2, x3, x4, x5, x6, x7, x8, x9, x10, x11, rfl⟩ := hI
    obtain ⟨i, hi, rfl⟩ := rng_mem hd
    refine ⟨_, rfl, ?_⟩
    apply_rules
    refine Ws_loop (I := fun env S' => ∃ x2 x3 x4 x5 x6 x7 x8 x9 x10 x11, env = [some (.scr ns), some (.int (i : Int)), x2, x3, x4, x5, x6, x7, x8, x9, x10, x11]) ⟨_, _, _, _, _, _, _, _, _, _, rfl⟩ (fun d hd env S' hI => ?_) (fun env S' hI => ?_)
    · obtain ⟨x2, x3, x4, x5, x6, x7, x8, x9, x10, x11, rfl⟩ := hI
      obtain ⟨j, hj, rfl⟩ := rng_mem hd
      refine ⟨_, rfl, ?_⟩
      refine WX.use (l33 (lap := j) hj) fun c S9 ⟨x3, x4, x5, x6, x7, x8, x9, x10, x11, e⟩ => ?_
      subst e
      exact Lp.nx ⟨_, _, _, _, _, _, _, _, _, _, rfl⟩
    · obtain ⟨x2, x3, x4, x5, x6, x7, x8, x9, x10, x11, rfl⟩ := hI
      exact Lp.nx ⟨_, _, _, _, _, _, _, _, _, _, _, rfl⟩
  · obtain ⟨x1, x2, x3, x4, x5, x6, x7, x8, x9, x10, x11, rfl⟩ := hI
    apply_rules
    rfl
end Ro
end
open PySem
set_option maxRecDepth 100000 in
theorem PySem.Challenge.cw_roadpence_k33_whole_journeys_in_any_orde_holds : PySem.Challenge.rw_roadpence_k33_whole_journeys_in_any_orde.Holds := by
  exact Ro.law_from fun ns hl _ => Ro.law33_ok hl

import PyProof.Rows.All
import Wide.All
import OpenK.AllK
import Wide.FinOn
import HandS.ForMost
import HandS.Wide
import HandS.Exc
import HandS.TryOnly
import HandS.TryMany
import HandS.ExcOwn
import HandS.WordsExc
import HandS.ExcInit
import HandS.Lambda
import HandS.OwnEq
import HandS.TupAny
import HandS.Defaults
import HandS.HeadHook2
import HandS.MakeKw
import HandS.IsInst
import HandS.WideBits
import HandS.Zip
import HandS.Text
import KE.DataEq
import KE.DataCmp
import HandS.FStr
import HandS.RaiseMore
import PyProof.ReprRoads
import HandS.HeadHook3
import HandS.HeadHook4
import HandS.Head2
import HandS.HeadEnd
import HandS.Style
import HandS.TupSets
import HandS.Conv
import PyProof.TupleOfSeq
import HandS.Keys
import HandS.Small
import HandS.EndBits
import Wide.Once
import HandS.HotCalls
import HandS.ExcField
import HandS.ExcIs
import KE.KExcIs
import HandS.Deep
import PyProof.P3In
import HandS.NestedK
import HandS.TupMul
import HandS.More
import PyProof.InstEq
import PyProof.InstNe
import KE.KFmtOwn
import KE.GoesMore
import KE.GoesZip
import HandS.Strs
import HandS.SetFor
import KE.KStateDown
import Lean
import PyProof.StrLawsRepr
import PySem.Challenge.RW_roadpence_k13_room_under_rules
namespace PySem.RoXb
end PySem.RoXb
section
set_option maxRecDepth 100000
set_option maxHeartbeats 0
set_option Elab.async false
set_option linter.all false
namespace Ro
open PySem PySem.Spec PyProof.Rows L2 LamX PySem.RoXb
/-- isinstance: what a thing is -/
inductive Ty where
  | b (n : String) | o (c : String)
  deriving DecidableEq
end Ro
end
section
set_option maxRecDepth 100000
set_option maxHeartbeats 0
set_option Elab.async false
set_option linter.all false
namespace Ro
open PySem PySem.Spec PyProof.Rows L2 LamX PySem.RoXb
/-- is a thing of the type t one of T -/
def subTy (t T : Ty) : Bool := decide (t = T) || (decide (t = .b "bool") && decide (T = .b "int"))
end Ro
end
section
set_option maxRecDepth 100000
set_option maxHeartbeats 0
set_option Elab.async false
set_option linter.all false
namespace Ro
open PySem PySem.Spec PyProof.Rows L2 LamX PySem.RoXb
def tyV' (K : PySem.W.Frag) : Ty → Value
  | .b n => .type n
  | .o c => .ref (He.ga K (c : Str))
end Ro
end
section
set_option maxRecDepth 100000
set_option maxHeartbeats 0
set_option Elab.async false
set_option linter.all false
namespace Ro
open PySem PySem.Spec PyProof.Rows L2 LamX PySem.RoXb
structure Lw where
  glo : List String := []
  free : List String := []
  gins : List (String × Int) := []
  cls : List String := []
  noat : List (String × String) := []
  meth : List (String × String) := []
  mkr : List String := []
  isi : List String := []
  kit : List (Ty × Ty) := []
  tups : List (String × List He.Dv) := []
  defs : List He.DefD := []
  fas : List He.Fa := []
  exk : List String := []
  kix : List (String × Ty × Bool) := []
  tf : List (He.Defn × String) := []
  bs : List (PySem.W.Frag → Bool) := []
  gstrs : List (String × String) := []
end Ro
end
section
set_option maxRecDepth 100000
set_option maxHeartbeats 0
set_option Elab.async false
set_option linter.all false
namespace Ro
open PySem PySem.Spec PyProof.Rows L2 LamX PySem.RoXb
def exCB (K : PySem.W.Frag) (C : Addr) : Bool :=
  (PySem.W.clsIn K C).isSome && (decide (PySem.W.findIn K (.ref C) "__getattribute__" = some (some (.builtin "BaseException.__getattribute__"))) && ((PySem.W.findIn K (.ref C) "__getattr__").isSome && (decide (PySem.W.subIn K (.ref C) (.type "BaseException") = some true) &&
  (decide (PySem.W.findIn K (.ref C) "__class__" = some (some (.builtin "object.__class__"))) && (decide (PySem.W.specialIn K (.builtin "object.__class__") "__get__" = some (some (.builtin "getset_descriptor.__get__"))) && (decide (PySem.W.takesIn K (.builtin "object.__class__") = some true) && decide (PySem.W.mroIn K C (.type "object") = some true)))))))
end Ro
end
section
set_option maxRecDepth 100000
set_option maxHeartbeats 0
set_option Elab.async false
set_option linter.all false
namespace Ro
open PySem PySem.Spec PyProof.Rows L2 LamX PySem.RoXb
def isiB (K : PySem.W.Frag) (x : String) : Bool := (He.Fa.cls (x : Str)).ok K && (He.eqO (PySem.W.findIn K (.ref (He.ga K (x : Str))) "__class__") (some (some (.builtin "object.__class__"))) && (He.eqO (PySem.W.specialIn K (.builtin "object.__class__") "__get__") (some (some (.builtin "getset_descriptor.__get__"))) &&
  (decide (PySem.W.takesIn K (.builtin "object.__class__") = some true) && decide (PySem.W.mroIn K (He.ga K (x : Str)) (.type "object") = some true))))
end Ro
end
section
set_option maxRecDepth 100000
set_option maxHeartbeats 0
set_option Elab.async false
set_option linter.all false
namespace Ro
open PySem PySem.Spec PyProof.Rows L2 LamX PySem.RoXb
def Lw.ok (L : Lw) (K : PySem.W.Frag) : Bool :=
  L.glo.all (fun x => (He.Fa.glo (x : Str)).ok K) && (L.free.all (fun x => (He.Fa.free (x : Str)).ok K) && (L.gins.all (fun p => (He.Fa.int (p.1 : Str) p.2).ok K) && (L.cls.all (fun x => (He.Fa.cls (x : Str)).ok K) &&
  (L.noat.all (fun p => (He.Fa.noat (p.1 : Str) (p.2 : Str)).ok K) && (L.meth.all (fun p => (He.Fa.meth (p.1 : Str) (p.2 : Str)).ok K) && (L.mkr.all (fun x => (He.Fa.mkr (x : Str)).ok K) &&
  (L.isi.all (fun x => isiB K x) && (L.kit.all (fun p => decide (PySem.W.kitOne K (tyV' K p.1) (tyV' K p.2) = some (subTy p.1 p.2))) && (L.tups.all (fun p => He.tupB K (p.1 : Str) p.2) && (L.defs.all (fun d => d.ok K) &&
  (L.fas.all (fun f => f.ok K) && (L.exk.all (fun x => exCB K (He.ga K (x : Str))) && (L.kix.all (fun p => decide (PySem.W.kitOne K (.ref (He.ga K (p.1 : Str))) (tyV' K p.2.1) = some p.2.2)) && (decide ((L.tf.map fun p => (He.cT K p.1).2).Nodup) && (L.bs.all (fun b => b K) && L.gstrs.all (fun p => (He.Fa.str (p.1 : Str) (p.2 : Str)).ok K))))))))))))))))
end Ro
end
section
set_option maxRecDepth 100000
set_option maxHeartbeats 0
set_option Elab.async false
set_option linter.all false
namespace Ro
open PySem PySem.Spec PyProof.Rows L2 LamX PySem.RoXb
def hookM (n : Nat) (L : Lw) (ts : List He.Tab) : PySem.W.Hook := He.hookX n [] L.defs ts (L.tf.map (·.1)) L.ok
end Ro
end
section
set_option maxRecDepth 100000
set_option maxHeartbeats 0
set_option Elab.async false
set_option linter.all false
namespace Ro
open PySem PySem.Spec PyProof.Rows L2 LamX PySem.RoXb
def obM (n : Nat) (L : Lw) (ts : List He.Tab) (g : Addr → Option Obj) : He.AlX := He.obsX n [] L.defs ts (L.tf.map (·.1)) L.ok g
end Ro
end
section
set_option maxRecDepth 100000
set_option maxHeartbeats 0
set_option Elab.async false
set_option linter.all false
namespace Ro
open PySem PySem.Spec PyProof.Rows L2 LamX PySem.RoXb
def dcL (K : PySem.W.Frag) : List DictEntry → List (Str × He.Dv) → Bool
  | [], [] => true
  | e :: r, q :: l => e.key.isStr q.1 && (He.relB (q.2.v K) e.val && dcL K r l)
  | _, _ => false
end Ro
end
section
set_option maxRecDepth 100000
set_option maxHeartbeats 0
set_option Elab.async false
set_option linter.all false
namespace Ro
open PySem PySem.Spec PyProof.Rows L2 LamX PySem.RoXb
def dcB (K : PySem.W.Frag) (x : Str) (kvs : List (Str × He.Dv)) : Bool := match K.lookup (He.ga K x) with
  | some ⟨_, _, .dict es _, _⟩ => dcL K es.toList kvs
  | _ => false
end Ro
end
section
set_option maxRecDepth 100000
set_option maxHeartbeats 0
set_option Elab.async false
set_option linter.all false
namespace Ro
open PySem PySem.Spec PyProof.Rows L2 LamX PySem.RoXb
/-- the head's watch over tables -/
def tabsD (l : List (String × List String)) : List He.Tab := l.map fun p => (fun K => He.ga K (p.1 : Str), p.2.map fun s : String => (s : Str))
end Ro
end
section
set_option maxRecDepth 100000
set_option maxHeartbeats 0
set_option Elab.async false
set_option linter.all false
namespace Ro
open PySem PySem.Spec PyProof.Rows L2 LamX PySem.RoXb
def cnsL : List String := ["NoShare"]
end Ro
end
section
set_option maxRecDepth 100000
set_option maxHeartbeats 0
set_option Elab.async false
set_option linter.all false
namespace Ro
open PySem PySem.Spec PyProof.Rows L2 LamX PySem.RoXb
def tyX : List Ty := [.o "NoRates", .o "NoSpot", .o "NoShare", .o "NoBook", .o "NoPlace", .o "Absent", .o "Nothing", .o "NoTable", .o "NoLine", .o "NoSpending", .o "NoRule", .o "NoJourney", .o "NoText", .o "TooMany", .o "NoRate", .o "NoDay", .o "NoName", .o "NoHeads", .o "PenceError", .b "ValueError", .b "KeyError", .b "IndexError", .b "LookupError", .b "ZeroDivisionError"]
end Ro
end
section
set_option maxRecDepth 100000
set_option maxHeartbeats 0
set_option Elab.async false
set_option linter.all false
namespace Ro
open PySem PySem.Spec PyProof.Rows L2 LamX PySem.RoXb
def isxT : List (String × Ty) := [("NoShare", .o "NoShare"), ("NoShare", .o "PenceError"), ("NoShare", .b "ValueError")]
end Ro
end
section
set_option maxRecDepth 100000
set_option maxHeartbeats 0
set_option Elab.async false
set_option linter.all false
namespace Ro
open PySem PySem.Spec PyProof.Rows L2 LamX PySem.RoXb
def isx (cn : String) (t : Ty) : Bool := decide ((cn, t) ∈ isxT)
end Ro
end
section
set_option maxRecDepth 100000
set_option maxHeartbeats 0
set_option Elab.async false
set_option linter.all false
namespace Ro
open PySem PySem.Spec PyProof.Rows L2 LamX PySem.RoXb
def kv_BOUNDS : List (PySem.Str × He.Dv) := [("let", .int 0), ("cut", .int 1000000000000), ("each", .int 1000), ("hundredths", .int 100), ("refuse", .int 0)]
end Ro
end
section
set_option maxRecDepth 100000
set_option maxHeartbeats 0
set_option Elab.async false
set_option linter.all false
namespace Ro
open PySem PySem.Spec PyProof.Rows L2 LamX PySem.RoXb
def dcsL : List (String × List String) := [("BOUNDS", ["let", "cut", "each", "hundredths", "refuse"])]
end Ro
end
section
set_option maxRecDepth 100000
set_option maxHeartbeats 0
set_option Elab.async false
set_option linter.all false
namespace Ro
open PySem PySem.Spec PyProof.Rows L2 LamX PySem.RoXb
def top (i : Nat) : Stmt := (PySem.Challenge.pw_roadpence_k13_room_under_rules).main.body.getD i (.Pass ⟨0, 0, 0, 0⟩)
end Ro
end
section
set_option maxRecDepth 100000
set_option maxHeartbeats 0
set_option Elab.async false
set_option linter.all false
namespace Ro
open PySem PySem.Spec PyProof.Rows L2 LamX PySem.RoXb
def clsBody : Stmt → List Stmt
  | .ClassDef _ _ _ b _ _ _ _ _ _ _ => b
  | _ => []
end Ro
end
section
set_option maxRecDepth 100000
set_option maxHeartbeats 0
set_option Elab.async false
set_option linter.all false
namespace Ro
open PySem PySem.Spec PyProof.Rows L2 LamX PySem.RoXb
abbrev meth (i j : Nat) : Stmt := (clsBody (top i)).getD j (.Pass ⟨0, 0, 0, 0⟩)
end Ro
end
section
set_option maxRecDepth 100000
set_option maxHeartbeats 0
set_option Elab.async false
set_option linter.all false
namespace Ro
open PySem PySem.Spec PyProof.Rows L2 LamX PySem.RoXb
def d__law_box : He.DefD := ⟨("_law_box", none), "_law_box", "_law_box", defArgs (top 47), defBody (top 47), defScope (top 47), [], []⟩
end Ro
end
section
set_option maxRecDepth 100000
set_option maxHeartbeats 0
set_option Elab.async false
set_option linter.all false
namespace Ro
open PySem PySem.Spec PyProof.Rows L2 LamX PySem.RoXb
def d__law_more : He.DefD := ⟨("_law_more", none), "_law_more", "_law_more", defArgs (top 48), defBody (top 48), defScope (top 48), [], []⟩
end Ro
end
section
set_option maxRecDepth 100000
set_option maxHeartbeats 0
set_option Elab.async false
set_option linter.all false
namespace Ro
open PySem PySem.Spec PyProof.Rows L2 LamX PySem.RoXb
def d__law_take : He.DefD := ⟨("_law_take", none), "_law_take", "_law_take", defArgs (top 49), defBody (top 49), defScope (top 49), [], []⟩
end Ro
end
section
set_option maxRecDepth 100000
set_option maxHeartbeats 0
set_option Elab.async false
set_option linter.all false
namespace Ro
open PySem PySem.Spec PyProof.Rows L2 LamX PySem.RoXb
def d__law_name : He.DefD := ⟨("_law_name", none), "_law_name", "_law_name", defArgs (top 55), defBody (top 55), defScope (top 55), [], []⟩
end Ro
end
section
set_option maxRecDepth 100000
set_option maxHeartbeats 0
set_option Elab.async false
set_option linter.all false
namespace Ro
open PySem PySem.Spec PyProof.Rows L2 LamX PySem.RoXb
def d__law_bound : He.DefD := ⟨("_law_bound", none), "_law_bound", "_law_bound", defArgs (top 53), defBody (top 53), defScope (top 53), [], []⟩
end Ro
end
section
set_option maxRecDepth 100000
set_option maxHeartbeats 0
set_option Elab.async false
set_option linter.all false
namespace Ro
open PySem PySem.Spec PyProof.Rows L2 LamX PySem.RoXb
def d__law_ruled : He.DefD := ⟨("_law_ruled", none), "_law_ruled", "_law_ruled", defArgs (top 54), defBody (top 54), defScope (top 54), [], []⟩
end Ro
end
section
set_option maxRecDepth 100000
set_option maxHeartbeats 0
set_option Elab.async false
set_option linter.all false
namespace Ro
open PySem PySem.Spec PyProof.Rows L2 LamX PySem.RoXb
def d__law_rules : He.DefD := ⟨("_law_rules", none), "_law_rules", "_law_rules", defArgs (top 59), defBody (top 59), defScope (top 59), [], []⟩
end Ro
end
section
set_option maxRecDepth 100000
set_option maxHeartbeats 0
set_option Elab.async false
set_option linter.all false
namespace Ro
open PySem PySem.Spec PyProof.Rows L2 LamX PySem.RoXb
def d_Rulebook_init : He.DefD := ⟨("Rulebook", some "__init__"), "__init__", "Rulebook.__init__", defArgs (meth 45 0), defBody (meth 45 0), defScope (meth 45 0), [.non], []⟩
end Ro
end
section
set_option maxRecDepth 100000
set_option maxHeartbeats 0
set_option Elab.async false
set_option linter.all false
namespace Ro
open PySem PySem.Spec PyProof.Rows L2 LamX PySem.RoXb
def d_is_name : He.DefD := ⟨("is_name", none), "is_name", "is_name", defArgs (top 33), defBody (top 33), defScope (top 33), [], []⟩
end Ro
end
section
set_option maxRecDepth 100000
set_option maxHeartbeats 0
set_option Elab.async false
set_option linter.all false
namespace Ro
open PySem PySem.Spec PyProof.Rows L2 LamX PySem.RoXb
def d_is_deed : He.DefD := ⟨("is_deed", none), "is_deed", "is_deed", defArgs (top 34), defBody (top 34), defScope (top 34), [], []⟩
end Ro
end
section
set_option maxRecDepth 100000
set_option maxHeartbeats 0
set_option Elab.async false
set_option linter.all false
namespace Ro
open PySem PySem.Spec PyProof.Rows L2 LamX PySem.RoXb
def d_is_whole : He.DefD := ⟨("is_whole", none), "is_whole", "is_whole", defArgs (top 24), defBody (top 24), defScope (top 24), [], []⟩
end Ro
end
section
set_option maxRecDepth 100000
set_option maxHeartbeats 0
set_option Elab.async false
set_option linter.all false
namespace Ro
open PySem PySem.Spec PyProof.Rows L2 LamX PySem.RoXb
def d_is_kind : He.DefD := ⟨("is_kind", none), "is_kind", "is_kind", defArgs (top 25), defBody (top 25), defScope (top 25), [], []⟩
end Ro
end
section
set_option maxRecDepth 100000
set_option maxHeartbeats 0
set_option Elab.async false
set_option linter.all false
namespace Ro
open PySem PySem.Spec PyProof.Rows L2 LamX PySem.RoXb
def d_wrong_part : He.DefD := ⟨("wrong_part", none), "wrong_part", "wrong_part", defArgs (top 38), defBody (top 38), defScope (top 38), [], []⟩
end Ro
end
section
set_option maxRecDepth 100000
set_option maxHeartbeats 0
set_option Elab.async false
set_option linter.all false
namespace Ro
open PySem PySem.Spec PyProof.Rows L2 LamX PySem.RoXb
def d_Rule_init : He.DefD := ⟨("Rule", some "__init__"), "__init__", "Rule.__init__", defArgs (meth 39 0), defBody (meth 39 0), defScope (meth 39 0), [.str "let", .int 0, .non, .non, .int 0, .int 59, .int 0, .non], []⟩
end Ro
end
section
set_option maxRecDepth 100000
set_option maxHeartbeats 0
set_option Elab.async false
set_option linter.all false
namespace Ro
open PySem PySem.Spec PyProof.Rows L2 LamX PySem.RoXb
def d__law_made : He.DefD := ⟨("_law_made", none), "_law_made", "_law_made", defArgs (top 56), defBody (top 56), defScope (top 56), [], []⟩
end Ro
end
section
set_option maxRecDepth 100000
set_option maxHeartbeats 0
set_option Elab.async false
set_option linter.all false
namespace Ro
open PySem PySem.Spec PyProof.Rows L2 LamX PySem.RoXb
def d__law_booked : He.DefD := ⟨("_law_booked", none), "_law_booked", "_law_booked", defArgs (top 60), defBody (top 60), defScope (top 60), [], []⟩
end Ro
end
section
set_option maxRecDepth 100000
set_option maxHeartbeats 0
set_option Elab.async false
set_option linter.all false
namespace Ro
open PySem PySem.Spec PyProof.Rows L2 LamX PySem.RoXb
def d__law_spot : He.DefD := ⟨("_law_spot", none), "_law_spot", "_law_spot", defArgs (top 57), defBody (top 57), defScope (top 57), [], []⟩
end Ro
end
section
set_option maxRecDepth 100000
set_option maxHeartbeats 0
set_option Elab.async false
set_option linter.all false
namespace Ro
open PySem PySem.Spec PyProof.Rows L2 LamX PySem.RoXb
def d__law_meets : He.DefD := ⟨("_law_meets", none), "_law_meets", "_law_meets", defArgs (top 58), defBody (top 58), defScope (top 58), [], []⟩
end Ro
end
section
set_option maxRecDepth 100000
set_option maxHeartbeats 0
set_option Elab.async false
set_option linter.all false
namespace Ro
open PySem PySem.Spec PyProof.Rows L2 LamX PySem.RoXb
def d__law_whole_to : He.DefD := ⟨("_law_whole_to", none), "_law_whole_to", "_law_whole_to", defArgs (top 61), defBody (top 61), defScope (top 61), [], []⟩
end Ro
end
section
set_option maxRecDepth 100000
set_option maxHeartbeats 0
set_option Elab.async false
set_option linter.all false
namespace Ro
open PySem PySem.Spec PyProof.Rows L2 LamX PySem.RoXb
def d__law_room : He.DefD := ⟨("_law_room", none), "_law_room", "_law_room", defArgs (top 62), defBody (top 62), defScope (top 62), [], []⟩
end Ro
end
section
set_option maxRecDepth 100000
set_option maxHeartbeats 0
set_option Elab.async false
set_option linter.all false
namespace Ro
open PySem PySem.Spec PyProof.Rows L2 LamX PySem.RoXb
def d_need_share : He.DefD := ⟨("need_share", none), "need_share", "need_share", defArgs (top 37), defBody (top 37), defScope (top 37), [], []⟩
end Ro
end
section
set_option maxRecDepth 100000
set_option maxHeartbeats 0
set_option Elab.async false
set_option linter.all false
namespace Ro
open PySem PySem.Spec PyProof.Rows L2 LamX PySem.RoXb
def d_Rule_meets_spot : He.DefD := ⟨("Rule", some "meets_spot"), "meets_spot", "Rule.meets_spot", defArgs (meth 39 4), defBody (meth 39 4), defScope (meth 39 4), [], []⟩
end Ro
end
section
set_option maxRecDepth 100000
set_option maxHeartbeats 0
set_option Elab.async false
set_option linter.all false
namespace Ro
open PySem PySem.Spec PyProof.Rows L2 LamX PySem.RoXb
def d_first_met : He.DefD := ⟨("first_met", none), "first_met", "first_met", defArgs (top 42), defBody (top 42), defScope (top 42), [], []⟩
end Ro
end
section
set_option maxRecDepth 100000
set_option maxHeartbeats 0
set_option Elab.async false
set_option linter.all false
namespace Ro
open PySem PySem.Spec PyProof.Rows L2 LamX PySem.RoXb
def d_most_whole : He.DefD := ⟨("most_whole", none), "most_whole", "most_whole", defArgs (top 44), defBody (top 44), defScope (top 44), [], []⟩
end Ro
end
section
set_option maxRecDepth 100000
set_option maxHeartbeats 0
set_option Elab.async false
set_option linter.all false
namespace Ro
open PySem PySem.Spec PyProof.Rows L2 LamX PySem.RoXb
def d_Rulebook_room : He.DefD := ⟨("Rulebook", some "room"), "room", "Rulebook.room", defArgs (meth 45 10), defBody (meth 45 10), defScope (meth 45 10), [.bl true, .int 1000000], []⟩
end Ro
end
section
set_option maxRecDepth 100000
set_option maxHeartbeats 0
set_option Elab.async false
set_option linter.all false
namespace Ro
open PySem PySem.Spec PyProof.Rows L2 LamX PySem.RoXb
def d_is_spot : He.DefD := ⟨("is_spot", none), "is_spot", "is_spot", defArgs (top 35), defBody (top 35), defScope (top 35), [], []⟩
end Ro
end
section
set_option maxRecDepth 100000
set_option maxHeartbeats 0
set_option Elab.async false
set_option linter.all false
namespace Ro
open PySem PySem.Spec PyProof.Rows L2 LamX PySem.RoXb
def d_need_spot : He.DefD := ⟨("need_spot", none), "need_spot", "need_spot", defArgs (top 36), defBody (top 36), defScope (top 36), [], []⟩
end Ro
end
section
set_option maxRecDepth 100000
set_option maxHeartbeats 0
set_option Elab.async false
set_option linter.all false
namespace Ro
open PySem PySem.Spec PyProof.Rows L2 LamX PySem.RoXb
def d_Rule_pays_of : He.DefD := ⟨("Rule", some "pays_of"), "pays_of", "Rule.pays_of", defArgs (meth 39 6), defBody (meth 39 6), defScope (meth 39 6), [], []⟩
end Ro
end
section
set_option maxRecDepth 100000
set_option maxHeartbeats 0
set_option Elab.async false
set_option linter.all false
namespace Ro
open PySem PySem.Spec PyProof.Rows L2 LamX PySem.RoXb
def d_paid_by : He.DefD := ⟨("paid_by", none), "paid_by", "paid_by", defArgs (top 43), defBody (top 43), defScope (top 43), [], []⟩
end Ro
end
section
set_option maxRecDepth 100000
set_option maxHeartbeats 0
set_option Elab.async false
set_option linter.all false
namespace Ro
open PySem PySem.Spec PyProof.Rows L2 LamX PySem.RoXb
def d_Rulebook_paid_of : He.DefD := ⟨("Rulebook", some "paid_of"), "paid_of", "Rulebook.paid_of", defArgs (meth 45 9), defBody (meth 45 9), defScope (meth 45 9), [], []⟩
end Ro
end
section
set_option maxRecDepth 100000
set_option maxHeartbeats 0
set_option Elab.async false
set_option linter.all false
namespace Ro
open PySem PySem.Spec PyProof.Rows L2 LamX PySem.RoXb
def d__law_right : He.DefD := ⟨("_law_right", none), "_law_right", "_law_right", defArgs (top 63), defBody (top 63), defScope (top 63), [], []⟩
end Ro
end
section
set_option maxRecDepth 100000
set_option maxHeartbeats 0
set_option Elab.async false
set_option linter.all false
namespace Ro
open PySem PySem.Spec PyProof.Rows L2 LamX PySem.RoXb
def d__law_family : He.DefD := ⟨("_law_family", none), "_law_family", "_law_family", defArgs (top 50), defBody (top 50), defScope (top 50), [], []⟩
end Ro
end
section
set_option maxRecDepth 100000
set_option maxHeartbeats 0
set_option Elab.async false
set_option linter.all false
namespace Ro
open PySem PySem.Spec PyProof.Rows L2 LamX PySem.RoXb
def d__law_word : He.DefD := ⟨("_law_word", none), "_law_word", "_law_word", defArgs (top 51), defBody (top 51), defScope (top 51), [], []⟩
end Ro
end
section
set_option maxRecDepth 100000
set_option maxHeartbeats 0
set_option Elab.async false
set_option linter.all false
namespace Ro
open PySem PySem.Spec PyProof.Rows L2 LamX PySem.RoXb
def d__law_said : He.DefD := ⟨("_law_said", none), "_law_said", "_law_said", defArgs (top 52), defBody (top 52), defScope (top 52), [], []⟩
end Ro
end
section
set_option maxRecDepth 100000
set_option maxHeartbeats 0
set_option Elab.async false
set_option linter.all false
namespace Ro
open PySem PySem.Spec PyProof.Rows L2 LamX PySem.RoXb
def d_law : He.DefD := ⟨("law", none), "law", "law", defArgs (top 64), defBody (top 64), defScope (top 64), [], []⟩
end Ro
end
section
set_option maxRecDepth 100000
set_option maxHeartbeats 0
set_option Elab.async false
set_option linter.all false
namespace Ro
open PySem PySem.Spec PyProof.Rows L2 LamX PySem.RoXb
def lw : Lw where
  glo := ["Absent", "BOUNDS", "KINDS", "NoBook", "NoDay", "NoHeads", "NoJourney", "NoLine", "NoName", "NoPlace", "NoRate", "NoRates", "NoRule", "NoShare", "NoSpending", "NoSpot", "NoTable", "NoText", "Nothing", "PenceError", "Rule", "Rulebook", "TooMany", "_law_booked", "_law_bound", "_law_box", "_law_family", "_law_made", "_law_meets", "_law_more", "_law_name", "_law_right", "_law_room", "_law_ruled", "_law_rules", "_law_said", "_law_spot", "_law_take", "_law_whole_to", "_law_word", "first_met", "is_deed", "is_kind", "is_name", "is_spot", "is_whole", "law", "most_whole", "need_share", "need_spot", "paid_by", "wrong_part"]
  free := ["IndexError", "KeyError", "LookupError", "ValueError", "ZeroDivisionError", "abs", "all", "bool", "divmod", "enumerate", "int", "isinstance", "len", "list", "max", "min", "range", "repr", "set", "sorted", "str", "tuple", "zip"]
  gins := [("LAST_DAY", 59), ("LAST_TOWN", 3), ("MOST_LETTERS", 8), ("MOST_RULES", 8), ("MOST_SHARE", 1000000000000)]
  cls := ["Rule", "Rulebook"]
  noat := [("Rule", "bound"), ("Rule", "deed"), ("Rule", "first"), ("Rule", "kind"), ("Rule", "last"), ("Rule", "name"), ("Rule", "over"), ("Rule", "paper"), ("Rule", "town"), ("Rulebook", "own_rules")]
  meth := [("Rule", "meets_spot"), ("Rule", "pays_of"), ("Rulebook", "paid_of"), ("Rulebook", "room")]
  mkr := ["Rule", "Rulebook"]
  isi := ["Rule", "Rulebook"]
  kit := [(.b "NoneType", .b "bool"), (.b "NoneType", .b "int"), (.b "NoneType", .b "list"), (.b "NoneType", .b "str"), (.b "NoneType", .b "tuple"), (.b "NoneType", .o "Rule"), (.b "bool", .b "bool"), (.b "bool", .b "int"), (.b "bool", .b "list"), (.b "bool", .b "str"), (.b "bool", .b "tuple"), (.b "bool", .o "Rule"), (.b "dict", .b "bool"), (.b "dict", .b "int"), (.b "dict", .b "list"), (.b "dict", .b "str"), (.b "dict", .b "tuple"), (.b "dict", .o "Rule"), (.b "int", .b "bool"), (.b "int", .b "int"), (.b "int", .b "list"), (.b "int", .b "str"), (.b "int", .b "tuple"), (.b "int", .o "Rule"), (.b "list", .b "bool"), (.b "list", .b "int"), (.b "list", .b "list"), (.b "list", .b "str"), (.b "list", .b "tuple"), (.b "list", .o "Rule"), (.b "str", .b "bool"), (.b "str", .b "int"), (.b "str", .b "list"), (.b "str", .b "str"), (.b "str", .b "tuple"), (.b "str", .o "Rule"), (.b "tuple", .b "bool"), (.b "tuple", .b "int"), (.b "tuple", .b "list"), (.b "tuple", .b "str"), (.b "tuple", .b "tuple"), (.b "tuple", .o "Rule"), (.o "Rule", .b "bool"), (.o "Rule", .b "int"), (.o "Rule", .b "list"), (.o "Rule", .b "str"), (.o "Rule", .b "tuple"), (.o "Rule", .o "Rule"), (.o "Rulebook", .b "bool"), (.o "Rulebook", .b "int"), (.o "Rulebook", .b "list"), (.o "Rulebook", .b "str"), (.o "Rulebook", .b "tuple"), (.o "Rulebook", .o "Rule")]
  tups := [("KINDS", [.str "bed", .str "fee", .str "meal", .str "ride", .str "sundry"])]
  defs := [d__law_box, d__law_more, d__law_take, d__law_name, d__law_bound, d__law_ruled, d__law_rules, d_Rulebook_init, d_is_name, d_is_deed, d_is_whole, d_is_kind, d_wrong_part, d_Rule_init, d__law_made, d__law_booked, d__law_spot, d__law_meets, d__law_whole_to, d__law_room, d_need_share, d_Rule_meets_spot, d_first_met, d_most_whole, d_Rulebook_room, d_is_spot, d_need_spot, d_Rule_pays_of, d_paid_by, d_Rulebook_paid_of, d__law_right, d__law_family, d__law_word, d__law_said, d_law]
  gstrs := [("LETTERS", "abcdefghijklmnopqrstuvwxyz")]
  bs := [fun K => dcB K ("BOUNDS" : PySem.Str) kv_BOUNDS]
  fas := [.exc "NoShare", .exm "NoShare" "PenceError" true]
  exk := cnsL
  kix := cnsL.flatMap fun cn => tyX.map fun t => (cn, t, isx cn t)
  tf := [(("law", none), "law.<locals>.")]
end Ro
end
section
set_option maxRecDepth 100000
set_option maxHeartbeats 0
set_option Elab.async false
set_option linter.all false
namespace Ro
open PySem PySem.Spec PyProof.Rows L2 LamX PySem.RoXb
abbrev RW : PySem.W.OpenRow := PySem.W.OpenLaw.row PySem.Challenge.rw_roadpence_k13_room_under_rules
end Ro
end
section
set_option maxRecDepth 100000
set_option maxHeartbeats 0
set_option Elab.async false
set_option linter.all false
namespace Ro
open PySem PySem.Spec PyProof.Rows L2 LamX PySem.RoXb
abbrev qv : Program := PySem.W.view RW.prog [64]
end Ro
end
section
set_option maxRecDepth 100000
set_option maxHeartbeats 0
set_option Elab.async false
set_option linter.all false
namespace Ro
open PySem PySem.Spec PyProof.Rows L2 LamX PySem.RoXb
def nms0 : List PySem.Str := ["_wall", "PenceError", "NoRates", "NoSpot", "NoShare", "NoBook", "NoPlace", "Absent", "Nothing", "NoTable", "NoLine", "NoSpending", "NoRule", "NoJourney", "NoText", "TooMany", "NoRate", "NoDay", "NoName", "NoHeads", "KINDS", "LAST_DAY", "is_whole", "is_kind", "option", "LAST_TOWN", "MOST_SHARE", "LETTERS", "MOST_LETTERS", "BOUNDS"]
end Ro
end
section
set_option maxRecDepth 100000
set_option maxHeartbeats 0
set_option Elab.async false
set_option linter.all false
namespace Ro
open PySem PySem.Spec PyProof.Rows L2 LamX PySem.RoXb
def nms1 : List PySem.Str := ["is_name", "is_deed", "is_spot", "need_spot", "need_share", "wrong_part", "Rule", "MOST_RULES", "first_met", "paid_by", "most_whole", "Rulebook", "_law_box", "_law_more", "_law_take", "_law_family", "_law_word", "_law_said", "_law_bound", "_law_ruled", "_law_name", "_law_made", "_law_spot", "_law_meets", "_law_rules", "_law_booked", "_law_whole_to", "_law_room", "_law_right"]
end Ro
end
section
set_option maxRecDepth 100000
set_option maxHeartbeats 0
set_option Elab.async false
set_option linter.all false
namespace Ro
open PySem PySem.Spec PyProof.Rows L2 LamX PySem.RoXb
def nms : List PySem.Str := nms0 ++ nms1
end Ro
end
section
set_option maxRecDepth 100000
set_option maxHeartbeats 0
set_option Elab.async false
set_option linter.all false
namespace Ro
open PySem PySem.Spec PyProof.Rows L2 LamX PySem.RoXb
def tsL : List He.Tab := tabsD dcsL
end Ro
end
section
set_option maxRecDepth 100000
set_option maxHeartbeats 0
set_option Elab.async false
set_option linter.all false
namespace Ro
open PySem PySem.Spec PyProof.Rows L2 LamX PySem.RoXb
abbrev hk : PySem.W.Hook := hookM 5 lw tsL
end Ro
end
section
set_option maxRecDepth 100000
set_option maxHeartbeats 0
set_option Elab.async false
set_option linter.all false
namespace Ro
open PySem PySem.Spec PyProof.Rows L2 LamX PySem.RoXb
def ob (s : PySem.W.SharedT) : He.AlX := obM 5 lw tsL (HandSHeadRun.getT s)
end Ro
end
section
set_option maxRecDepth 100000
set_option maxHeartbeats 0
set_option Elab.async false
set_option linter.all false
namespace Ro
open PySem PySem.Spec PyProof.Rows L2 LamX PySem.RoXb
theorem runF (w : World) : HandSHeadRun.RunEq RW qv hk ob 30000 nms (w.withFollow "special-get-raises" false) := fun os => by kernel_rfl
end Ro
end
section
set_option maxRecDepth 100000
set_option maxHeartbeats 0
set_option Elab.async false
set_option linter.all false
namespace Ro
open PySem PySem.Spec PyProof.Rows L2 LamX PySem.RoXb
theorem runT (w : World) : HandSHeadRun.RunEq RW qv hk ob 30000 nms (w.withFollow "special-get-raises" true) := fun os => by kernel_rfl
end Ro
end
section
set_option linter.all false
namespace Ro
open PySem
inductive D where
  | non | bl (b : Bool) | int (i : Int) | str (s : Str)
  | tup (l : List D) | lst (l : List D) | dct (l : List (D × D))
  | obj (c : String) (fs : List D)
  | scr (l : List Int) | ref (n : Nat) | fn (x : String) | thk (k : Nat) (caps : List D)
  deriving Inhabited
inductive Cell where
  | dead | lst (l : List D) | dct (l : List (D × D)) | ins (c : String) (fs : List (String × D)) | dcT (l : List (List Int × D))
  deriving Inhabited
abbrev Store := List Cell
inductive R (α : Type) where
  | ok (a : α) (S : Store) | err (c : String) (fs : List D) (S : Store) | bad
def R.bnd {α β : Type} : R α → (α → Store → R β) → R β
  | .ok a S, f => f a S
  | .err c fs S, _ => .err c fs S
  | .bad, _ => .bad
@[simp] theorem bnd_ok {α β : Type} (a : α) (S : Store) (f : α → Store → R β) : (R.ok a S).bnd f = f a S := rfl
@[simp] theorem bnd_err {α β : Type} (c : String) (fs : List D) (S : Store) (f : α → Store → R β) : (R.err c fs S : R α).bnd f = .err c fs S := rfl
@[simp] theorem bnd_bad {α β : Type} (f : α → Store → R β) : (R.bad : R α).bnd f = .bad := rfl
/-- an option as a result -/
def lift {α : Type} (o : Option α) (S : Store) : R α := match o with
  | some a => .ok a S
  | none => .bad
@[simp] theorem lift_some {α : Type} (a : α) (S : Store) : lift (some a) S = .ok a S := rfl
@[simp] theorem lift_none {α : Type} (S : Store) : lift (none : Option α) S = .bad := rfl
abbrev LINE : Nat := 16777216
mutual
def pyEq : D → D → Bool
  | .non, .non => true
  | .bl a, .bl b => a == b
  | .bl a, .int j => decide ((if a then 1 else 0) = j)
  | .int i, .bl b => decide (i = (if b then 1 else 0))
  | .int i, .int j => decide (i = j)
  | .str s, .str t => decide (s = t)
  | .tup l, .tup m => pyEqs l m
  | .lst l, .lst m => pyEqs l m
  | .dct l, .dct m => l.length == m.length && pySub l m
  | .obj c l, .obj d m => c == d && pyEqs l m
  | _, _ => false
def pyEqs : List D → List D → Bool
  | [], [] => true
  | x :: l, y :: m => pyEq x y && pyEqs l m
  | _, _ => false
def pySub : List (D × D) → List (D × D) → Bool
  | [], _ => true
  | (k, v) :: l, m => (match m.find? (fun p => pyEq k p.1) with
     | some p => pyEq v p.2
     | none => false) && pySub l m
end
abbrev Env := List (Option D)
abbrev EX := Env → Store → R D
abbrev BX := Env → Store → R Bool
abbrev AX := Env → Store → R (List D)
inductive Ctl where
  | nx (e : Env) | rt (d : D) | bk (e : Env) | ct (e : Env)
abbrev ES := Env → Store → R Ctl
abbrev Fn := List D → Store → R D
def eVar (i : Nat) : EX := fun env S => match env[i]? with
  | some (some d) => .ok d S
  | _ => .bad
def eC (d : D) : EX := fun _ S => .ok d S
def eOp (op : D → D → Option D) (a b : EX) : EX := fun env S => (a env S).bnd fun x S1 => (b env S1).bnd fun y S2 => lift (op x y) S2
def eUn (op : D → Option D) (a : EX) : EX := fun env S => (a env S).bnd fun x S1 => lift (op x) S1
def aNil : AX := fun _ S => .ok [] S
def aCons (a : EX) (r : AX) : AX := fun env S => (a env S).bnd fun x S1 => (r env S1).bnd fun xs S2 => .ok (x :: xs) S2
/-- how a call's values are put: from the written ones (0), the defaults (1), the keywords' (2) -/
def pick {α : Type} (pk : List (Nat × Nat)) (us its ws : List α) : List α := pk.flatMap fun q => ((if q.1 = 0 then us else if q.1 = 1 then its else ws)[q.2]?).toList
def eTup (a : AX) : EX := fun env S => (a env S).bnd fun xs S1 => if xs.length ≤ LINE then .ok (.tup xs) S1 else .bad
def eLst (a : AX) : EX := fun env S => (a env S).bnd fun xs S1 => if xs.length ≤ LINE then .ok (.lst xs) S1 else .bad
/-- a list that will be changed -/
def eLstM (a : AX) : EX := fun env S => (a env S).bnd fun xs S1 => if xs.length ≤ LINE then .ok (.ref S1.length) (S1 ++ [.lst xs]) else .bad
def truth : D → Option Bool
  | .non => some false
  | .bl b => some b
  | .int i => some (decide (i ≠ 0))
  | .str s => if s.length ≤ LINE then some (decide (s.length ≠ 0)) else none
  | .tup l => some (!l.isEmpty)
  | .lst l => some (!l.isEmpty)
  | .dct l => some (!l.isEmpty)
  | _ => none
/-- an expression's truth -/
def bOf (a : EX) : BX := fun env S => (a env S).bnd fun x S1 => lift (truth x) S1
/-- an expression that is a bool, as a test -/
def bVal (a : EX) : BX := fun env S => (a env S).bnd fun x S1 => match x with
  | .bl b => .ok b S1
  | _ => .bad
def bAnd (a b : BX) : BX := fun env S => (a env S).bnd fun c S1 => if c then b env S1 else .ok false S1
def bOr (a b : BX) : BX := fun env S => (a env S).bnd fun c S1 => if c then .ok true S1 else b env S1
def bNot (a : BX) : BX := fun env S => (a env S).bnd fun c S1 => .ok (!c) S1
/-- .. as values, all but the last a bool -/
def eAnd (a b : EX) : EX := fun env S => (a env S).bnd fun x S1 => match x with
  | .bl c => if c then b env S1 else .ok (.bl false) S1
  | _ => .bad
def eOr (a b : EX) : EX := fun env S => (a env S).bnd fun x S1 => match x with
  | .bl c => if c then .ok (.bl true) S1 else b env S1
  | _ => .bad
def eNot (a : EX) : EX := fun env S => (a env S).bnd fun x S1 => match x with
  | .bl c => .ok (.bl (!c)) S1
  | _ => .bad
def eIf (c : BX) (a b : EX) : EX := fun env S => (c env S).bnd fun k S1 => if k then a env S1 else b env S1
/-- a op b op' c -/
def eChain (op op' : D → D → Option D) (a b c : EX) : EX := fun env S => (a env S).bnd fun x S1 => (b env S1).bnd fun y S2 => match op x y with
  | some (.bl true) => (c env S2).bnd fun z S3 => lift (op' y z) S3
  | some (.bl false) => .ok (.bl false) S2
  | _ => .bad
def addD : D → D → Option D
  | .int i, .int j => some (.int (i + j))
  | .str s, .str t => if s.length + t.length ≤ LINE then some (.str (s ++ t)) else none
  | .tup l, .tup m => if l.length + m.length ≤ LINE then some (.tup (l ++ m)) else none
  | .lst l, .lst m => if l.length + m.length ≤ LINE then some (.lst (l ++ m)) else none
  | _, _ => none
def subD : D → D → Option D
  | .int i, .int j => some (.int (i - j))
  | _, _ => none
def mulOk (i j : Int) : Bool := decide (i.natAbs.log2 + j.natAbs.log2 < 1000000)
def mulD : D → D → Option D
  | .int i, .int j => if mulOk i j then some (.int (i * j)) else none
  | _, _ => none
def fdivD : D → D → Option D
  | .int i, .int j => if 0 < j ∧ j.natAbs.log2 < 9000 then some (.int (i / j)) else none
  | _, _ => none
def modD : D → D → Option D
  | .int i, .int j => if 0 < j then some (.int (i % j)) else none
  | _, _ => none
def powD : D → D → Option D
  | .int i, .int j => if 0 ≤ j ∧ j ≤ 1000000 ∧ i.natAbs < 2 ^ 64 then some (.int (i ^ j.toNat)) else none
  | _, _ => none
def negD : D → Option D
  | .int i => some (.int (-i))
  | _ => none
def leD : D → D → Option D
  | .int i, .int j => some (.bl (decide (i ≤ j)))
  | _, _ => none
def gtD : D → D → Option D
  | .int i, .int j => some (.bl (decide (j < i)))
  | _, _ => none
def isNonD : D → Bool
  | .non => true
  | _ => false
def isND (x y : D) : Option D := if isNonD y then some (.bl (isNonD x)) else none
def notND (x y : D) : Option D := if isNonD y then some (.bl (!isNonD x)) else none
/-- the place of an index -/
def pyIx (n : Nat) (i : Int) : Option Nat := if 0 ≤ i then (if i < n then some i.toNat else none) else if -(n : Int) ≤ i then some (i + n).toNat else none
def atP {α : Type} (xs : List α) (i : Int) : Option α := (pyIx xs.length i).bind fun j => xs[j]?
def idxD : D → D → Option D
  | .tup l, .int i => atP l i
  | .lst l, .int i => atP l i
  | .scr l, .int i => (atP l i).map D.int
  | .str s, .int i => if s.length ≤ LINE then (atP s.cps.toList i).map fun c => .str ⟨#[c]⟩ else none
  | _, _ => none
/-- .. of a changing list -/
def idxM (x y : D) (S : Store) : Option D := match x, y with
  | .ref n, .int i => (match S[n]? with
    | some (.lst l) => atP l i
    | _ => none)
  | _, _ => none
def eIdx (a b : EX) : EX := eOp idxD a b
def eIdxM (a b : EX) : EX := fun env S => (a env S).bnd fun x S1 => (b env S1).bnd fun y S2 => lift (idxM x y S2) S2
/-- o[i] = v, o a changing list -/
def setM (x y v : D) (S : Store) : Option Store := match x, y with
  | .ref n, .int i => (match S[n]? with
    | some (.lst l) => (pyIx l.length i).map fun j => S.set n (.lst (l.set j v))
    | _ => none)
  | _, _ => none
def sSetIt (o i v : EX) : ES := fun env S => (v env S).bnd fun z S1 => (o env S1).bnd fun x S2 => (i env S2).bnd fun y S3 => match setM x y z S3 with
  | some S4 => .ok (.nx env) S4
  | none => .bad
/-- the ends of a slice -/
def cutI (n d : Nat) : Option Int → Nat
  | none => d
  | some i => if i < 0 then (i + n).toNat else min i.toNat n
def cutL {α : Type} (xs : List α) (lo hi : Option Int) : List α := (xs.drop (cutI xs.length 0 lo)).take (cutI xs.length xs.length hi - cutI xs.length 0 lo)
def cutD (x : D) (lo hi : Option Int) : Option D := match x with
  | .tup l => some (.tup (cutL l lo hi))
  | .lst l => some (.lst (cutL l lo hi))
  | .str s => if s.length ≤ LINE then some (.str ⟨(cutL s.cps.toList lo hi).toArray⟩) else none
  | _ => none
/-- a part of a slice -/
abbrev OX := Env → Store → R (Option Int)
def oNone : OX := fun _ S => .ok none S
def oSome (a : EX) : OX := fun env S => (a env S).bnd fun x S1 => match x with
  | .int i => .ok (some i) S1
  | _ => .bad
def eCut (a : EX) (lo hi : OX) : EX := fun env S => (a env S).bnd fun x S1 => (lo env S1).bnd fun l S2 => (hi env S2).bnd fun h S3 => lift (cutD x l h) S3
def tyD : D → Store → Option Ty
  | .non, _ => some (.b "NoneType")
  | .bl _, _ => some (.b "bool")
  | .int _, _ => some (.b "int")
  | .str _, _ => some (.b "str")
  | .tup _, _ => some (.b "tuple")
  | .lst _, _ => some (.b "list")
  | .scr _, _ => some (.b "list")
  | .dct _, _ => some (.b "dict")
  | .obj c _, _ => some (.o c)
  | .ref n, S => match S[n]? with
    | some (.lst _) => some (.b "list")
    | some (.dct _) => some (.b "dict")
    | some (.ins c _) => some (.o c)
    | _ => none
  | _, _ => none
/-- tys: those that are looked at -/
def eIsI (tys : List Ty) (Tt : Ty) (a : EX) : EX := fun env S => (a env S).bnd fun x S1 => match tyD x S1 with
  | some t => if tys.contains t then .ok (.bl (subTy t Tt)) S1 else .bad
  | none => .bad
def lenD : D → Option D
  | .tup l => some (.int l.length)
  | .lst l => some (.int l.length)
  | .scr l => some (.int l.length)
  | .str s => if s.length ≤ LINE then some (.int s.length) else none
  | .dct l => some (.int l.length)
  | _ => none
def sSet (i : Nat) (e : EX) : ES := fun env S => (e env S).bnd fun d S1 => .ok (.nx (env.set i (some d))) S1
def sSeq (s t : ES) : ES := fun env S => (s env S).bnd fun c S1 => match c with
  | .nx e => t e S1
  | c => .ok c S1
def sPass : ES := fun env S => .ok (.nx env) S
def sIf (c : BX) (s t : ES) : ES := fun env S => (c env S).bnd fun k S1 => if k then s env S1 else t env S1
def sRet (e : EX) : ES := fun env S => (e env S).bnd fun d S1 => .ok (.rt d) S1
def sExpr (e : EX) : ES := fun env S => (e env S).bnd fun _ S1 => .ok (.nx env) S1
def sRaise (c : String) (a : AX) : ES := fun env S => (a env S).bnd fun fs S1 => .err c fs S1
abbrev Pat := D → Env → Option Env
def pName (i : Nat) : Pat := fun d env => some (env.set i (some d))
def pNil : List D → Env → Option Env := fun ds env => match ds with
  | [] => some env
  | _ => none
def pCons (p : Pat) (r : List D → Env → Option Env) : List D → Env → Option Env := fun ds env => match ds with
  | d :: ds => (p d env).bind fun e => r ds e
  | [] => none
def pTup (r : List D → Env → Option Env) : Pat := fun d env => match d with
  | .tup l => r l env
  | _ => none
def sUnp (p : Pat) (e : EX) : ES := fun env S => (e env S).bnd fun d S1 => match p d env with
  | some env' => .ok (.nx env') S1
  | none => .bad
def loop (tg : Pat) (body : ES) : List D → ES
  | [], env, S => .ok (.nx env) S
  | x :: xs, env, S => match tg x env with
    | none => .bad
    | some env1 => (body env1 S).bnd fun c S1 => match c with
      | .nx e => loop tg body xs e S1
      | .ct e => loop tg body xs e S1
      | .bk e => .ok (.nx e) S1
      | .rt d => .ok (.rt d) S1
def sFor (it : AX) (tg : Pat) (body : ES) : ES := fun env S => (it env S).bnd fun xs S1 => loop tg body xs env S1
/-- what raises is not told -/
def R.nox {α : Type} : R α → R α
  | .ok a S => .ok a S
  | _ => .bad
@[simp] theorem nox_ok {α : Type} (a : α) (S : Store) : (R.ok a S).nox = .ok a S := rfl
def lcLoop (tg : Pat) (c : BX) (el : EX) (env : Env) : List D → List D → Store → R (List D)
  | [], acc, S => .ok acc S
  | x :: xs, acc, S => match tg x env with
    | none => .bad
    | some env1 => (c env1 S).nox.bnd fun k S1 => if k then (el env1 S1).nox.bnd fun y S2 => if acc.length < LINE then lcLoop tg c el env xs (acc ++ [y]) S2 else .bad else lcLoop tg c el env xs acc S1
def bYes : BX := fun _ S => .ok true S
/-- a comprehension: vs the slots of its own names -/
def wipeE (env : Env) : List Nat → Env
  | [] => env
  | v :: vs => (wipeE env vs).set v none
def eLC (vs : List Nat) (it : AX) (tg : Pat) (c : BX) (el : EX) : EX := fun env S => (it env S).bnd fun xs S1 => (lcLoop tg c el (wipeE env vs) xs [] S1).bnd fun ys S2 => .ok (.lst ys) S2
/-- a def's body -/
def fnM (n : Nat) (body : ES) : Fn := fun ds S => (body (ds.map some ++ List.replicate (n - ds.length) none) S).bnd fun c S1 => match c with
  | .rt d => .ok d S1
  | .nx _ => .ok .non S1
  | _ => .bad
theorem ofString_inj {s t : String} : Str.ofString s = Str.ofString t ↔ s = t := by
  constructor
  · intro h
    rw [Str.ofString_eq_toList, Str.ofString_eq_toList] at h
    have h1 := congrArg Str.cps h
    have h2 : s.toList.map Char.toNat = t.toList.map Char.toNat := by simpa using h1
    have key : ∀ {l m : List Char}, l.map Char.toNat = m.map Char.toNat → l = m := by
      intro l
      induction l with
      | nil => intro m e; cases m with
        | nil => rfl
        | cons _ _ => cases e
      | cons a l ih => intro m e; cases m with
        | nil => cases e
        | cons b m =>
          rw [List.map_cons, List.map_cons] at e
          injection e with e1 e2
          rw [Char.toNat_inj.mp e1, ih e2]
    exact String.toList_inj.mp (key h2)
  · rintro rfl; rfl
def setF (f : String) (v : D) : List (String × D) → List (String × D)
  | [] => [(f, v)]
  | (g, u) :: r => if g = f then (f, v) :: r else (g, u) :: setF f v r
/-- a value's attribute: cs the classes that have it -/
def attrD (cf : String → List String) (cs : List String) (f : String) : D → Store → Option D
  | .obj c fs, _ => if cs.contains c then ((cf c).zip fs).lookup f else none
  | .ref n, S => match S[n]? with
    | some (.ins c fs) => if cs.contains c then fs.lookup f else none
    | _ => none
  | _, _ => none
def eAttr (cf : String → List String) (cs : List String) (f : String) (a : EX) : EX := fun env S => (a env S).bnd fun x S1 => lift (attrD cf cs f x S1) S1
/-- o.f = v, o a changing thing -/
def sSetAttr (cs : List String) (f : String) (o v : EX) : ES := fun env S => (v env S).bnd fun y S1 => (o env S1).bnd fun x S2 => match x with
  | .ref n => match S2[n]? with
    | some (.ins c fs) => if cs.contains c && decide (fs.length < 1000) then .ok (.nx env) (S2.set n (.ins c (setF f y fs))) else .bad
    | _ => .bad
  | _ => .bad
/-- is it a thing of the class c, without a field m -/
def isInst (cf : String → List String) (c m : String) (x : D) (S : Store) : Bool := match x with
  | .obj c' _ => c' == c && !(cf c).contains m
  | .ref n => match S[n]? with
    | some (.ins c' fs) => c' == c && (fs.lookup m).isNone
    | _ => false
  | _ => false
/-- o.m(..) -/
def eMeth (cf : String → List String) (c mn : String) (m : List D → List D → Store → R D) (o : EX) (fa fk : AX) : EX := fun env S => (o env S).bnd fun x S1 => if isInst cf c mn x S1 then (fa env S1).bnd fun xs S2 => (fk env S2).bnd fun zs S3 => m (x :: xs) zs S3 else .bad
/-- C(..): a new thing -/
def newM (c : String) (m : List D → List D → Store → R D) (xs zs : List D) (S : Store) : R D := (m (.ref S.length :: xs) zs (S ++ [.ins c []])).bnd fun r S1 => match r with
  | .non => .ok (.ref S.length) S1
  | _ => .bad
/-- .. that stands still from then on -/
def frzM (cf : String → List String) (r : R D) : R D := r.bnd fun x S => match x with
  | .ref n => match S[n]? with
    | some (.ins c fs) => if fs.map (·.1) = cf c then .ok (.obj c (fs.map (·.2))) (S.set n .dead) else .bad
    | some (.lst l) => .ok (.lst l) (S.set n .dead)
    | some (.dct l) => .ok (.dct l) (S.set n .dead)
    | _ => .bad
  | _ => .bad
/-- an expression's value stands still from now on -/
def eFrz (cf : String → List String) (a : EX) : EX := fun env S => frzM cf (a env S)
/-- built-ins by values -/
def eB (m : List D → Option D) (fa : AX) : EX := fun env S => (fa env S).bnd fun xs S1 => lift (m xs) S1
def bLen : List D → Option D
  | [x] => lenD x
  | _ => none
def bAbs : List D → Option D
  | [.int i] => some (.int (if i < 0 then -i else i))
  | _ => none
def bMax2 : List D → Option D
  | [.int i, .int j] => some (.int (if j > i then j else i))
  | _ => none
def bMin2 : List D → Option D
  | [.int i, .int j] => some (.int (if j < i then j else i))
  | _ => none
def bList : List D → Option D
  | [.tup l] => some (.lst l)
  | [.lst l] => some (.lst l)
  | _ => none
def divOk (j : Int) : Bool := decide (0 < j ∧ j < 1152921504606846976)
def bDivmod : List D → Option D
  | [.int i, .int j] => if divOk j then some (.tup [.int (i / j), .int (i % j)]) else none
  | _ => none
/-- l.append(x) -/
def appM (l x : D) (S : Store) : Option Store := match l with
  | .ref n => (match S[n]? with
    | some (.lst xs) => if xs.length < LINE then some (S.set n (.lst (xs ++ [x]))) else none
    | _ => none)
  | _ => none
def eApp (o : EX) (x : EX) : EX := fun env S => (o env S).bnd fun l S1 => if tyD l S1 = some (.b "list") then (x env S1).bnd fun y S2 => match appM l y S2 with
  | some S3 => .ok .non S3
  | none => .bad else .bad
end Ro
end
section
set_option Elab.async false
set_option linter.all false
set_option maxRecDepth 100000
set_option maxHeartbeats 4000000
namespace Ro
open PySem PySem.Spec PyProof.Rows L2
abbrev St := L2.St
structure Wd where
  G : Hp
  am : List Addr
  hid : List (Addr × List D) := []
/-- the exception in hand: where it lies, its dict, its class -/
structure XC where
  a : Addr
  dx : Option Addr
  c : String
/-- what is told of the text -/
structure Tb where
  K : PySem.W.Frag
  cf : String → List String
  tabs : List (Addr × Str)
  xc : Option XC := none
mutual
inductive Rep (T : Tb) (w : Wd) : D → V → Prop
  | non : Rep T w .non .non
  | bl (b : Bool) : Rep T w (.bl b) (.bl b)
  | int (i : Int) : Rep T w (.int i) (.int i)
  | str (s : Str) : Rep T w (.str s) (.str s)
  | tup {l : List D} {a : Addr} {vs : List V} (h : SqT T.K w.G a vs) (r : Reps T w l vs) : Rep T w (.tup l) (.ref a)
  | scr {l : List Int} {a : Addr} (h : SqL T.K w.G a (l.map V.int)) : Rep T w (.scr l) (.ref a)
  | lst {l : List D} {a : Addr} {vs : List V} (h : w.G a = some (.lst vs)) (r : Reps T w l vs) : Rep T w (.lst l) (.ref a)
  | dct {l : List (D × D)} {a : Addr} {kvs : List (Key × V)} (h : w.G a = some (.dK kvs)) (r : RepK T w l kvs) : Rep T w (.dct l) (.ref a)
  | obj {c : String} {l : List D} {a dx : Addr} {fs : List (Str × V)} (h : w.G a = some (.ins (He.ga T.K (c : Str)) dx fs)) (n : fs.map (·.1) = (T.cf c).map Str.ofString) (r : Reps T w l (fs.map (·.2))) : Rep T w (.obj c l) (.ref a)
  | ref {n : Nat} {a : Addr} (h : w.am[n]? = some a) : Rep T w (.ref n) (.ref a)
  | fn (x : String) : Rep T w (.fn x) (.ref (He.ga T.K (x : Str)))
  | xc0 {z : XC} (h : T.xc = some z) (hd : z.dx = none) : Rep T w (.thk 0 []) (.ref z.a)
  | xc1 {z : XC} {dd : Addr} {gs : List (Str × V)} {l : List D} (h : T.xc = some z) (hd : z.dx = some dd) (g : w.G dd = some (.xd gs)) (ex : ∀ f ∈ T.cf z.c, ∃ v, gs.lookup (Str.ofString f) = some v) (r : Reps T w l ((T.cf z.c).map fun f : String => (gs.lookup (Str.ofString f)).getD .non)) : Rep T w (.thk 0 l) (.ref z.a)
inductive Reps (T : Tb) (w : Wd) : List D → List V → Prop
  | nil : Reps T w [] []
  | cons {d : D} {v : V} {l : List D} {vs : List V} (h : Rep T w d v) (r : Reps T w l vs) : Reps T w (d :: l) (v :: vs)
inductive RepK (T : Tb) (w : Wd) : List (D × D) → List (Key × V) → Prop
  | nil : RepK T w [] []
  | int {i : Int} {d : D} {v : V} {l : List (D × D)} {vs : List (Key × V)} (h : Rep T w d v) (r : RepK T w l vs) : RepK T w ((.int i, d) :: l) ((.inl i, v) :: vs)
  | str {s : Str} {d : D} {v : V} {l : List (D × D)} {vs : List (Key × V)} (h : Rep T w d v) (r : RepK T w l vs) : RepK T w ((.str s, d) :: l) ((.inr s, v) :: vs)
end
/-- the world has grown; the lists that are being made stay -/
structure Wd.sb (w w' : Wd) : Prop where
  G : ∀ a o, w.G a = some o → w'.G a = some o
  am : ∃ t, w'.am = w.am ++ t
structure Wd.le (w w' : Wd) : Prop where
  tosb : w.sb w'
  hid : w'.hid = w.hid
theorem Wd.sb.trans {w w1 w2 : Wd} (a : w.sb w1) (b : w1.sb w2) : w.sb w2 := ⟨fun c o h => b.G c o (a.G c o h), by
  obtain ⟨t, e⟩ := a.am
  obtain ⟨u, e'⟩ := b.am
  exact ⟨t ++ u, by rw [e', e, List.append_assoc]⟩⟩
theorem Wd.le.refl (w : Wd) : w.le w := ⟨⟨fun _ _ h => h, [], by simp⟩, rfl⟩
theorem Wd.le.trans {w w1 w2 : Wd} (a : w.le w1) (b : w1.le w2) : w.le w2 := ⟨a.tosb.trans b.tosb, b.hid.trans a.hid⟩
theorem Wd.sb.at {w w' : Wd} (h : w.sb w') {n : Nat} {a : Addr} (e : w.am[n]? = some a) : w'.am[n]? = some a := by
  obtain ⟨t, q⟩ := h.am
  have hl := (List.getElem?_eq_some_iff.mp e).1
  rw [q, List.getElem?_append_left hl]
  exact e
theorem rd_le {w w' : Wd} (h : w.sb w') {a : Addr} {u : HO} (r : Rd w.G a u) : Rd w'.G a u := r.elim (fun r => .inl (h.G _ _ r)) fun ⟨o, r⟩ => .inr ⟨o, h.G _ _ r⟩
theorem sqt_le {K : PySem.W.Frag} {w w' : Wd} (h : w.sb w') {a : Addr} {xs : List V} (r : SqT K w.G a xs) : SqT K w'.G a xs := r.elim (fun r => .inl (rd_le h r)) .inr
theorem sql_le {K : PySem.W.Frag} {w w' : Wd} (h : w.sb w') {a : Addr} {xs : List V} (r : SqL K w.G a xs) : SqL K w'.G a xs := r.elim (fun r => .inl (rd_le h r)) .inr
theorem Wd.le.app (w : Wd) (p : Addr) : w.le ⟨w.G, w.am ++ [p], w.hid⟩ := ⟨⟨fun _ _ h => h, [p], rfl⟩, rfl⟩
mutual
theorem Rep.monoS {T : Tb} {w w' : Wd} (h : w.sb w') : ∀ {d : D} {v : V}, Rep T w d v → Rep T w' d v
  | _, _, .non => .non
  | _, _, .bl b => .bl b
  | _, _, .int i => .int i
  | _, _, .str s => .str s
  | _, _, .tup q r => .tup (sqt_le h q) (r.monoS h)
  | _, _, .scr q => .scr (sql_le h q)
  | _, _, .lst q r => .lst (h.G _ _ q) (r.monoS h)
  | _, _, .dct q r => .dct (h.G _ _ q) (r.monoS h)
  | _, _, .obj q n r => .obj (h.G _ _ q) n (r.monoS h)
  | _, _, .ref q => .ref (h.at q)
  | _, _, .fn x => .fn x
  | _, _, .xc0 q hd => .xc0 q hd
  | _, _, .xc1 q hd g ex r => .xc1 q hd (h.G _ _ g) ex (r.monoS h)
theorem Reps.monoS {T : Tb} {w w' : Wd} (h : w.sb w') : ∀ {l : List D} {vs : List V}, Reps T w l vs → Reps T w' l vs
  | _, _, .nil => .nil
  | _, _, .cons q r => .cons (q.monoS h) (r.monoS h)
theorem RepK.monoS {T : Tb} {w w' : Wd} (h : w.sb w') : ∀ {l : List (D × D)} {vs : List (Key × V)}, RepK T w l vs → RepK T w' l vs
  | _, _, .nil => .nil
  | _, _, .int q r => .int (q.monoS h) (r.monoS h)
  | _, _, .str q r => .str (q.monoS h) (r.monoS h)
end
theorem Rep.mono {T : Tb} {w w' : Wd} (h : w.le w') {d : D} {v : V} (r : Rep T w d v) : Rep T w' d v := r.monoS h.tosb
theorem Reps.mono {T : Tb} {w w' : Wd} (h : w.le w') {d : List D} {v : List V} (r : Reps T w d v) : Reps T w' d v := r.monoS h.tosb
theorem RepK.mono {T : Tb} {w w' : Wd} (h : w.le w') {d : List (D × D)} {v : List (Key × V)} (r : RepK T w d v) : RepK T w' d v := r.monoS h.tosb
theorem Reps.length {T : Tb} {w : Wd} : ∀ {l : List D} {vs : List V}, Reps T w l vs → l.length = vs.length
  | _, _, .nil => rfl
  | _, _, .cons _ r => by rw [List.length_cons, List.length_cons, r.length]
theorem Reps.get {T : Tb} {w : Wd} : ∀ {l : List D} {vs : List V} {i : Nat} {d : D}, Reps T w l vs → l[i]? = some d → ∃ v, vs[i]? = some v ∧ Rep T w d v
  | _, _, _, _, .nil, e => by simp at e
  | _, _, 0, _, .cons q _, e => by simp at e; subst e; exact ⟨_, rfl, q⟩
  | _, _, i + 1, d, .cons _ r, e => by
    obtain ⟨v, h1, h2⟩ := Reps.get (i := i) (d := d) r (by simpa using e)
    exact ⟨v, by simpa using h1, h2⟩
theorem Reps.append {T : Tb} {w : Wd} : ∀ {l m : List D} {vs us : List V}, Reps T w l vs → Reps T w m us → Reps T w (l ++ m) (vs ++ us)
  | _, _, _, _, .nil, s => s
  | _, _, _, _, .cons q r, s => .cons q (Reps.append r s)
theorem Reps.take {T : Tb} {w : Wd} : ∀ {l : List D} {vs : List V} (n : Nat), Reps T w l vs → Reps T w (l.take n) (vs.take n)
  | _, _, 0, _ => .nil
  | _, _, _ + 1, .nil => .nil
  | _, _, n + 1, .cons q r => .cons q (Reps.take n r)
theorem Reps.drop {T : Tb} {w : Wd} : ∀ {l : List D} {vs : List V} (n : Nat), Reps T w l vs → Reps T w (l.drop n) (vs.drop n)
  | _, _, 0, r => r
  | _, _, _ + 1, .nil => .nil
  | _, _, n + 1, .cons _ r => Reps.drop n r
theorem Reps.set {T : Tb} {w : Wd} {d : D} {v : V} (q : Rep T w d v) : ∀ {l : List D} {vs : List V} (i : Nat), Reps T w l vs → Reps T w (l.set i d) (vs.set i v)
  | _, _, _, .nil => .nil
  | _, _, 0, .cons _ r => .cons q r
  | _, _, i + 1, .cons p r => .cons p (Reps.set q i r)
theorem Reps.reverse {T : Tb} {w : Wd} : ∀ {l : List D} {vs : List V}, Reps T w l vs → Reps T w l.reverse vs.reverse
  | _, _, .nil => .nil
  | _, _, .cons q r => by rw [List.reverse_cons, List.reverse_cons]; exact (Reps.reverse r).append (.cons q .nil)
def CellR (T : Tb) (w : Wd) (H : Hp) (a : Addr) : Cell → Prop
  | .dead => True
  | .lst l => ∃ vs, H a = some (.lst vs) ∧ Reps T w l vs
  | .dct l => ∃ kvs, H a = some (.dK kvs) ∧ RepK T w l kvs
  | .ins c fs => ∃ dx gs, H a = some (.ins (He.ga T.K (c : Str)) dx gs) ∧ gs.map (·.1) = fs.map (fun p => Str.ofString p.1) ∧ Reps T w (fs.map (·.2)) (gs.map (·.2))
  | .dcT l => ∃ kvs : List (List Key × V), H a = some (.dT kvs) ∧ kvs.map (·.1) = l.map (fun p => p.1.map Sum.inl) ∧ Reps T w (l.map (·.2)) (kvs.map (·.2))
structure WR (T : Tb) (w : Wd) (S : Store) (H : Hp) : Prop where
  sub : ∀ a o, w.G a = some o → H a = some o
  len : w.am.length = S.length
  nd : w.am.Nodup
  has : ∀ a ∈ w.am, ∃ o, H a = some o ∧ ∀ ps, o ≠ .tbl ps
  out : ∀ (n : Nat) c a, S[n]? = some c → w.am[n]? = some a → c ≠ .dead → w.G a = none
  cell : ∀ (n : Nat) c a, S[n]? = some c → w.am[n]? = some a → CellR T w H a c
  tabs : LamX.Tabs T.tabs H
  hn : (w.hid.map (·.1)).Nodup
  hd : ∀ p ∈ w.hid, w.G p.1 = none ∧ p.1 ∉ w.am ∧ ∃ vs, H p.1 = some (.lst vs) ∧ Reps T w p.2 vs
  nt : ∀ a ps, w.G a ≠ some (.tbl ps)
/-- .. of a frame's slots -/
def ER (T : Tb) (w : Wd) (env : Env) (σ : St) : Prop := env.length = σ.length ∧ ∀ (i : Nat) d, env[i]? = some (some d) → ∃ v, σ[i]? = some (some v) ∧ Rep T w d v
theorem ER.monoS {T : Tb} {w w' : Wd} (h : w.sb w') {env : Env} {σ : St} (r : ER T w env σ) : ER T w' env σ := ⟨r.1, fun i d e => by
  obtain ⟨v, h1, h2⟩ := r.2 i d e
  exact ⟨v, h1, h2.monoS h⟩⟩
theorem ER.mono {T : Tb} {w w' : Wd} (h : w.le w') {env : Env} {σ : St} (r : ER T w env σ) : ER T w' env σ := ⟨r.1, fun i d e => by
  obtain ⟨v, h1, h2⟩ := r.2 i d e
  exact ⟨v, h1, h2.mono h⟩⟩
theorem ER.set {T : Tb} {w : Wd} {env : Env} {σ : St} {d : D} {v : V} (r : ER T w env σ) (q : Rep T w d v) (i : Nat) : ER T w (env.set i (some d)) (σ.set i (some v)) := ⟨by rw [List.length_set, List.length_set, r.1], fun j e h => by
  by_cases hj : i = j
  · subst hj
    rw [List.getElem?_set] at h ⊢
    simp only [if_true] at h ⊢
    by_cases hl : i < env.length
    · rw [if_pos hl] at h
      have e' : d = e := by simpa using h
      subst e'
      rw [if_pos (by rw [← r.1]; exact hl)]
      exact ⟨v, rfl, q⟩
    · rw [if_neg hl] at h
      cases h
  · rw [List.getElem?_set_ne hj] at h ⊢
    exact r.2 j e h⟩
/-- an exception as it lies -/
def XRep (T : Tb) (w : Wd) (H : Hp) (c : String) (fs : List D) (cls : Value) (dx : Option Addr) : Prop :=
  cls = .ref (He.ga T.K (c : Str)) ∧ ((fs = [] ∧ dx = none) ∨ ∃ a gs, dx = some a ∧ H a = some (.xd gs) ∧ (∀ f ∈ T.cf c, ∃ v, gs.lookup (Str.ofString f) = some v) ∧ Reps T w fs ((T.cf c).map fun f : String => (gs.lookup (Str.ofString f)).getD .non))
/-- a result, as it must lie -/
def RP {α : Type} (r : R α) (Pk : α → Store → Prop) (Pe : String → List D → Store → Prop) : Prop := match r with
  | .ok a S => Pk a S
  | .err c fs S => Pe c fs S
  | .bad => False
theorem RP.mono {α : Type} {r : R α} {Pk Pk' : α → Store → Prop} {Pe Pe' : String → List D → Store → Prop} (h : RP r Pk Pe) (hk : ∀ a S, Pk a S → Pk' a S) (he : ∀ c fs S, Pe c fs S → Pe' c fs S) : RP r Pk' Pe' := by
  cases r with
  | ok a S => exact hk _ _ h
  | err c fs S => exact he _ _ _ h
  | bad => exact h
theorem RP.bnd {α β : Type} {r : R α} {f : α → Store → R β} {Pk : β → Store → Prop} {Pe : String → List D → Store → Prop} (h : RP (r.bnd f) Pk Pe) : RP r (fun a S => RP (f a S) Pk Pe) Pe := by
  cases r with
  | ok a S => exact h
  | err c fs S => exact h
  | bad => exact h
/-- the exception's wish -/
def XW (T : Tb) (w : Wd) (E : XK) : String → List D → Store → Prop := fun c fs S => ∀ w' H' cls dx, w.le w' → WR T w' S H' → XRep T w' H' c fs cls dx → E cls dx H'
theorem XW.le {T : Tb} {w w1 : Wd} {E : XK} (h : w.le w1) {c : String} {fs : List D} {S : Store} (x : XW T w E c fs S) : XW T w1 E c fs S := fun w' H' cls dx l r q => x w' H' cls dx (h.trans l) r q
/-- readings -/
def tI (T : Tb) (E : XK) (f : EX) : TE := fun σ H Q => ∃ w env S, WR T w S H ∧ ER T w env σ ∧ RP (f env S) (fun d S' => ∀ w' H' v, w.le w' → WR T w' S' H' → Rep T w' d v → Q v H') (XW T w E)
def tIb (T : Tb) (E : XK) (f : BX) : TT := fun σ H Q => ∃ w env S, WR T w S H ∧ ER T w env σ ∧ RP (f env S) (fun b S' => ∀ w' H', w.le w' → WR T w' S' H' → Q b H') (XW T w E)
def tIa (T : Tb) (E : XK) (f : AX) : TA := fun σ H Q => ∃ w env S, WR T w S H ∧ ER T w env σ ∧ RP (f env S) (fun ds S' => ∀ w' H' vs, w.le w' → WR T w' S' H' → Reps T w' ds vs → Q vs H') (XW T w E)
def CP (T : Tb) (w : Wd) (D : Ends) (c : Ctl) (S : Store) : Prop := match c with
  | .nx e => ∀ w' H' σ', w.le w' → WR T w' S H' → ER T w' e σ' → D.nx σ' H'
  | .bk e => ∀ w' H' σ', w.le w' → WR T w' S H' → ER T w' e σ' → D.bk σ' H'
  | .ct e => ∀ w' H' σ', w.le w' → WR T w' S H' → ER T w' e σ' → D.ct σ' H'
  | .rt d => ∀ w' H' v, w.le w' → WR T w' S H' → Rep T w' d v → D.rt v H'
def tIs (T : Tb) (E : XK) (f : ES) : TS := fun D σ H => ∃ w env S, WR T w S H ∧ ER T w env σ ∧ RP (f env S) (CP T w D) (XW T w E)
/-- judgements -/
def IE (T : Tb) (E : XK) (X : Cx) (e : Expr) (f : EX) : Prop := PE X e (tI T E f)
def IB (T : Tb) (E : XK) (X : Cx) (e : Expr) (f : BX) : Prop := PT X e (tIb T E f)
def IW (T : Tb) (E : XK) (X : Cx) (e : Expr) (f : BX) : Prop := PW X e (tIb T E f)
def IA (T : Tb) (E : XK) (X : Cx) (es : List Expr) (f : AX) : Prop := PA X es (tIa T E f)
def IS (T : Tb) (E : XK) (X : Cx) (st : Stmt) (f : ES) : Prop := PS X st (tIs T E f)
def ISs (T : Tb) (E : XK) (X : Cx) (sts : List Stmt) (f : ES) : Prop := PSs X sts (tIs T E f)
theorem PE.mono {X : Cx} {e : Expr} {t t' : TE} (h : PE X e t) (k : ∀ σ H Q, t' σ H Q → t σ H Q) : PE X e t' := ⟨fun pins s σ H Q I q => h.run pins s σ H Q I (k _ _ _ q)⟩
theorem PT.mono {X : Cx} {e : Expr} {t t' : TT} (h : PT X e t) (k : ∀ σ H Q, t' σ H Q → t σ H Q) : PT X e t' := ⟨fun pins s σ H Q I q => h.run pins s σ H Q I (k _ _ _ q)⟩
theorem PW.mono {X : Cx} {e : Expr} {t t' : TT} (h : PW X e t) (k : ∀ σ H Q, t' σ H Q → t σ H Q) : PW X e t' := ⟨fun wh pins s σ H Q I q => h.run wh pins s σ H Q I (k _ _ _ q)⟩
theorem PA.mono {X : Cx} {es : List Expr} {t t' : TA} (h : PA X es t) (k : ∀ σ H Q, t' σ H Q → t σ H Q) : PA X es t' := ⟨fun pos pins s σ H Q I q => h.run pos pins s σ H Q I (k _ _ _ q)⟩
theorem PS.mono {X : Cx} {st : Stmt} {t t' : TS} (h : PS X st t) (k : ∀ D σ H, t' D σ H → t D σ H) : PS X st t' := ⟨fun pins s σ H D I q => h.run pins s σ H D I (k _ _ _ q)⟩
theorem PSs.mono {X : Cx} {st : List Stmt} {t t' : TS} (h : PSs X st t) (k : ∀ D σ H, t' D σ H → t D σ H) : PSs X st t' := ⟨fun pins s σ H D I q => h.run pins s σ H D I (k _ _ _ q)⟩
theorem CellR.keep {T : Tb} {w w' : Wd} {H H' : Hp} {a : Addr} {c : Cell} (h : CellR T w H a c) (l : w.sb w') (k : ∀ o, H a = some o → H' a = some o) : CellR T w' H' a c := by
  cases c with
  | dead => trivial
  | lst l1 =>
    obtain ⟨vs, h1, h2⟩ := h
    exact ⟨vs, k _ h1, h2.monoS l⟩
  | dct l1 =>
    obtain ⟨vs, h1, h2⟩ := h
    exact ⟨vs, k _ h1, h2.monoS l⟩
  | ins c fs =>
    obtain ⟨dx, gs, h1, h2, h3⟩ := h
    exact ⟨dx, gs, k _ h1, h2, h3.monoS l⟩
  | dcT l1 =>
    obtain ⟨kvs, h1, h2, h3⟩ := h
    exact ⟨kvs, k _ h1, h2, h3.monoS l⟩
/-- neither a table nor a code object -/
def NoTab (o : HO) : Prop := (∀ ps, o ≠ .tbl ps) ∧ ∀ c q, o ≠ LamX.CodeO c q
theorem noTab_lst {xs : List V} : NoTab (.lst xs) := ⟨fun _ z => (by cases z), fun _ _ z => (by unfold LamX.CodeO at z; cases z)⟩
theorem noTab_dK {xs : List (Key × V)} : NoTab (.dK xs) := ⟨fun _ z => (by cases z), fun _ _ z => (by unfold LamX.CodeO at z; cases z)⟩
theorem noTab_dT {xs : List (List Key × V)} : NoTab (.dT xs) := ⟨fun _ z => (by cases z), fun _ _ z => (by unfold LamX.CodeO at z; cases z)⟩
theorem noTab_ins {C dx : Addr} {fs : List (Str × V)} : NoTab (.ins C dx fs) := ⟨fun _ z => (by cases z), fun _ _ z => (by unfold LamX.CodeO at z; cases z)⟩
theorem tabs_upd {ts : List (Addr × Str)} {H : Hp} {a : Addr} {o o' : HO} (t : LamX.Tabs ts H) (ha : H a = some o) (n : NoTab o) : LamX.Tabs ts (upd H a o') := fun p hp => by
  obtain ⟨ps, h1, h2, h3⟩ := t p hp
  refine ⟨ps, ?_, h2, fun pos cv hc => ?_⟩
  · rw [upd_ne (fun z => by rw [z, ha] at h1; exact n.1 _ (Option.some.inj h1))]
    exact h1
  · obtain ⟨c, e1, e2⟩ := h3 pos cv hc
    refine ⟨c, e1, ?_⟩
    rw [upd_ne (fun z => by rw [z, ha] at e2; exact n.2 _ _ (Option.some.inj e2))]
    exact e2
theorem tabs_new {ts : List (Addr × Str)} {H : Hp} {a : Addr} {o' : HO} (t : LamX.Tabs ts H) (ha : H a = none) : LamX.Tabs ts (upd H a o') := t.ext fun b o e => by
  rw [upd_ne (ne_of_none e ha)]
  exact e
theorem CellR.noTab {T : Tb} {w : Wd} {H : Hp} {a : Addr} {c : Cell} (h : CellR T w H a c) (hc : c ≠ .dead) : ∃ o, H a = some o ∧ NoTab o := by
  cases c with
  | dead => exact absurd rfl hc
  | lst l1 =>
    obtain ⟨vs, h1, h2⟩ := h
    exact ⟨_, h1, noTab_lst⟩
  | dct l1 =>
    obtain ⟨vs, h1, h2⟩ := h
    exact ⟨_, h1, noTab_dK⟩
  | dcT l1 =>
    obtain ⟨vs, h1, _⟩ := h
    exact ⟨_, h1, noTab_dT⟩
  | ins c fs =>
    obtain ⟨dx, gs, h1, h2, h3⟩ := h
    exact ⟨_, h1, noTab_ins⟩
section
variable {T : Tb} {w : Wd} {S : Store} {H : Hp} {p a : Addr} {o : HO}
theorem WR.free (r : WR T w S H) (hp : H p = none) : w.G p = none := by
  cases e : w.G p with
  | none => rfl
  | some o => rw [r.sub _ _ e] at hp; cases hp
/-- a new thing that stands still -/
theorem WR.new (r : WR T w S H) (hp : H p = none) (o : HO) (ho : ∀ ps, o ≠ .tbl ps := by intro _ z; cases z) : w.le ⟨upd w.G p o, w.am, w.hid⟩ ∧ WR T ⟨upd w.G p o, w.am, w.hid⟩ S (upd H p o) := by
  have hG := r.free hp
  have l : w.le ⟨upd w.G p o, w.am, w.hid⟩ := ⟨⟨fun a u e => by show upd w.G p o a = some u; rw [upd_ne (ne_of_none e hG)]; exact e, [], by simp⟩, rfl⟩
  have k : ∀ a u, H a = some u → upd H p o a = some u := fun a u e => by rw [upd_ne (ne_of_none e hp)]; exact e
  refine ⟨l, ?_, r.len, r.nd, fun a ha => ?_, fun n c a h1 h2 h3 => ?_, fun n c a h1 h2 => ?_, tabs_new r.tabs hp, r.hn, fun q hq => ?_, fun a ps e => ?_⟩
  · intro a u e
    have e : upd w.G p o a = some u := e
    by_cases h : a = p
    · subst h
      rw [upd_same] at e ⊢
      exact e
    · rw [upd_ne h] at e ⊢
      exact r.sub _ _ e
  · obtain ⟨u, e, nt⟩ := r.has a ha
    exact ⟨u, k _ _ e, nt⟩
  · show upd w.G p o a = none
    obtain ⟨u, e, _⟩ := (r.cell n c a h1 h2).noTab h3
    rw [upd_ne (ne_of_none e hp)]
    exact r.out n c a h1 h2 h3
  · exact (r.cell n c a h1 h2).keep l.tosb fun u e => k _ _ e
  · obtain ⟨z1, z2, vs, z3, z4⟩ := r.hd q hq
    refine ⟨?_, z2, vs, k _ _ z3, z4.mono l⟩
    show upd w.G p o q.1 = none
    rw [upd_ne (ne_of_none z3 hp)]
    exact z1
  · have e : upd w.G p o a = some (.tbl ps) := e
    by_cases h : a = p
    · rw [h, upd_same] at e
      exact ho ps (Option.some.inj e)
    · rw [upd_ne h] at e
      exact r.nt a ps e
/-- .. and its like, by the heap alone -/
theorem WR.grow {H' : Hp} (r : WR T w S H) (k : ∀ a u, H a = some u → H' a = some u) : WR T w S H' :=
  ⟨fun a u e => k _ _ (r.sub _ _ e), r.len, r.nd, fun a ha => (r.has a ha).elim fun u e => ⟨u, k _ _ e.1, e.2⟩, r.out, fun n c a h1 h2 => (r.cell n c a h1 h2).keep (Wd.le.refl _).tosb fun u e => k _ _ e, r.tabs.ext k, r.hn, fun q hq => (r.hd q hq).elim fun z1 z => ⟨z1, z.1, z.2.elim fun vs z => ⟨vs, k _ _ z.1, z.2⟩⟩, r.nt⟩
/-- a new thing that will change -/
theorem WR.alloc (r : WR T w S H) (hp : H p = none) {o : HO} {c : Cell} (hc : CellR T ⟨w.G, w.am ++ [p], w.hid⟩ (upd H p o) p c) (ho : ∀ ps, o ≠ .tbl ps := by intro _ z; cases z) :
    w.le ⟨w.G, w.am ++ [p], w.hid⟩ ∧ WR T ⟨w.G, w.am ++ [p], w.hid⟩ (S ++ [c]) (upd H p o) ∧ (w.am ++ [p])[S.length]? = some p := by
  have l : w.le ⟨w.G, w.am ++ [p], w.hid⟩ := Wd.le.app w p
  have k : ∀ a u, H a = some u → upd H p o a = some u := fun a u e => by rw [upd_ne (ne_of_none e hp)]; exact e
  have hn : p ∉ w.am := fun z => by
    obtain ⟨u, e, _⟩ := r.has p z
    rw [hp] at e
    cases e
  have at_ : (w.am ++ [p])[S.length]? = some p := by rw [← r.len]; simp
  refine ⟨l, ⟨fun a u e => k _ _ (r.sub _ _ e), by simp [r.len], ?_, fun a ha => ?_, fun n c1 a h1 h2 h3 => ?_, fun n c1 a h1 h2 => ?_, tabs_new r.tabs hp, r.hn, fun q hq => ?_, r.nt⟩, at_⟩
  · exact List.nodup_append.mpr ⟨r.nd, by simp, fun a ha b hb => by
      have e : b = p := by simpa using hb
      subst e
      exact fun z => hn (z ▸ ha)⟩
  · rcases List.mem_append.mp ha with ha | ha
    · obtain ⟨u, e, nt⟩ := r.has a ha
      exact ⟨u, k _ _ e, nt⟩
    · have e : a = p := by simpa using ha
      subst e
      exact ⟨o, upd_same, ho⟩
  · have h2 : (w.am ++ [p])[n]? = some a := h2
    by_cases hl : n < S.length
    · rw [List.getElem?_append_left hl] at h1
      rw [List.getElem?_append_left (by rw [r.len]; exact hl)] at h2
      exact r.out n c1 a h1 h2 h3
    · have hle := (List.getElem?_eq_some_iff.mp h1).1
      rw [List.length_append, List.length_singleton] at hle
      have e : n = S.length := by omega
      subst e
      rw [at_] at h2
      cases h2
      exact r.free hp
  · have h2 : (w.am ++ [p])[n]? = some a := h2
    by_cases hl : n < S.length
    · rw [List.getElem?_append_left hl] at h1
      rw [List.getElem?_append_left (by rw [r.len]; exact hl)] at h2
      exact (r.cell n c1 a h1 h2).keep l.tosb fun u e => k _ _ e
    · have hle := (List.getElem?_eq_some_iff.mp h1).1
      rw [List.length_append, List.length_singleton] at hle
      have e : n = S.length := by omega
      subst e
      rw [at_] at h2
      cases h2
      have e1 : c1 = c := by
        rw [List.getElem?_append_right (Nat.le_refl _)] at h1
        simpa using h1.symm
      subst e1
      exact hc
  · obtain ⟨z1, z2, vs, z3, z4⟩ := r.hd q hq
    refine ⟨z1, fun z => ?_, vs, k _ _ z3, z4.mono l⟩
    rcases List.mem_append.mp z with z | z
    · exact z2 z
    · have e : q.1 = p := by simpa using z
      rw [e, hp] at z3
      cases z3
theorem WR.at_ne (r : WR T w S H) {n m : Nat} {a b : Addr} (h1 : w.am[n]? = some a) (h2 : w.am[m]? = some b) (h : n ≠ m) : a ≠ b := fun z => by
  subst z
  obtain ⟨l1, e1⟩ := List.getElem?_eq_some_iff.mp h1
  obtain ⟨l2, e2⟩ := List.getElem?_eq_some_iff.mp h2
  exact h ((List.getElem_inj r.nd).mp (e1.trans e2.symm))
/-- a thing is changed -/
theorem WR.write (r : WR T w S H) {n : Nat} {c c' : Cell} (hS : S[n]? = some c) (ha : w.am[n]? = some a) (hd : c ≠ .dead) {o' : HO} (hc : CellR T w (upd H a o') a c') (ho' : ∀ ps, o' ≠ .tbl ps := by intro _ z; cases z) : WR T w (S.set n c') (upd H a o') := by
  obtain ⟨o, e, nt⟩ := (r.cell n c a hS ha).noTab hd
  have hG := r.out n c a hS ha hd
  have hl := (List.getElem?_eq_some_iff.mp hS).1
  refine ⟨fun b u q => ?_, by rw [List.length_set]; exact r.len, r.nd, fun b hb => ?_, fun m c1 b h1 h2 h3 => ?_, fun m c1 b h1 h2 => ?_, tabs_upd r.tabs e nt, r.hn, fun q hq => ?_, r.nt⟩
  · rw [upd_ne (ne_of_none q hG)]
    exact r.sub _ _ q
  · obtain ⟨u, q, nt⟩ := r.has b hb
    by_cases h : b = a
    · subst h
      exact ⟨o', upd_same, ho'⟩
    · exact ⟨u, by rw [upd_ne h]; exact q, nt⟩
  · by_cases h : m = n
    · subst h
      rw [ha] at h2
      cases h2
      exact hG
    · rw [List.getElem?_set_ne (Ne.symm h)] at h1
      exact r.out m c1 b h1 h2 h3
  · by_cases h : m = n
    · subst h
      rw [ha] at h2
      cases h2
      rw [List.getElem?_set_self hl] at h1
      cases h1
      exact hc
    · rw [List.getElem?_set_ne (Ne.symm h)] at h1
      have hne := r.at_ne h2 ha h
      exact (r.cell m c1 b h1 h2).keep (Wd.le.refl _).tosb fun u q => by rw [upd_ne hne]; exact q
  · obtain ⟨z1, z2, vs, z3, z4⟩ := r.hd q hq
    exact ⟨z1, z2, vs, by rw [upd_ne (fun z => z2 (by rw [z]; exact List.mem_of_getElem? ha))]; exact z3, z4⟩
/-- a thing stands still from now on -/
theorem WR.freeze (r : WR T w S H) {n : Nat} {c : Cell} (hS : S[n]? = some c) (ha : w.am[n]? = some a) (hd : c ≠ .dead) (ho : H a = some o) : w.le ⟨upd w.G a o, w.am, w.hid⟩ ∧ WR T ⟨upd w.G a o, w.am, w.hid⟩ (S.set n .dead) H := by
  have hG := r.out n c a hS ha hd
  have hl := (List.getElem?_eq_some_iff.mp hS).1
  have l : w.le ⟨upd w.G a o, w.am, w.hid⟩ := ⟨⟨fun b u e => by show upd w.G a o b = some u; rw [upd_ne (ne_of_none e hG)]; exact e, [], by simp⟩, rfl⟩
  refine ⟨l, fun b u e => ?_, by rw [List.length_set]; exact r.len, r.nd, r.has, fun m c1 b h1 h2 h3 => ?_, fun m c1 b h1 h2 => ?_, r.tabs, r.hn, fun q hq => ?_, fun b ps e => ?_⟩
  · have e : upd w.G a o b = some u := e
    by_cases h : b = a
    · subst h
      rw [upd_same] at e
      rw [← e]
      exact ho
    · rw [upd_ne h] at e
      exact r.sub _ _ e
  · have h2 : w.am[m]? = some b := h2
    by_cases h : m = n
    · subst h
      rw [List.getElem?_set_self hl] at h1
      cases h1
      exact absurd rfl h3
    · rw [List.getElem?_set_ne (Ne.symm h)] at h1
      show upd w.G a o b = none
      rw [upd_ne (r.at_ne h2 ha h)]
      exact r.out m c1 b h1 h2 h3
  · have h2 : w.am[m]? = some b := h2
    by_cases h : m = n
    · subst h
      rw [List.getElem?_set_self hl] at h1
      cases h1
      trivial
    · rw [List.getElem?_set_ne (Ne.symm h)] at h1
      exact (r.cell m c1 b h1 h2).keep l.tosb fun _ q => q
  · obtain ⟨z1, z2, vs, z3, z4⟩ := r.hd q hq
    refine ⟨?_, z2, vs, z3, z4.mono l⟩
    show upd w.G a o q.1 = none
    rw [upd_ne (fun z => z2 (by rw [z]; exact List.mem_of_getElem? ha))]
    exact z1
  · have e : upd w.G a o b = some (.tbl ps) := e
    by_cases h : b = a
    · rw [h, upd_same] at e
      cases e
      obtain ⟨u, q, nt⟩ := (r.cell n c a hS ha).noTab hd
      rw [ho] at q
      cases q
      exact nt.1 ps rfl
    · rw [upd_ne h] at e
      exact r.nt b ps e
end
theorem sqt_sub {T : Tb} {w : Wd} {S : Store} {H : Hp} (r : WR T w S H) {a : Addr} {xs : List V} (h : SqT T.K w.G a xs) : SqT T.K H a xs := h.elim (fun h => .inl (h.elim (fun h => .inl (r.sub _ _ h)) fun ⟨o, h⟩ => .inr ⟨o, r.sub _ _ h⟩)) .inr
theorem sql_sub {T : Tb} {w : Wd} {S : Store} {H : Hp} (r : WR T w S H) {a : Addr} {xs : List V} (h : SqL T.K w.G a xs) : SqL T.K H a xs := h.elim (fun h => .inl (h.elim (fun h => .inl (r.sub _ _ h)) fun ⟨o, h⟩ => .inr ⟨o, r.sub _ _ h⟩)) .inr
end Ro
end
section
set_option Elab.async false
set_option linter.all false
set_option maxRecDepth 100000
set_option maxHeartbeats 4000000
namespace Ro
open PySem PySem.Spec PyProof.Rows L2
variable {T : Tb} {E : XK} {X : Cx} {a b c : Expr} {es : List Expr} {f g h : EX} {fa : AX} {fb gb : BX} {pos : Pos}
/-- two expressions in a row -/
theorem tI_two {k : D → D → Store → R D} {σ : St} {H : Hp} {Q : VK} (q : tI T E (fun env S => (f env S).bnd fun x S1 => (g env S1).bnd fun y S2 => k x y S2) σ H Q) :
    tI T E f σ H fun x H1 => tI T E g σ H1 fun y H2 => ∃ w d e S, WR T w S H2 ∧ Rep T w d x ∧ Rep T w e y ∧ RP (k d e S) (fun d S' => ∀ w' H' v, w.le w' → WR T w' S' H' → Rep T w' d v → Q v H') (XW T w E) := by
  obtain ⟨w, env, S, r, e, h⟩ := q
  refine ⟨w, env, S, r, e, (RP.bnd h).mono (fun d S1 h1 w1 H1 x l1 r1 p1 => ⟨w1, env, S1, r1, e.mono l1, (RP.bnd h1).mono (fun d2 S2 h2 w2 H2 y l2 r2 p2 => ⟨w2, d, d2, S2, r2, p1.mono l2, p2, ?_⟩) (fun _ _ _ x => x.le l1)⟩) (fun _ _ _ x => x)⟩
  exact h2.mono (fun d S' q w' H' v l => q w' H' v ((l1.trans l2).trans l)) fun _ _ _ x => x.le (l1.trans l2)
theorem ie_var {i : Nat} {x : Str} (hN : X.N[i]? = some x) (hv : Vis X.env.scope x) (hd : (x == ("__debug__" : Str)) = false := by decide +kernel) (hcd : (x == ("__classdict__" : Str)) = false := by decide +kernel) : IE T E X (.Name x pos) (eVar i) :=
  PE.mono (pe_var hN hv hd hcd) fun σ H Q ⟨w, env, S, r, e, q⟩ => by
    unfold eVar at q
    cases z : env[i]? with
    | none => rw [z] at q; exact q.elim
    | some o =>
      rw [z] at q
      cases o with
      | none => exact q.elim
      | some d =>
        obtain ⟨v, h1, h2⟩ := e.2 i d z
        exact ⟨v, h1, q w H v (Wd.le.refl _) r h2⟩
theorem ie_c {e : Expr} {d : D} {v : V} (h : PE X e (tC v)) (k : ∀ w, Rep T w d v) : IE T E X e (eC d) :=
  PE.mono h fun σ H Q ⟨w, env, S, r, e, q⟩ => q w H v (Wd.le.refl _) r (k w)
theorem ie_int {i : Int} {j : Nat} : IE T E X (.Constant (.int i) j pos) (eC (.int i)) := ie_c pe_int fun _ => .int i
theorem ie_bl {i : Bool} {j : Nat} : IE T E X (.Constant (.bool i) j pos) (eC (.bl i)) := ie_c pe_bl fun _ => .bl i
theorem ie_non {j : Nat} : IE T E X (.Constant .none j pos) (eC .non) := ie_c pe_non fun _ => .non
theorem ie_str {i : Str} {j : Nat} : IE T E X (.Constant (.str i) j pos) (eC (.str i)) := ie_c pe_str fun _ => .str i
theorem ie_glob {x : Str} {d : D} {v : V} {u : Value} (hg : Gl X x) (hm : X.mg x = some u) (r : RelV v u) (k : ∀ w, Rep T w d v) (hd : (x == ("__debug__" : Str)) = false := by decide +kernel) : IE T E X (.Name x pos) (eC d) := ie_c (pe_glob hg hm r hd) k
def rOp (T : Tb) (op : D → D → Option D) : R2 := fun x y H Q => ∃ w d e r S, WR T w S H ∧ Rep T w d x ∧ Rep T w e y ∧ op d e = some r ∧ ∀ w' H' z, w.le w' → WR T w' S H' → Rep T w' r z → Q z H'
theorem rOp_of {op : D → D → Option D} {w : Wd} {d e : D} {S : Store} {x y : V} {H : Hp} {Q : VK} (r : WR T w S H) (p : Rep T w d x) (q : Rep T w e y) (h : RP (lift (op d e) S) (fun d S' => ∀ w' H' v, w.le w' → WR T w' S' H' → Rep T w' d v → Q v H') (XW T w E)) : rOp T op x y H Q := by
  cases z : op d e with
  | none => rw [z] at h; exact h.elim
  | some k => rw [z] at h; exact ⟨w, d, e, k, S, r, p, q, z, fun w' H' v l r' p' => h w' H' v l r' p'⟩
theorem ie_op {o : Operator} {op : D → D → Option D} (ho : OpR X (binaryOp o) (rOp T op)) (ha : IE T E X a f) (hb : IE T E X b g) : IE T E X (.BinOp a o b pos) (eOp op f g) :=
  PE.mono (pe_op ho ha hb) fun σ H Q q => by
    have q2 := tI_two (k := fun x y S => lift (op x y) S) q
    obtain ⟨w, env, S, r, e, h⟩ := q2
    refine ⟨w, env, S, r, e, h.mono (fun d S1 h1 w1 H1 x l1 r1 p1 => ?_) fun _ _ _ x => x⟩
    obtain ⟨w2, env2, S2, r2, e2, h2⟩ := h1 w1 H1 x l1 r1 p1
    refine ⟨w2, env2, S2, r2, e2, h2.mono (fun d S1 h1 w1 H1 x l1 r1 p1 => ?_) fun _ _ _ x => x⟩
    obtain ⟨w3, d3, e3, S3, r3, p3, q3, h3⟩ := h1 w1 H1 x l1 r1 p1
    exact rOp_of r3 p3 q3 h3
theorem ie_cmp {o : CmpOp} {op : D → D → Option D} (ho : OpR X (compareOp o) (rOp T op)) (ha : IE T E X a f) (hb : IE T E X b g) (hm : behindInMarks o b = false) : IE T E X (.Compare a [o] [b] pos) (eOp op f g) :=
  PE.mono (pe_cmpR ho ha hb hm) fun σ H Q q => by
    have q2 := tI_two (k := fun x y S => lift (op x y) S) q
    obtain ⟨w, env, S, r, e, h⟩ := q2
    refine ⟨w, env, S, r, e, h.mono (fun d S1 h1 w1 H1 x l1 r1 p1 => ?_) fun _ _ _ x => x⟩
    obtain ⟨w2, env2, S2, r2, e2, h2⟩ := h1 w1 H1 x l1 r1 p1
    refine ⟨w2, env2, S2, r2, e2, h2.mono (fun d S1 h1 w1 H1 x l1 r1 p1 => ?_) fun _ _ _ x => x⟩
    obtain ⟨w3, d3, e3, S3, r3, p3, q3, h3⟩ := h1 w1 H1 x l1 r1 p1
    exact rOp_of r3 p3 q3 h3
/-- a value of a test -/
theorem tI_bVal {σ : St} {H : Hp} {Q : Bool → Hp → Prop} (q : tIb T E (bVal f) σ H Q) : tI T E f σ H fun x H1 => ∃ k, x = .bl k ∧ Q k H1 := by
  obtain ⟨w, env, S, r, e, h⟩ := q
  refine ⟨w, env, S, r, e, (RP.bnd h).mono (fun d S1 h1 w1 H1 x l1 r1 p1 => ?_) (fun _ _ _ x => x)⟩
  cases p1 with
  | bl k => exact ⟨k, rfl, h1 w1 H1 l1 r1⟩
  | _ => exact h1.elim
theorem ib_cmp {o : CmpOp} {op : D → D → Option D} (ho : OpR X (compareOp o) (rOp T op)) (ha : IE T E X a f) (hb : IE T E X b g) (hm : behindInMarks o b = false) : IB T E X (.Compare a [o] [b] pos) (bVal (eOp op f g)) :=
  PT.mono (pt_cmpR ho ha hb hm) fun σ H Q q => by
    have q2 := tI_two (k := fun x y S => lift (op x y) S) (tI_bVal q)
    obtain ⟨w, env, S, r, e, h⟩ := q2
    refine ⟨w, env, S, r, e, h.mono (fun d S1 h1 w1 H1 x l1 r1 p1 => ?_) fun _ _ _ x => x⟩
    obtain ⟨w2, env2, S2, r2, e2, h2⟩ := h1 w1 H1 x l1 r1 p1
    refine ⟨w2, env2, S2, r2, e2, h2.mono (fun d S1 h1 w1 H1 x l1 r1 p1 => ?_) fun _ _ _ x => x⟩
    obtain ⟨w3, d3, e3, S3, r3, p3, q3, h3⟩ := h1 w1 H1 x l1 r1 p1
    exact rOp_of r3 p3 q3 h3
/-- an expression that is a bool, as a test -/
theorem ib_val (he : IE T E X a f) (hw : ∀ whole, isTrue a X.env whole = (do let v ← whole; standAt a.pos; holding [v] (truthy v)) := by intro _; rfl) : IB T E X a (bVal f) :=
  PT.mono (pt_val he hw) fun σ H Q q => tI_bVal q
theorem iw_pt (h : IW T E X a fb) : IB T E X a fb := PW.pt h
theorem ib_not (h : IB T E X a fb) : IB T E X (.UnaryOp .Not a pos) (bNot fb) :=
  PT.mono (pt_not h) fun σ H Q ⟨w, env, S, r, e, q⟩ => ⟨w, env, S, r, e, (RP.bnd q).mono (fun _ _ h1 => h1) fun _ _ _ x => x⟩
theorem iw_and1 (h : IB T E X a fb) : IW T E X (.BoolOp .And [a] pos) fb := pw_and1 h
theorem iw_or1 (h : IB T E X a fb) : IW T E X (.BoolOp .Or [a] pos) fb := pw_or1 h
theorem iw_and (h : IB T E X a fb) (h2 : IW T E X (.BoolOp .And (b :: es) pos) gb) : IW T E X (.BoolOp .And (a :: b :: es) pos) (bAnd fb gb) :=
  PW.mono (pw_and h h2) fun σ H Q ⟨w, env, S, r, e, q⟩ => ⟨w, env, S, r, e, (RP.bnd q).mono (fun k S1 h1 w1 H1 l1 r1 => by
    cases k with
    | true => exact ⟨w1, env, S1, r1, e.mono l1, RP.mono h1 (fun k2 S2 h2 w2 H2 l2 r2 => h2 w2 H2 (l1.trans l2) r2) fun _ _ _ x => x.le l1⟩
    | false => exact h1 w1 H1 l1 r1) fun _ _ _ x => x⟩
theorem iw_or (h : IB T E X a fb) (h2 : IW T E X (.BoolOp .Or (b :: es) pos) gb) : IW T E X (.BoolOp .Or (a :: b :: es) pos) (bOr fb gb) :=
  PW.mono (pw_or h h2) fun σ H Q ⟨w, env, S, r, e, q⟩ => ⟨w, env, S, r, e, (RP.bnd q).mono (fun k S1 h1 w1 H1 l1 r1 => by
    cases k with
    | false => exact ⟨w1, env, S1, r1, e.mono l1, RP.mono h1 (fun k2 S2 h2 w2 H2 l2 r2 => h2 w2 H2 (l1.trans l2) r2) fun _ _ _ x => x.le l1⟩
    | true => exact h1 w1 H1 l1 r1) fun _ _ _ x => x⟩
theorem ie_one {o : BoolOp} (h : IE T E X a f) : IE T E X (.BoolOp o [a] pos) f := pe_one h
theorem ie_and (h : IE T E X a f) (h2 : IE T E X (.BoolOp .And (b :: es) pos) g) : IE T E X (.BoolOp .And (a :: b :: es) pos) (eAnd f g) :=
  PE.mono (pe_and h h2) fun σ H Q ⟨w, env, S, r, e, q⟩ => ⟨w, env, S, r, e, (RP.bnd q).mono (fun d S1 h1 w1 H1 x l1 r1 p1 => by
    cases p1 with
    | bl k =>
      refine ⟨k, rfl, ?_⟩
      cases k with
      | true => exact ⟨w1, env, S1, r1, e.mono l1, RP.mono h1 (fun k2 S2 h2 w2 H2 v l2 r2 => h2 w2 H2 v (l1.trans l2) r2) fun _ _ _ x => x.le l1⟩
      | false => exact h1 w1 H1 _ l1 r1 (.bl false)
    | _ => exact (show False from h1).elim) fun _ _ _ x => x⟩
theorem ie_or (h : IE T E X a f) (h2 : IE T E X (.BoolOp .Or (b :: es) pos) g) : IE T E X (.BoolOp .Or (a :: b :: es) pos) (eOr f g) :=
  PE.mono (pe_or h h2) fun σ H Q ⟨w, env, S, r, e, q⟩ => ⟨w, env, S, r, e, (RP.bnd q).mono (fun d S1 h1 w1 H1 x l1 r1 p1 => by
    cases p1 with
    | bl k =>
      refine ⟨k, rfl, ?_⟩
      cases k with
      | false => exact ⟨w1, env, S1, r1, e.mono l1, RP.mono h1 (fun k2 S2 h2 w2 H2 v l2 r2 => h2 w2 H2 v (l1.trans l2) r2) fun _ _ _ x => x.le l1⟩
      | true => exact h1 w1 H1 _ l1 r1 (.bl true)
    | _ => exact (show False from h1).elim) fun _ _ _ x => x⟩
theorem ie_not (h : IE T E X a f) : IE T E X (.UnaryOp .Not a pos) (eNot f) :=
  PE.mono (pe_not h) fun σ H Q ⟨w, env, S, r, e, q⟩ => ⟨w, env, S, r, e, (RP.bnd q).mono (fun d S1 h1 w1 H1 x l1 r1 p1 => by
    cases p1 with
    | bl k => exact ⟨k, rfl, h1 w1 H1 _ l1 r1 (.bl (!k))⟩
    | _ => exact (show False from h1).elim) fun _ _ _ x => x⟩
theorem ie_if (hc : IB T E X c fb) (ha : IE T E X a f) (hb : IE T E X b g) : IE T E X (.IfExp c a b pos) (eIf fb f g) :=
  PE.mono (pe_ifExp hc ha hb) fun σ H Q ⟨w, env, S, r, e, q⟩ => ⟨w, env, S, r, e, (RP.bnd q).mono (fun k S1 h1 w1 H1 l1 r1 => by
    cases k with
    | true => exact ⟨w1, env, S1, r1, e.mono l1, RP.mono h1 (fun k2 S2 h2 w2 H2 v l2 r2 => h2 w2 H2 v (l1.trans l2) r2) fun _ _ _ x => x.le l1⟩
    | false => exact ⟨w1, env, S1, r1, e.mono l1, RP.mono h1 (fun k2 S2 h2 w2 H2 v l2 r2 => h2 w2 H2 v (l1.trans l2) r2) fun _ _ _ x => x.le l1⟩) fun _ _ _ x => x⟩
end Ro
end
section
set_option Elab.async false
set_option linter.all false
set_option maxRecDepth 100000
set_option maxHeartbeats 4000000
namespace Ro
open PySem PySem.Spec PyProof.Rows L2
variable {T : Tb} {E : XK} {X : Cx} {a b c : Expr} {es : List Expr} {f g h : EX} {fa ga : AX} {fb gb : BX} {pos : Pos}
theorem ia_nil : IA T E X [] aNil := PA.mono pa_nil fun σ H Q ⟨w, env, S, r, e, q⟩ => q w H [] (Wd.le.refl _) r .nil
theorem ia_cons (ha : IE T E X a f) (hr : IA T E X es fa) (hs : starEach (a :: es) X.env = (false, eval a X.env) :: starEach es X.env := by rfl) : IA T E X (a :: es) (aCons f fa) :=
  PA.mono (pa_cons ha hr hs) fun σ H Q ⟨w, env, S, r, e, q⟩ => ⟨w, env, S, r, e, (RP.bnd q).mono (fun d S1 h1 w1 H1 x l1 r1 p1 => ⟨w1, env, S1, r1, e.mono l1, (RP.bnd h1).mono (fun ds S2 h2 w2 H2 xs l2 r2 p2 => h2 w2 H2 _ (l1.trans l2) r2 (.cons (p1.mono l2) p2)) fun _ _ _ x => x.le l1⟩) fun _ _ _ x => x⟩
theorem ie_tup {k : Nat} (h : IA T E X es fa) : IE T E X (.Tuple es k pos) (eTup fa) :=
  PE.mono (pe_tup h) fun σ H Q ⟨w, env, S, r, e, q⟩ => ⟨w, env, S, r, e, (RP.bnd q).mono (fun ds S1 h1 w1 H1 xs l1 r1 p1 => by
    by_cases hl : ds.length ≤ LINE
    · rw [if_pos hl] at h1
      refine ⟨by rw [sizeLine_eq, ← p1.length]; exact hl, fun p hp => ?_⟩
      obtain ⟨l2, r2⟩ := r1.new hp (.tup xs)
      exact h1 _ _ _ (l1.trans l2) r2 (.tup (.inl (.inl upd_same)) (p1.mono l2))
    · rw [if_neg hl] at h1
      exact (show False from h1).elim) fun _ _ _ x => x⟩
theorem ie_lst (h : IA T E X es fa) : IE T E X (.List es pos) (eLst fa) :=
  PE.mono (pe_lst h) fun σ H Q ⟨w, env, S, r, e, q⟩ => ⟨w, env, S, r, e, (RP.bnd q).mono (fun ds S1 h1 w1 H1 xs l1 r1 p1 => by
    by_cases hl : ds.length ≤ LINE
    · rw [if_pos hl] at h1
      refine ⟨by rw [sizeLine_eq, ← p1.length]; exact hl, fun p hp => ?_⟩
      obtain ⟨l2, r2⟩ := r1.new hp (.lst xs)
      exact h1 _ _ _ (l1.trans l2) r2 (.lst upd_same (p1.mono l2))
    · rw [if_neg hl] at h1
      exact (show False from h1).elim) fun _ _ _ x => x⟩
theorem ie_lstM (h : IA T E X es fa) : IE T E X (.List es pos) (eLstM fa) :=
  PE.mono (pe_lst h) fun σ H Q ⟨w, env, S, r, e, q⟩ => ⟨w, env, S, r, e, (RP.bnd q).mono (fun ds S1 h1 w1 H1 xs l1 r1 p1 => by
    by_cases hl : ds.length ≤ LINE
    · rw [if_pos hl] at h1
      refine ⟨by rw [sizeLine_eq, ← p1.length]; exact hl, fun p hp => ?_⟩
      obtain ⟨l2, r2, at_⟩ := r1.alloc (o := .lst xs) (c := .lst ds) hp ⟨xs, upd_same, p1.mono (Wd.le.app _ _)⟩
      exact h1 _ _ _ (l1.trans l2) r2 (.ref at_)
    · rw [if_neg hl] at h1
      exact (show False from h1).elim) fun _ _ _ x => x⟩
theorem rd_chain {op op' : D → D → Option D} {σ : St} {H : Hp} {Q : VK} (q : tI T E (eChain op op' f g h) σ H Q) : tChain (rOp T op) (rOp T op') (tI T E f) (tI T E g) (tI T E h) σ H Q := by
  obtain ⟨w, env, S, r, e, q⟩ := q
  refine ⟨w, env, S, r, e, (RP.bnd q).mono (fun d S1 h1 w1 H1 x l1 r1 p1 => ⟨w1, env, S1, r1, e.mono l1, (RP.bnd h1).mono (fun d2 S2 h2 w2 H2 y l2 r2 p2 => ?_) (fun _ _ _ x => x.le l1)⟩) (fun _ _ _ x => x)⟩
  cases z : op d d2 with
  | none => rw [z] at h2; exact (show False from h2).elim
  | some k =>
    rw [z] at h2
    refine ⟨w2, d, d2, k, S2, r2, p1.mono l2, p2, z, fun w3 H3 v l3 r3 p3 => ?_⟩
    cases p3 with
    | bl kk =>
      refine ⟨kk, rfl, ?_⟩
      cases kk with
      | true =>
        rw [if_pos rfl]
        refine ⟨w3, env, S2, r3, e.mono ((l1.trans l2).trans l3), (RP.bnd h2).mono (fun d3 S3 h3 w4 H4 v4 l4 r4 p4 => ?_) fun _ _ _ x => x.le ((l1.trans l2).trans l3)⟩
        have := rOp_of (E := E) (Q := Q) r4 (p2.mono (l3.trans l4)) p4 (RP.mono h3 (fun d S' q w' H' v l => q w' H' v ((((l1.trans l2).trans l3).trans l4).trans l)) fun _ _ _ x => x.le (((l1.trans l2).trans l3).trans l4))
        exact this
      | false =>
        rw [if_neg Bool.false_ne_true]
        exact h2 w3 H3 _ ((l1.trans l2).trans l3) r3 (.bl false)
    | _ => exact (show False from h2).elim
theorem ie_chain {o o' : CmpOp} {op op' : D → D → Option D} (ho : OpR X (compareOp o) (rOp T op)) (ho' : OpR X (compareOp o') (rOp T op')) (ha : IE T E X a f) (hb : IE T E X b g) (hc : IE T E X c h) (hm : lastMarks [o, o'] [b, c] = false := by with_unfolding_all rfl) : IE T E X (.Compare a [o, o'] [b, c] pos) (eChain op op' f g h) :=
  PE.mono (pe_chain (pos := pos) ho ho' ha hb hc hm) fun σ H Q q => rd_chain q
theorem ib_chain {o o' : CmpOp} {op op' : D → D → Option D} (ho : OpR X (compareOp o) (rOp T op)) (ho' : OpR X (compareOp o') (rOp T op')) (ha : IE T E X a f) (hb : IE T E X b g) (hc : IE T E X c h) (hm : lastMarks [o, o'] [b, c] = false := by with_unfolding_all rfl) : IB T E X (.Compare a [o, o'] [b, c] pos) (bVal (eChain op op' f g h)) :=
  PT.mono (pt_chain (pos := pos) ho ho' ha hb hc hm) fun σ H Q q => rd_chain (tI_bVal q)
theorem ib_of (hK : X.K = T.K := by rfl) (he : IE T E X a f) (hw : ∀ whole, isTrue a X.env whole = (do let v ← whole; standAt a.pos; holding [v] (truthy v)) := by intro _; rfl) : IB T E X a (bOf f) :=
  PT.mono (pt_truth he hw) fun σ H Q ⟨w, env, S, r, e, q⟩ => ⟨w, env, S, r, e, (RP.bnd q).mono (fun d S1 h1 w1 H1 x l1 r1 p1 => by
    cases p1 with
    | non => exact ⟨_, rfl, h1 w1 H1 l1 r1⟩
    | bl b => exact ⟨_, rfl, h1 w1 H1 l1 r1⟩
    | int i =>
      refine ⟨_, rfl, ?_⟩
      have z := h1 w1 H1 l1 r1
      have e : (i != 0) = decide (i ≠ 0) := by by_cases h : i = 0 <;> simp [h]
      rw [e]
      exact z
    | str s =>
      by_cases hl : s.length ≤ LINE
      · have h1' : RP (lift (if s.length ≤ LINE then some (decide (s.length ≠ 0)) else none) S1) (fun b S' => ∀ (w' : Wd) (H' : Hp), w.le w' → WR T w' S' H' → Q b H') (XW T w E) := h1
        rw [if_pos hl] at h1'
        refine ⟨_, ⟨by rw [sizeLine_eq]; exact hl, rfl⟩, ?_⟩
        have z := h1' w1 H1 l1 r1
        have e : ((s.length : Int) != 0) = decide (s.length ≠ 0) := by by_cases h : s.length = 0 <;> simp [h]
        rw [e]
        exact z
      · have h1' : RP (lift (if s.length ≤ LINE then some (decide (s.length ≠ 0)) else none) S1) (fun b S' => ∀ (w' : Wd) (H' : Hp), w.le w' → WR T w' S' H' → Q b H') (XW T w E) := h1
        rw [if_neg hl] at h1'
        exact (show False from h1').elim
    | tup q2 r2 =>
      refine ⟨_, .inr (.inl ⟨_, by rw [hK]; exact sqt_sub r1 q2, rfl⟩), ?_⟩
      have z := h1 w1 H1 l1 r1
      cases r2 <;> exact z
    | lst q2 r2 =>
      refine ⟨_, .inl ⟨_, .inl (.inl (r1.sub _ _ q2)), rfl⟩, ?_⟩
      have z := h1 w1 H1 l1 r1
      cases r2 <;> exact z
    | dct q2 r2 =>
      refine ⟨_, .inr (.inr ⟨_, r1.sub _ _ q2, rfl⟩), ?_⟩
      have z := h1 w1 H1 l1 r1
      cases r2 <;> exact z
    | _ => exact (show False from h1).elim) fun _ _ _ x => x⟩
variable {st : Stmt} {sts rest : List Stmt} {s t : ES}
theorem CP.le {w w' : Wd} {D : Ends} {c : Ctl} {S : Store} (l : w.le w') (h : CP T w D c S) : CP T w' D c S := by
  cases c with
  | nx e => exact fun w2 H2 σ2 l2 => h w2 H2 σ2 (l.trans l2)
  | rt d => exact fun w2 H2 v l2 => h w2 H2 v (l.trans l2)
  | bk e => exact fun w2 H2 σ2 l2 => h w2 H2 σ2 (l.trans l2)
  | ct e => exact fun w2 H2 σ2 l2 => h w2 H2 σ2 (l.trans l2)
theorem is_one (h : IS T E X st s) : ISs T E X [st] s := pss_one h
theorem is_nil : ISs T E X [] sPass := PSs.mono pss_nil fun D σ H ⟨w, env, S, r, e, q⟩ => q w H σ (Wd.le.refl _) r e
theorem is_cons (h1 : IS T E X st s) (h2 : ISs T E X rest t) : ISs T E X (st :: rest) (sSeq s t) :=
  PSs.mono (pss_cons h1 h2) fun D σ H ⟨w, env, S, r, e, q⟩ => ⟨w, env, S, r, e, (RP.bnd q).mono (fun c S1 h1 => by
    cases c with
    | nx e1 => exact fun w1 H1 σ1 l1 r1 p1 => ⟨w1, e1, S1, r1, p1, RP.mono h1 (fun c S2 h2 => CP.le l1 h2) fun _ _ _ x => x.le l1⟩
    | rt d => exact h1
    | bk e => exact h1
    | ct e => exact h1) fun _ _ _ x => x⟩
theorem is_set {i : Nat} {x : Str} {p' : Pos} (hN : X.N.Nodup) (hi : X.N[i]? = some x) (hx : Loc X.env.scope x) (he : IE T E X a f) (hs : swapsWith a (some (.Name x p')) pos.line X.env = pure false := by rfl) (hf : X.fn x = true ∨ X.env.scope.names.lookup x = some .local := by first | exact .inl rfl | exact .inr rfl | assumption) :
    IS T E X (.Assign [.Name x p'] a pos) (sSet i f) :=
  PS.mono (ps_set hN hi hx he hs hf) fun D σ H ⟨w, env, S, r, e, q⟩ => ⟨w, env, S, r, e, (RP.bnd q).mono (fun d S1 h1 w1 H1 v l1 r1 p1 => h1 w1 H1 _ l1 r1 ((e.mono l1).set p1 i)) fun _ _ _ x => x⟩
theorem is_ret (he : IE T E X a f) : IS T E X (.Return (some a) pos) (sRet f) :=
  PS.mono (ps_ret he) fun D σ H ⟨w, env, S, r, e, q⟩ => ⟨w, env, S, r, e, (RP.bnd q).mono (fun d S1 h1 w1 H1 v l1 r1 p1 => h1 w1 H1 v l1 r1 p1) fun _ _ _ x => x⟩
theorem is_expr (he : IE T E X a f) (hs : swapsWith a none pos.line X.env = pure false := by rfl) : IS T E X (.Expr a pos) (sExpr f) :=
  PS.mono (ps_expr he hs) fun D σ H ⟨w, env, S, r, e, q⟩ => ⟨w, env, S, r, e, (RP.bnd q).mono (fun d S1 h1 w1 H1 v l1 r1 p1 => h1 w1 H1 _ l1 r1 (e.mono l1)) fun _ _ _ x => x⟩
theorem is_if {bs cs : List Stmt} (hc : IB T E X c fb) (ha : ISs T E X bs s) (hb : ISs T E X cs t) : IS T E X (.If c bs cs pos) (sIf fb s t) :=
  PS.mono (ps_if hc ha hb) fun D σ H ⟨w, env, S, r, e, q⟩ => ⟨w, env, S, r, e, (RP.bnd q).mono (fun k S1 h1 w1 H1 l1 r1 => by
    cases k with
    | true => exact ⟨w1, env, S1, r1, e.mono l1, RP.mono h1 (fun c S2 h2 => CP.le l1 h2) fun _ _ _ x => x.le l1⟩
    | false => exact ⟨w1, env, S1, r1, e.mono l1, RP.mono h1 (fun c S2 h2 => CP.le l1 h2) fun _ _ _ x => x.le l1⟩) fun _ _ _ x => x⟩
theorem wipe_len (σ : St) : ∀ vs : List Nat, (wipe σ vs).length = σ.length := wipe_length σ
theorem wipe_get (σ : St) (j : Nat) : ∀ vs : List Nat, (wipe σ vs)[j]? = if j ∈ vs then (if j < σ.length then some none else none) else σ[j]?
  | [] => by simp [wipe]
  | v :: vs => by
    show ((wipe σ vs).set v none)[j]? = _
    by_cases h : v = j
    · subst h
      rw [List.getElem?_set]
      simp [wipe_len]
    · rw [List.getElem?_set_ne h, wipe_get σ j vs]
      have e : (j ∈ v :: vs) ↔ j ∈ vs := by simp [Ne.symm h]
      simp only [e]
theorem wipe_set {σ : St} {i : Nat} {x : Option V} {vs : List Nat} (h : i ∈ vs) : wipe (σ.set i x) vs = wipe σ vs := by
  apply List.ext_getElem?
  intro j
  rw [wipe_get, wipe_get, List.length_set]
  by_cases hj : j ∈ vs
  · rw [if_pos hj, if_pos hj]
  · rw [if_neg hj, if_neg hj, List.getElem?_set_ne (fun z => hj (by rw [← z]; exact h))]
theorem wipe_wipe (σ : St) (vs : List Nat) : wipe (wipe σ vs) vs = wipe σ vs := by
  apply List.ext_getElem?
  intro j
  rw [wipe_get, wipe_get, wipe_len]
  by_cases hj : j ∈ vs
  · rw [if_pos hj, if_pos hj]
  · rw [if_neg hj, if_neg hj]
def gI (T : Tb) (vs : List Nat) (p : Pat) : TG := fun v σ H Q => ∃ w env S d e, WR T w S H ∧ ER T w env σ ∧ Rep T w d v ∧ p d env = some e ∧ ∀ σ', ER T w e σ' → wipe σ' vs = wipe σ vs → Q σ' H
def gIs (T : Tb) (vs : List Nat) (p : List D → Env → Option Env) : TGs := fun us σ H Q => ∃ w env S ds e, WR T w S H ∧ ER T w env σ ∧ Reps T w ds us ∧ p ds env = some e ∧ ∀ σ', ER T w e σ' → wipe σ' vs = wipe σ vs → Q σ' H
def IG (T : Tb) (X : Cx) (vs : List Nat) (tg : Expr) (p : Pat) : Prop := PG X tg (gI T vs p)
def IGs (T : Tb) (X : Cx) (vs : List Nat) (tg : List Expr) (p : List D → Env → Option Env) : Prop := PGs X tg (gIs T vs p)
theorem PG.mono {X : Cx} {e : Expr} {t t' : TG} (h : PG X e t) (k : ∀ v σ H Q, t' v σ H Q → t v σ H Q) : PG X e t' := ⟨fun pins s σ H v u Q I r q => h.run pins s σ H v u Q I r (k _ _ _ _ q)⟩
theorem PGs.mono {X : Cx} {e : List Expr} {t t' : TGs} (h : PGs X e t) (k : ∀ v σ H Q, t' v σ H Q → t v σ H Q) : PGs X e t' := ⟨fun pins s σ H v u Q I r q => h.run pins s σ H v u Q I r (k _ _ _ _ q)⟩
variable {vs : List Nat}
theorem ig_name {i : Nat} {x : Str} (hN : X.N.Nodup) (hi : X.N[i]? = some x) (hx : Loc X.env.scope x) (hv : i ∈ vs := by decide) (hf : X.fn x = true ∨ X.env.scope.names.lookup x = some .local := by first | exact .inl rfl | exact .inr rfl | assumption) : IG T X vs (.Name x pos) (pName i) :=
  PG.mono (pg_name hN hi hx hf) fun v σ H Q ⟨w, env, S, d, e, r, q, p, h, k⟩ => by
    cases h
    exact k _ (q.set p i) (wipe_set hv)
theorem igs_nil : IGs T X vs [] pNil := PGs.mono pgs_nil fun v σ H Q ⟨w, env, S, d, e, r, q, p, h, k⟩ => by
  cases p with
  | nil => cases h; exact ⟨rfl, k _ q rfl⟩
  | cons _ _ => cases h
theorem igs_cons {p : Pat} {ps : List D → Env → Option Env} (h1 : IG T X vs a p) (h2 : IGs T X vs es ps) (hs : (assignEach (a :: es) X.env).map (·.2) = assign a X.env :: (assignEach es X.env).map (·.2) := by rfl) : IGs T X vs (a :: es) (pCons p ps) :=
  PGs.mono (pgs_cons h1 h2 hs) fun v σ H Q ⟨w, env, S, d, e, r, q, p0, h, k⟩ => by
    cases p0 with
    | nil => cases h
    | @cons d1 v1 ds us p1 p2 =>
      have h : (p d1 env).bind (fun e => ps ds e) = some e := h
      cases z : p d1 env with
      | none => rw [z] at h; cases h
      | some e1 =>
        rw [z] at h
        exact ⟨_, _, rfl, w, env, S, d1, e1, r, q, p1, z, fun σ1 q1 z1 => ⟨w, e1, S, ds, e, r, q1, p2, h, fun σ2 q2 z2 => k σ2 q2 (z2.trans z1)⟩⟩
theorem ig_tup {ps : List D → Env → Option Env} {k n : Nat} (hc : X.calm = true) (h : IGs T X vs es ps) (hl : ∀ ds env e, ps ds env = some e → ds.length = n) (hK : X.K = T.K := by rfl)
    (hn : (assignEach es X.env).length = n := by rfl) (hst : (assignEach es X.env).findIdx? (·.1) = none := by rfl) : IG T X vs (.Tuple es k pos) (pTup ps) :=
  PG.mono (pg_tup hc h hn hst) fun v σ H Q ⟨w, env, S, d, e, r, q, p0, h, k⟩ => by
    cases p0 with
    | tup q2 r2 => exact ⟨_, _, rfl, by rw [hK]; exact sqt_sub r q2, by rw [← r2.length]; exact hl _ _ _ h, w, env, S, _, e, r, q, r2, h, k⟩
    | _ => cases h
theorem is_unp {p : Pat} (he : IE T E X a f) (hg : IG T X vs b p) (hs : swapsWithSole [b] a pos.line X.env = pure false := by rfl) (hw : swappedStores [b] a X.env = pure none := by rfl) (h1 : (assignEach [b] X.env).map (·.2) = [assign b X.env] := by rfl) : IS T E X (.Assign [b] a pos) (sUnp p f) :=
  PS.mono (ps_asg he hg hs hw h1) fun D σ H ⟨w, env, S, r, e, q⟩ => ⟨w, env, S, r, e, (RP.bnd q).mono (fun d S1 h1 w1 H1 v l1 r1 p1 => by
    cases z : p d env with
    | none => rw [z] at h1; exact (show False from h1).elim
    | some e1 =>
      rw [z] at h1
      exact ⟨w1, env, S1, d, e1, r1, e.mono l1, p1, z, fun σ' q' _ => h1 w1 H1 σ' l1 r1 q'⟩) fun _ _ _ x => x⟩
end Ro
end
section
set_option Elab.async false
set_option linter.all false
set_option maxRecDepth 100000
set_option maxHeartbeats 4000000
namespace Ro
open PySem PySem.Spec PyProof.Rows L2
variable {T : Tb} {E : XK} {X : Cx} {a b c : Expr} {es : List Expr} {f g h : EX} {fa ga : AX} {fb gb : BX} {pos : Pos} {st : Stmt} {sts rest : List Stmt} {s t : ES}
structure ItR (T : Tb) (w : Wd) (ds : List D) (J : It) : Prop where
  goS : ∀ (i : Nat) H w' S, w.sb w' → WR T w' S H → i < ds.length → J.go i H
  stopS : ∀ (i : Nat) H w' S, w.sb w' → WR T w' S H → ds.length ≤ i → J.stop i H
  yldS : ∀ (i : Nat) H x H' w' S d, w.sb w' → WR T w' S H → ds[i]? = some d → J.yld i H x H' → ∃ w2, w'.le w2 ∧ WR T w2 S H' ∧ Rep T w2 d x
theorem ItR.go {T : Tb} {w : Wd} {ds : List D} {J : It} (it : ItR T w ds J) (i : Nat) (H : Hp) (w' : Wd) (S : Store) (l : w.le w') (r : WR T w' S H) (h : i < ds.length) : J.go i H := it.goS i H w' S l.tosb r h
theorem ItR.stop {T : Tb} {w : Wd} {ds : List D} {J : It} (it : ItR T w ds J) (i : Nat) (H : Hp) (w' : Wd) (S : Store) (l : w.le w') (r : WR T w' S H) (h : ds.length ≤ i) : J.stop i H := it.stopS i H w' S l.tosb r h
theorem ItR.yld {T : Tb} {w : Wd} {ds : List D} {J : It} (it : ItR T w ds J) (i : Nat) (H : Hp) (x : V) (H' : Hp) (w' : Wd) (S : Store) (d : D) (l : w.le w') (r : WR T w' S H) (hd : ds[i]? = some d) (y : J.yld i H x H') : ∃ w2, w'.le w2 ∧ WR T w2 S H' ∧ Rep T w2 d x := it.yldS i H x H' w' S d l.tosb r hd y
def tII (T : Tb) (E : XK) (fa : AX) : TI := fun σ H R => ∃ w env S, WR T w S H ∧ ER T w env σ ∧ RP (fa env S) (fun ds S' => ∀ w' H' J, w.le w' → WR T w' S' H' → ItR T w' ds J → R J H') (XW T w E)
def II (T : Tb) (E : XK) (X : Cx) (tg iter : Expr) (fa : AX) : Prop := PI X tg iter (tII T E fa)
theorem PI.mono {X : Cx} {tg e : Expr} {t t' : TI} (h : PI X tg e t) (k : ∀ σ H R, t' σ H R → t σ H R) : PI X tg e t' := ⟨fun pins s σ H R I q => h.run pins s σ H R I (k _ _ _ q)⟩
theorem is_for {tg iter : Expr} {body : List Stmt} {p : Pat} (hp : PassesOwn (model X.prog X.w) X.A X.env X.xe) (hc : X.calm = true) (hi : II T E X tg iter fa) {vs : List Nat} (hg : IG T X vs tg p) (hb : ISs T E X body s) (hs : ∀ x, foldedSetIterable iter X.env x = pure x := by intro _; rfl) : IS T E X (.For tg iter body [] pos) (sFor fa p s) :=
  PS.mono (ps_for hp hc hi hg hb hs) fun D σ H ⟨w, env, S, r, e, q⟩ => ⟨w, env, S, r, e, (RP.bnd q).mono (fun ds S1 h1 w1 H1 J l1 r1 it => by
    refine ⟨fun i m σ H => m = ds.length - i ∧ i ≤ ds.length ∧ ∃ w env S, w1.le w ∧ WR T w S H ∧ ER T w env σ ∧ RP (loop p s (ds.drop i) env S) (CP T w D) (XW T w E),
      ⟨ds.length, by simp, Nat.zero_le _, w1, env, S1, Wd.le.refl _, r1, e.mono l1, RP.mono h1 (fun c S2 h2 => CP.le l1 h2) fun _ _ _ x => x.le l1⟩, ?_⟩
    rintro i m σ H ⟨rfl, hi, w, env, S, l, r, e, q⟩
    by_cases hlt : i < ds.length
    · refine .inr ⟨it.go i H w S l r hlt, fun σ H => i + 1 ≤ ds.length ∧ ∃ w env S, w1.le w ∧ WR T w S H ∧ ER T w env σ ∧ RP (loop p s (ds.drop (i + 1)) env S) (CP T w D) (XW T w E), fun σ' H' h => ⟨ds.length - (i + 1), by omega, rfl, h⟩, fun x H' y => ?_⟩
      obtain ⟨w2, l2, r2, p2⟩ := it.yld i H x H' w S ds[i] l r (List.getElem?_eq_getElem hlt) y
      rw [List.drop_eq_getElem_cons hlt] at q
      unfold loop at q
      cases z : p ds[i] env with
      | none => rw [z] at q; exact (show False from q).elim
      | some e1 =>
        rw [z] at q
        refine ⟨w2, env, S, ds[i], e1, r2, e.mono l2, p2, z, fun σ2 q2 _ => ⟨w2, e1, S, r2, q2, (RP.bnd q).mono (fun c S3 h3 => ?_) fun _ _ _ x => x.le l2⟩⟩
        cases c with
        | nx e3 => exact fun w4 H4 σ4 l4 r4 q4 => ⟨hlt, w4, e3, S3, (l.trans l2).trans l4, r4, q4, RP.mono h3 (fun c S5 h5 => CP.le (l2.trans l4) h5) fun _ _ _ x => x.le (l2.trans l4)⟩
        | ct e3 => exact fun w4 H4 σ4 l4 r4 q4 => ⟨hlt, w4, e3, S3, (l.trans l2).trans l4, r4, q4, RP.mono h3 (fun c S5 h5 => CP.le (l2.trans l4) h5) fun _ _ _ x => x.le (l2.trans l4)⟩
        | bk e3 => exact fun w4 H4 σ4 l4 => h3 w4 H4 σ4 (l2.trans l4)
        | rt d => exact fun w4 H4 v l4 => h3 w4 H4 v (l2.trans l4)
    · have e0 : ds.drop i = [] := List.drop_of_length_le (by omega)
      rw [e0] at q
      exact .inl ⟨it.stop i H w S l r (by omega), q w H σ (Wd.le.refl _) r e⟩) fun _ _ _ x => x⟩
/-- a list, a tuple that stands still -/
def itSeq (f : EX) : AX := fun env S => (f env S).bnd fun d S1 => match d with
  | .lst l => .ok l S1
  | _ => .bad
def itTup (f : EX) : AX := fun env S => (f env S).bnd fun d S1 => match d with
  | .tup l => .ok l S1
  | _ => .bad
theorem itR_lst {w : Wd} {l : List D} {p : Addr} {vs : List V} (q : SqL T.K w.G p vs) (r : Reps T w l vs) : ItR T w l (Itl T.K p) where
  goS := fun i H w' S l1 r1 hi => by
    obtain ⟨v, h1, _⟩ := r.get (List.getElem?_eq_getElem hi)
    exact ⟨vs, v, sql_sub r1 (sql_le l1 q), h1⟩
  stopS := fun i H w' S l1 r1 hi => ⟨vs, sql_sub r1 (sql_le l1 q), by rw [← r.length]; exact hi⟩
  yldS := fun i H x H' w' S d l1 r1 hd y => by
    obtain ⟨rfl, y⟩ := y
    obtain ⟨v, h1, h2⟩ := r.get hd
    have e := y vs (sql_sub r1 (sql_le l1 q))
    rw [h1] at e
    cases e
    exact ⟨w', Wd.le.refl _, r1, h2.monoS l1⟩
theorem itR_tup {w : Wd} {l : List D} {p : Addr} {vs : List V} (q : SqT T.K w.G p vs) (r : Reps T w l vs) : ItR T w l (Itt T.K p) where
  goS := fun i H w' S l1 r1 hi => by
    obtain ⟨v, h1, _⟩ := r.get (List.getElem?_eq_getElem hi)
    exact ⟨vs, v, sqt_sub r1 (sqt_le l1 q), h1⟩
  stopS := fun i H w' S l1 r1 hi => ⟨vs, sqt_sub r1 (sqt_le l1 q), by rw [← r.length]; exact hi⟩
  yldS := fun i H x H' w' S d l1 r1 hd y => by
    obtain ⟨rfl, y⟩ := y
    obtain ⟨v, h1, h2⟩ := r.get hd
    have e := y vs (sqt_sub r1 (sqt_le l1 q))
    rw [h1] at e
    cases e
    exact ⟨w', Wd.le.refl _, r1, h2.monoS l1⟩
theorem ii_lst {tg : Expr} (hK : X.K = T.K) (h : IE T E X a f) : II T E X tg a (itSeq f) :=
  PI.mono (pi_list h) fun σ H Rr ⟨w, env, S, r, e, q⟩ => ⟨w, env, S, r, e, (RP.bnd q).mono (fun d S1 h1 w1 H1 v l1 r1 p1 => by
    cases p1 with
    | lst q2 r2 =>
      refine ⟨_, rfl, ⟨_, .inl (.inl (r1.sub _ _ q2))⟩, ?_⟩
      rw [hK]
      exact h1 w1 H1 _ l1 r1 (itR_lst (.inl (.inl q2)) r2)
    | _ => exact (show False from h1).elim) fun _ _ _ x => x⟩
theorem ii_tup {tg : Expr} (hK : X.K = T.K) (h : IE T E X a f) : II T E X tg a (itTup f) :=
  PI.mono (pi_tup h) fun σ H Rr ⟨w, env, S, r, e, q⟩ => ⟨w, env, S, r, e, (RP.bnd q).mono (fun d S1 h1 w1 H1 v l1 r1 p1 => by
    cases p1 with
    | tup q2 r2 =>
      refine ⟨_, rfl, ⟨_, by rw [hK]; exact sqt_sub r1 q2⟩, ?_⟩
      rw [hK]
      exact h1 w1 H1 _ l1 r1 (itR_tup q2 r2)
    | _ => exact (show False from h1).elim) fun _ _ _ x => x⟩
/-- lo, lo + 1, .. -/
def rngL (lo : Int) (n : Nat) : List D := (List.range n).map fun i : Nat => D.int (lo + (i : Int))
def small62 (i : Int) : Bool := decide (-(2 ^ 62) ≤ i ∧ i < 2 ^ 62)
def itR1 (fa : AX) : AX := fun env S => (fa env S).bnd fun ds S1 => match ds with
  | [.int j] => if small62 j then .ok (rngL 0 j.toNat) S1 else .bad
  | _ => .bad
def itR2 (fa : AX) : AX := fun env S => (fa env S).bnd fun ds S1 => match ds with
  | [.int i, .int j] => if small62 i && small62 j then .ok (rngL i (j - i).toNat) S1 else .bad
  | _ => .bad
theorem itR_rng {w : Wd} {lo : Int} {n : Nat} : ItR T w (rngL lo n) (Itr lo n) where
  goS := fun i H w' S l1 r1 hi => by
    have e : (rngL lo n).length = n := by unfold rngL; simp
    rw [e] at hi
    exact hi
  stopS := fun i H w' S l1 r1 hi => by
    have e : (rngL lo n).length = n := by unfold rngL; simp
    rw [e] at hi
    exact hi
  yldS := fun i H x H' w' S d l1 r1 hd y => by
    obtain ⟨rfl, rfl⟩ := y
    unfold rngL at hd
    rw [List.getElem?_map] at hd
    cases z : (List.range n)[i]? with
    | none => rw [z] at hd; cases hd
    | some k =>
      rw [z] at hd
      obtain ⟨hl, e⟩ := List.getElem?_eq_some_iff.mp z
      rw [List.getElem_range] at e
      subst e
      cases hd
      exact ⟨w', Wd.le.refl _, r1, .int _⟩
theorem ii_r1 {tg : Expr} {p : Pos} (hg : Gl X "range") (hm : X.mg "range" = none) (ha : IA T E X [a] fa) (hs : starEach [a] X.env = [(false, eval a X.env)] := by rfl) : II T E X tg (.Call (.Name "range" p) [a] [] pos) (itR1 fa) :=
  PI.mono (pi_range1 hg hm ha hs) fun σ H Rr ⟨w, env, S, r, e, q⟩ => ⟨w, env, S, r, e, (RP.bnd q).mono (fun ds S1 h1 w1 H1 v l1 r1 p1 => by
    split at h1
    · rename_i j
      cases p1 with
      | cons p2 p3 =>
        cases p2; cases p3
        by_cases hj : small62 j
        · rw [if_pos hj] at h1
          have hj' := of_decide_eq_true hj
          exact ⟨j, rfl, hj'.1, hj'.2, h1 w1 H1 _ l1 r1 itR_rng⟩
        · rw [if_neg hj] at h1
          exact (show False from h1).elim
    · exact (show False from h1).elim) fun _ _ _ x => x⟩
def spI (T : Tb) (n : Nat) (m : Fn) : Sp := fun vs H Q E => vs.length = n ∧ ∃ w ds S, WR T w S H ∧ Reps T w ds vs ∧ RP (m ds S) (fun d S' => ∀ w' H' v, w.le w' → WR T w' S' H' → Rep T w' d v → Q v H') (XW T w E)
theorem er_start {w : Wd} {N : List Str} {ds : List D} {vs : List V} (r : Reps T w ds vs) : ER T w (ds.map some ++ List.replicate (N.length - ds.length) none) (L2.start N vs) := by
  refine ⟨by simp [L2.start, r.length], fun i d h => ?_⟩
  by_cases hi : i < ds.length
  · rw [List.getElem?_append_left (by simpa using hi), List.getElem?_map] at h
    cases z : ds[i]? with
    | none => rw [z] at h; cases h
    | some d2 =>
      rw [z] at h
      have e : d2 = d := by simpa using h
      subst e
      obtain ⟨v, h1, h2⟩ := r.get z
      refine ⟨v, ?_, h2⟩
      unfold L2.start
      rw [List.getElem?_append_left (by rw [List.length_map, ← r.length]; exact hi), List.getElem?_map, h1]
      rfl
  · rw [List.getElem?_append_right (by simpa using hi)] at h
    rw [List.getElem?_replicate] at h
    split at h <;> cases h
/-- room, and no repr under way -/
structure RG (k : Nat) (A : Around) : Prop where
  rm : Room k A
  gd : A.guards = some []
theorem RG.mono {j k : Nat} {A : Around} (r : RG k A) (h : j ≤ k) : RG j A := ⟨r.rm.mono h, r.gd⟩
theorem RG.deeper {k : Nat} {A : Around} (r : RG (k + 1) A) (env : PySem.Env) : RG k (A.deeper env) := ⟨r.rm.deeper env, r.gd⟩
theorem RG.in1 {k : Nat} {A : Around} (r : RG (k + 1) A) : RG k A.in1 := ⟨r.rm.in1, r.gd⟩
theorem RG.make {k : Nat} {A : Around} (r : RG (k + 1) A) (c : Addr) (us : List Value) (kw : List (Str × Value)) : RG k (A.under (.builtin "type.__call__" ⟨.ref c :: us, kw⟩)) :=
  ⟨r.rm.make c us kw, by
    have e := r.gd
    have g : Code.guards (.builtin "type.__call__" ⟨.ref c :: us, kw⟩) = [] := by
      unfold Code.guards
      rw [if_neg (by show ¬ (guardIds.contains "type.__call__" = true); decide)]
    show pushGuards (Code.guards (.builtin "type.__call__" ⟨.ref c :: us, kw⟩)) A.guards = some []
    rw [g]
    exact e⟩
/-- .. a def that runs wherever there is room and no repr is under way -/
structure FnG (P : Program) (w : World) (K : PySem.W.Frag) (mg : Str → Option Value) (base : Heap) (k : Nat) (fp : Addr) (fd : FuncData) (ps : List Str) (sp : Sp) : Prop where
  run : ∀ (A : Around) (below : List PySem.Env) (s : Shared) (H : Hp) (ar : Args) (us : List Value) (vs : List V) (Q : VK) (E : XK), RG k A → Env0 P w K mg base A below s H → BindsTo s fd ar (ps.zip us) → Vals vs us → sp vs H Q E →
    codeAny (model P w) A (.call (.ref fp) ar) (CR (L2.CX P w) below P w H s Q E) s
theorem FnG.mono {P : Program} {w : World} {K : PySem.W.Frag} {mg : Str → Option Value} {base : Heap} {j k : Nat} {fp : Addr} {fd : FuncData} {ps : List Str} {sp : Sp} (F : FnG P w K mg base j fp fd ps sp) (h : j ≤ k) : FnG P w K mg base k fp fd ps sp :=
  ⟨fun A below s H ar us vs Q E hr => F.run A below s H ar us vs Q E (hr.mono h)⟩
theorem fnG_of {P : Program} {w : World} {K : PySem.W.Frag} {mg : Str → Option Value} {base : Heap} {k : Nat} {fp : Addr} {nm ql : Str} {prm : Arguments} {bd : List Stmt} {scp : Scope} {dV kV doc pm cdv ct oc : Value} {an od : Option Addr}
    {osl : Array (Option Value)} {N ps : List Str} {sp : Sp} (look : K.lookup fp = some ⟨oc, od, .func (PySem.W.fnOf nm ql prm bd scp dV kV doc pm an cdv ct), osl⟩) (code : PySem.W.codeIn K cdv ql = true) (Sc : FnScope N ps scp)
    (len : ∀ vs H Q E, sp vs H Q E → vs.length = ps.length)
    (h : ∀ (A : Around) (below : List PySem.Env) (s : Shared) (H : Hp) (vs : List V) (Q : VK) (E : XK), RG k (A.deeper (envOfC ql scp s.heap.objs.size fp cdv)) → sp vs H Q E →
      ∃ t, PSs (cxOf (L2.CX P w) P w K mg base N ql scp fp cdv A below s H E) bd t ∧ t { nx := fun _ H' => Q .non H', rt := Q } (L2.start N vs) H) :
    FnG P w K mg base (k + 1) fp (PySem.W.fnOf nm ql prm bd scp dV kV doc pm an cdv ct) ps sp := by
  constructor
  intro A below s H ar us vs Q E hr env0 hbd rv hsp
  have hlen := len _ _ _ _ hsp
  have inK : K.In s.heap := env0.mod.kin.keeps fun b o q => (env0.bs b o q).1
  have noLim : s.heap.NoLimit := env0.mod.nolimit.keeps fun b o q => (env0.bs b o q).1
  have kinds : ∀ z ∈ ps.zip us, scp.names.lookup z.1 = some .local ∨ (scp.names.lookup z.1 = some .cell ∧ ((cellsFrom (s.heap.objs.size + 1) scp.names []).lookup z.1).isSome = true) := by
    rintro ⟨n, v⟩ hz
    rcases Sc.par n (List.of_mem_zip hz).1 with k1 | k1
    · exact Or.inl k1
    · exact Or.inr ⟨k1, PySem.W.cellsFrom_some _ _ _ (Or.inl k1)⟩
  refine codeAny_call_function hr.rm.depth (inK _ _ look) rfl Sc.co Sc.gen rfl (PySem.W.codeRec_of inK code) (hbd _ _ _ _ ?_)
  refine wpAny_newFunctionEnv_cells Sc.kind kinds fun en hen st hx => ?_
  subst hen
  obtain ⟨t, runs, ends⟩ := h A below s H vs Q E (hr.deeper _) hsp
  have J0 : Inv (cxOf (L2.CX P w) P w K mg base N ql scp fp cdv A below s H E) [] (L2.start N vs) H st := inv_start Sc hr.rm.hd env0 hlen rv hx
  refine ⟨noLim.keeps hx.toInCall.keep, codeAny_func (wpAny_mono (runs.run [] st (L2.start N vs) H _ J0 ends) (fun fl st' hs => ?_) fun e st' hs => hs)⟩
  cases fl with
  | ret u =>
    obtain ⟨v, _, H', J, r1, q⟩ := hs
    exact ⟨v, H', J.os, J.bare, J.base, J.hok, r1, q⟩
  | next =>
    obtain ⟨_, H', J, q⟩ := hs
    exact ⟨V.non, H', J.os, J.bare, J.base, J.hok, rfl, q⟩
  | brk => exact hs.elim fun _ z => z.elim fun _ z => z.2.elim
  | cont => exact hs.elim fun _ z => z.elim fun _ z => z.2.elim
/-- a call by it -/
theorem FnG.callBy {X : Cx} {n k : Nat} {fp : Addr} {fd : FuncData} {ps ks : List Str} {sp : Sp} {gg : List Value → List Value → List Value} {gV : List V → List V → List V} {E : XK} {pins : List (Addr × Obj)} {σ : St} {H : Hp} {s : Shared} {Q : VK} {us ws : List Value} {vs zs : List V}
    (F : FnG X.prog X.w X.K X.mg X.base k fp fd ps sp) (hr : RG k X.A) (hb : KBn X.K fd ps n ks gg gV) (hx : Passes (L2.CX X.prog X.w) X E) (I : Inv X pins σ H s) (rv : Vals vs us) (rz : Vals zs ws) (l1 : vs.length = n) (l2 : zs.length = ks.length) (h : sp (gV vs zs) H Q E) :
    wpAny (model X.prog X.w) X.A (call (.ref fp) us (ks.zip ws)) (EP X pins σ Q) X.xe s := by
  have all := hb.rel rv rz
  have run := F.run X.A X.stack s H ⟨us, ks.zip ws⟩ (gg us ws) (gV vs zs) Q E hr I.env0 (hb.to s us ws I.kIn (rv.length.symm.trans l1) (rz.length.symm.trans l2)) all h
  refine wpAny_call (codeAny_mono run fun r st hq => ?_)
  match r, hq with
  | .error e, hq => exact hx pins σ H s e st I hq
  | .ok (.ret u), hq => exact I.after hq
/-- a new thing by its __init__ -/
theorem FnG.makes {X : Cx} {n k : Nat} {C fp : Addr} {fd : FuncData} {ps ks : List Str} {sp : Sp} {gg : List Value → List Value → List Value} {gV : List V → List V → List V} {E : XK} {pins : List (Addr × Obj)} {σ : St} {H : Hp} {s : Shared} {Q : VK} {us ws : List Value} {vs zs : List V}
    (M : Mk X.K C fp) (F : FnG X.prog X.w X.K X.mg X.base k fp fd ps sp) (hr : RG (k + 1) X.A) (hb : KBn X.K fd ps (n + 1) ks gg gV) (hx : Passes (L2.CX X.prog X.w) X E) (I : Inv X pins σ H s) (rv : Vals vs us) (rz : Vals zs ws) (l1 : vs.length = n) (l2 : zs.length = ks.length)
    (h : ∀ x dx, H x = none → H dx = none → dx ≠ x → sp (gV (.ref x :: vs) zs) (upd (upd H dx (.own x)) x (.ins C dx [])) (fun v H2 => v = .non ∧ Q (.ref x) H2) E) :
    wpAny (model X.prog X.w) X.A (call (.ref C) us (ks.zip ws)) (EP X pins σ Q) X.xe s := by
  have start := h (s.heap.objs.size + 1) s.heap.objs.size (I.hok.fresh (by omega)) (I.hok.fresh (by omega)) (by intro z; exact absurd z (Nat.ne_of_lt (Nat.lt_succ_self _)))
  have J := Inv.made (C := C) I
  have rv1 : Vals (V.ref (s.heap.objs.size + 1) :: vs) (Value.ref (s.heap.objs.size + 1) :: us) := .cons rfl rv
  have n1 : (Value.ref (s.heap.objs.size + 1) :: us).length = n + 1 := by rw [← rv1.length, List.length_cons, l1]
  have run := F.run _ X.stack _ _ ⟨Value.ref (s.heap.objs.size + 1) :: us, ks.zip ws⟩ _ _ _ E (hr.make C us (ks.zip ws)) (J.env0.make C us (ks.zip ws)) (hb.to _ _ ws J.kIn n1 (rz.length.symm.trans l2)) (hb.rel rv1 rz) start
  refine wpAny_call (make_map (f := fp) I.kIn M.makes M.init (beq_iff_eq.mp M.fn) (codeAny_mono run fun r st hq => ?_))
  match r, hq with
  | .error e, hq => exact hx pins σ _ _ e st J hq
  | .ok (.ret u), hq =>
    obtain ⟨v, H', J3, r3, e3, q3⟩ := J.after hq
    subst e3
    exact ⟨r3, V.ref (s.heap.objs.size + 1), H', J3, rfl, q3⟩
/-- a def of the text keeps what its mirror says -/
structure OkF (T : Tb) (P : Program) (w : World) (mg : Str → Option Value) (base : Heap) (k : Nat) (d : He.DefD) (ps : List Str) (m : Fn) : Prop where
  ex : ∃ fd, FunD T.K d.name d.qual d.params d.body d.scope (d.dvs T.K) [] (He.fAd T.K d.at_) fd ∧ FnG P w T.K mg base k (He.fAd T.K d.at_) fd ps (spI T ps.length m)
theorem OkF.mono {T : Tb} {P : Program} {w : World} {mg : Str → Option Value} {base : Heap} {j k : Nat} {d : He.DefD} {ps : List Str} {m : Fn} (F : OkF T P w mg base j d ps m) (h : j ≤ k) : OkF T P w mg base k d ps m := by
  obtain ⟨fd, F1, F2⟩ := F.ex
  exact ⟨fd, F1, F2.mono h⟩
theorem OkF.mk' {P : Program} {w : World} {mg : Str → Option Value} {base : Heap} {k : Nat} {d : He.DefD} {ps N : List Str} {body : ES} {fd : FuncData}
    (F : FunD T.K d.name d.qual d.params d.body d.scope (d.dvs T.K) [] (He.fAd T.K d.at_) fd) (Sc : FnScope N ps d.scope)
    (h : ∀ (cdv : Value) (A : Around) (outer : List PySem.Env) (s : Shared) (H : Hp) (E : XK), RG k (A.deeper (envOfC d.qual d.scope s.heap.objs.size (He.fAd T.K d.at_) cdv)) →
      ISs T E (cxOf (L2.CX P w) P w T.K mg base N d.qual d.scope (He.fAd T.K d.at_) cdv A outer s H E) d.body body) : OkF T P w mg base (k + 1) d ps (fnM N.length body) := by
  refine ⟨fd, F, ?_⟩
  obtain ⟨oc, od, dV, kV, doc, pm, an, cdv, ct, osl, rfl, lk, hcd, _, _⟩ := F.ex
  refine fnG_of lk hcd Sc (fun vs H Q E h => h.1) fun A outer s H vs Q E hr hsp => ⟨_, h cdv A outer s H E hr, ?_⟩
  obtain ⟨hl, w0, ds, S, r, q, hm⟩ := hsp
  refine ⟨w0, _, S, r, er_start q, (RP.bnd hm).mono (fun c S1 h1 => ?_) fun _ _ _ x => x⟩
  cases c with
  | rt d => exact h1
  | nx e => exact fun w' H' σ' l r' q' => h1 w' H' .non l r' .non
  | bk e => exact (show False from h1).elim
  | ct e => exact (show False from h1).elim
end Ro
end
section
set_option Elab.async false
set_option linter.all false
set_option maxRecDepth 100000
set_option maxHeartbeats 4000000
namespace Ro
open PySem PySem.Spec PyProof.Rows L2
variable {T : Tb} {E : XK} {X : Cx} {a b c : Expr} {es : List Expr} {f g h : EX} {fa ga fk : AX} {fb gb : BX} {pos : Pos} {st : Stmt} {sts rest : List Stmt} {s t : ES}
theorem reps_get_none {w : Wd} {xs : List D} {us : List V} (r : Reps T w xs us) {i : Nat} (h : xs[i]? = none) : us[i]? = none := by
  have e := List.getElem?_eq_none_iff.mp h
  exact List.getElem?_eq_none_iff.mpr (by rw [← r.length]; exact e)
theorem vals_pick : ∀ (pk : List (Nat × Nat)) {vs ds zs : List V} {us its ws : List Value}, Vals vs us → Vals ds its → Vals zs ws → Vals (pick pk vs ds zs) (pick pk us its ws)
  | [], _, _, _, _, _, _, _, _, _ => .nil
  | q :: pk, vs, ds, zs, us, its, ws, h1, h2, h3 => by
    have ih := vals_pick pk h1 h2 h3
    have key : ∀ {xs : List V} {ys : List Value}, Vals xs ys → Vals (xs[q.2]?).toList (ys[q.2]?).toList := fun {xs ys} r => by
      cases e : xs[q.2]? with
      | none => rw [r.none_of e]; exact .nil
      | some x =>
        obtain ⟨y, e1, e2⟩ := r.get e
        rw [e1]
        exact .cons e2 .nil
    show Vals (((if q.1 = 0 then vs else if q.1 = 1 then ds else zs)[q.2]?).toList ++ pick pk vs ds zs) (((if q.1 = 0 then us else if q.1 = 1 then its else ws)[q.2]?).toList ++ pick pk us its ws)
    refine Vals.append ?_ ih
    by_cases c1 : q.1 = 0
    · rw [if_pos c1, if_pos c1]; exact key h1
    · rw [if_neg c1, if_neg c1]
      by_cases c2 : q.1 = 1
      · rw [if_pos c2, if_pos c2]; exact key h2
      · rw [if_neg c2, if_neg c2]; exact key h3
theorem reps_pick {w : Wd} : ∀ (pk : List (Nat × Nat)) {vs ds zs : List D} {us its ws : List V}, Reps T w vs us → Reps T w ds its → Reps T w zs ws → Reps T w (pick pk vs ds zs) (pick pk us its ws)
  | [], _, _, _, _, _, _, _, _, _ => .nil
  | q :: pk, vs, ds, zs, us, its, ws, h1, h2, h3 => by
    have ih := reps_pick pk h1 h2 h3
    have key : ∀ {xs : List D} {ys : List V}, Reps T w xs ys → Reps T w (xs[q.2]?).toList (ys[q.2]?).toList := fun {xs ys} r => by
      cases e : xs[q.2]? with
      | none => rw [reps_get_none r e]; exact .nil
      | some x =>
        obtain ⟨y, e1, e2⟩ := r.get e
        rw [e1]
        exact .cons e2 .nil
    show Reps T w (((if q.1 = 0 then vs else if q.1 = 1 then ds else zs)[q.2]?).toList ++ pick pk vs ds zs) (((if q.1 = 0 then us else if q.1 = 1 then its else ws)[q.2]?).toList ++ pick pk us its ws)
    refine Reps.append ?_ ih
    by_cases c1 : q.1 = 0
    · rw [if_pos c1, if_pos c1]; exact key h1
    · rw [if_neg c1, if_neg c1]
      by_cases c2 : q.1 = 1
      · rw [if_pos c2, if_pos c2]; exact key h2
      · rw [if_neg c2, if_neg c2]; exact key h3
/-- a call's binding -/
structure KBD (T : Tb) (fd : FuncData) (ps : List Str) (n : Nat) (ks : List Str) (pk : List (Nat × Nat)) (dfs : List D) : Prop where
  ex : ∃ its dvs, KBn T.K fd ps n ks (fun us ws => pick pk us its ws) (fun vs zs => pick pk vs dvs zs) ∧ ∀ w, Reps T w dfs dvs
def dvD : He.Dv → D
  | .bl b => .bl b
  | .int i => .int i
  | .str s => .str s
  | _ => .non
def dvOk : He.Dv → Bool
  | .non => true
  | .bl _ => true
  | .int _ => true
  | .str _ => true
  | _ => false
theorem reps_dfl {K : PySem.W.Frag} {w : Wd} : ∀ {l : List He.Dv}, l.all dvOk = true → Reps T w (l.map dvD) (l.map (He.Dv.v K))
  | [], _ => .nil
  | d :: l, h => by
    obtain ⟨h1, h2⟩ := Bool.and_eq_true_iff.mp (show (dvOk d && l.all dvOk) = true from h)
    refine .cons ?_ (reps_dfl h2)
    cases d <;> first | exact .non | exact .bl _ | exact .int _ | exact .str _ | cases h1
/-- no default is asked -/
theorem kbd_n {x qual : Str} {params : Arguments} {body : List Stmt} {scope : Scope} {f : Addr} {fd : FuncData} {ps ks : List Str} {n : Nat} {pk : List (Nat × Nat)} (F : FunD T.K x qual params body scope [] [] f fd)
    (h : ∀ (kV doc pm : Value) (an : Option Addr) (cdv ct : Value) (us ws : List Value), us.length = n → ws.length = ks.length → bindArgs (PySem.W.fnOf x qual params body scope .none kV doc pm an cdv ct) ⟨us, ks.zip ws⟩ = pure (ps.zip (pick pk us [] ws))) : KBD T fd ps n ks pk [] := by
  obtain ⟨oc, od, dV, kV, doc, pm, an, cdv, ct, osl, rfl, lk, hcd, hD, hK⟩ := F.ex
  rcases hD with ⟨_, rfl⟩ | ⟨e, _⟩
  · exact ⟨[], [], ⟨fun s us ws X l1 l2 => .of_eq (h kV doc pm an cdv ct us ws l1 l2), fun r1 r2 => vals_pick pk r1 .nil r2⟩, fun _ => .nil⟩
  · exact absurd rfl e
theorem kbd_d {x qual : Str} {params : Arguments} {body : List Stmt} {scope : Scope} {f : Addr} {fd : FuncData} {ps ks : List Str} {n : Nat} {pk : List (Nat × Nat)} {l : List He.Dv} (F : FunD T.K x qual params body scope (l.map (He.Dv.v T.K)) [] f fd) (hl : l.all dvOk = true) (hd : l ≠ [])
    (h : ∀ (T : Addr) (kV doc pm : Value) (an : Option Addr) (cdv ct : Value) (us its ws : List Value), us.length = n → its.length = l.length → ws.length = ks.length →
      ∃ k, bindArgs (PySem.W.fnOf x qual params body scope (.ref T) kV doc pm an cdv ct) ⟨us, ks.zip ws⟩ = seqItems? (.ref T) >>= k ∧ k (some its.toArray) = pure (ps.zip (pick pk us its ws))) : KBD T fd ps n ks pk (l.map dvD) := by
  obtain ⟨its, hb⟩ := F.kbindsD (ps := ps) n ks (fun us its ws => pick pk us its ws) (by simpa using hd) (fun r1 r2 r3 => vals_pick pk r1 r2 r3) (fun T kV doc pm an cdv ct us its ws h1 h2 h3 => h T kV doc pm an cdv ct us its ws h1 (by simpa using h2) h3)
  exact ⟨its, _, hb, fun w => reps_dfl hl⟩
def IK (T : Tb) (E : XK) (X : Cx) (kws : List Keyword) (fa : AX) : Prop := PK X kws (tIa T E fa)
theorem PK.mono {X : Cx} {es : List Keyword} {t t' : TA} (h : PK X es t) (k : ∀ σ H Q, t' σ H Q → t σ H Q) : PK X es t' := ⟨fun pos pins s σ H Q I q => h.run pos pins s σ H Q I (k _ _ _ q)⟩
theorem ik_nil : IK T E X [] aNil := PK.mono pk_nil fun σ H Q ⟨w, env, S, r, e, q⟩ => q w H [] (Wd.le.refl _) r .nil
theorem ik_cons {kws : List Keyword} {nm : Option Str} {kpos : Pos} (ha : IE T E X a f) (hr : IK T E X kws fa) : IK T E X (⟨nm, a, kpos⟩ :: kws) (aCons f fa) :=
  PK.mono (pk_cons ha hr) fun σ H Q ⟨w, env, S, r, e, q⟩ => ⟨w, env, S, r, e, (RP.bnd q).mono (fun d S1 h1 w1 H1 x l1 r1 p1 => ⟨w1, env, S1, r1, e.mono l1, (RP.bnd h1).mono (fun ds S2 h2 w2 H2 xs l2 r2 p2 => h2 w2 H2 _ (l1.trans l2) r2 (.cons (p1.mono l2) p2)) fun _ _ _ x => x.le l1⟩) fun _ _ _ x => x⟩
abbrev Pk (T : Tb) (w : Wd) (Q : VK) : D → Store → Prop := fun d S' => ∀ w' H' v, w.le w' → WR T w' S' H' → Rep T w' d v → Q v H'
def AK (T : Tb) (E : XK) (X : Cx) (es : List Expr) (kws : List Keyword) (pos : Pos) (ks : List Str) (fa fk : AX) : Prop :=
  ∀ (pins : List (Addr × Obj)) (s : Shared) (σ : St) (H : Hp) (w : Wd) (env : Env) (S : Store) (m : List D → List D → Store → R D) (Q : VK) (fv : Value) (first : List Value) (Qf : Value → Shared → Prop),
    Inv X pins σ H s → WR T w S H → ER T w env σ → PySem.W.keepIn X.K fv = true → RP ((fa env S).bnd fun xs S1 => (fk env S1).bnd fun zs S2 => m xs zs S2) (Pk T w Q) (XW T w E) →
    (∀ s2 H2 us ws vs zs w2 xs ys S2, Inv X pins σ H2 s2 → w.le w2 → WR T w2 S2 H2 → Vals vs us → Vals zs ws → Reps T w2 xs vs → Reps T w2 ys zs → RP (m xs ys S2) (Pk T w2 Q) (XW T w2 E) → wpAny (model X.prog X.w) X.A (call fv (first ++ us) (ks.zip ws)) Qf X.xe s2) →
    wpAny (model X.prog X.w) X.A (callWith pos fv first (backTo pos (starEach es X.env)) (backToKw pos (keywordEach kws X.env))) Qf X.xe s
theorem ak_cons {kws : List Keyword} {ks : List Str} (ha : IA T E X (a :: es) fa) (hkw : IK T E X kws fk) (hall : (backToKw pos (keywordEach kws X.env)).all (·.1.isSome) = true := by rfl) (hks : (backToKw pos (keywordEach kws X.env)).filterMap (·.1) = ks := by rfl)
    (he : starEach (a :: es) X.env = (false, eval a X.env) :: starEach es X.env := by rfl) (hpl : ((backTo pos (starEach (a :: es) X.env)).any (·.1) || (backToKw pos (keywordEach kws X.env)).any (·.1.isNone)) = false := by rfl) : AK T E X (a :: es) kws pos ks fa fk := by
  intro pins s σ H w env S m Q fv first Qf I r e hk q k
  refine PySem.W.callWith_KW (h₀ := X.base) I.ok.mod.kin hk hall (thn (ha.run pos pins s σ H (fun vs2 H2 => ∃ w1 xs S1, w.le w1 ∧ WR T w1 S1 H2 ∧ Reps T w1 xs vs2 ∧ RP ((fk env S1).bnd fun zs S2 => m xs zs S2) (Pk T w Q) (XW T w E)) I ⟨w, env, S, r, e, (RP.bnd q).mono (fun xs S1 h1 w1 H1 vs l1 r1 p1 => ⟨w1, xs, S1, l1, r1, p1, h1⟩) fun _ _ _ x => x⟩) fun us s1 ⟨vs, H1, I1, rv, q1⟩ => ?_) hpl he
  · obtain ⟨w1, xs, S1, l1, r1, p1, h1⟩ := q1
    refine thn (hkw.run pos pins s1 σ H1 (fun zs H2 => ∃ w2 ys S2, w1.le w2 ∧ WR T w2 S2 H2 ∧ Reps T w2 ys zs ∧ RP (m xs ys S2) (Pk T w Q) (XW T w E)) I1 ⟨w1, env, S1, r1, e.mono l1, (RP.bnd h1).mono (fun ys S2 h2 w2 H2 zs l2 r2 p2 => ⟨w2, ys, S2, l2, r2, p2, h2⟩) fun _ _ _ x => x.le l1⟩) fun ws s2 ⟨zs, H2, I2, rz, w2, ys, S2, l2, r2, p2, h2⟩ => ⟨I2.kIn, ?_⟩
    rw [hks]
    exact k s2 H2 us ws vs zs w2 xs ys S2 I2 (l1.trans l2) r2 rv rz (p1.mono l2) p2 (RP.mono h2 (fun d S' q w' H' v l => q w' H' v ((l1.trans l2).trans l)) fun _ _ _ x => x.le (l1.trans l2))
theorem ak_nil {kws : List Keyword} {ks : List Str} (hkw : IK T E X kws fk) (hall : (backToKw pos (keywordEach kws X.env)).all (·.1.isSome) = true := by rfl) (hks : (backToKw pos (keywordEach kws X.env)).filterMap (·.1) = ks := by rfl)
    (hpl : ((backTo pos (starEach [] X.env)).any (·.1) || (backToKw pos (keywordEach kws X.env)).any (·.1.isNone)) = false := by rfl) : AK T E X [] kws pos ks aNil fk := by
  intro pins s σ H w env S m Q fv first Qf I r e hk q k
  refine PySem.W.callWith_KW0 (h₀ := X.base) I.ok.mod.kin hk hall (thn (hkw.run pos pins s σ H (fun zs H2 => ∃ w2 ys S2, w.le w2 ∧ WR T w2 S2 H2 ∧ Reps T w2 ys zs ∧ RP (m [] ys S2) (Pk T w Q) (XW T w E)) I ⟨w, env, S, r, e, (RP.bnd (show RP ((fk env S).bnd fun ys S2 => m [] ys S2) (Pk T w Q) (XW T w E) from q)).mono (fun ys S2 h2 w2 H2 zs l2 r2 p2 => ⟨w2, ys, S2, l2, r2, p2, h2⟩) fun _ _ _ x => x⟩) fun ws s2 ⟨zs, H2, I2, rz, w2, ys, S2, l2, r2, p2, h2⟩ => ⟨I2.kIn, ?_⟩) hpl
  rw [hks]
  exact k s2 H2 [] ws [] zs w2 [] ys S2 I2 l2 r2 .nil rz .nil p2 (RP.mono h2 (fun d S' q w' H' v l => q w' H' v (l2.trans l)) fun _ _ _ x => x.le l2)
theorem fn_core {k n : Nat} {fd : FuncData} {fp : Addr} {ps ks : List Str} {m : Fn} {pk : List (Nat × Nat)} {dfs : List D} (F : FnG X.prog X.w T.K X.mg X.base k fp fd ps (spI T ps.length m)) (hK : X.K = T.K) (hr : RG k X.A) (hb : KBD T fd ps n ks pk dfs) (tk : Takes X fun c d _ H => E c d H)
    {pins : List (Addr × Obj)} {s : Shared} {σ : St} {H : Hp} {w : Wd} {S : Store} {us ws : List Value} {vs zs : List V} {xs ys : List D} {Q : VK} (I : Inv X pins σ H s) (r : WR T w S H) (rv : Vals vs us) (rz : Vals zs ws) (px : Reps T w xs vs) (py : Reps T w ys zs)
    (l1 : xs.length = n) (l2 : ys.length = ks.length) (l3 : (pick pk xs dfs ys).length = ps.length) (q : RP (m (pick pk xs dfs ys) S) (Pk T w Q) (XW T w E)) : wpAny (model X.prog X.w) X.A (call (.ref fp) us (ks.zip ws)) (EP X pins σ Q) X.xe s := by
  obtain ⟨its, dvs, kb, rd⟩ := hb.ex
  have F' : FnG X.prog X.w X.K X.mg X.base k fp fd ps (spI T ps.length m) := by rw [hK]; exact F
  have kb' : KBn X.K fd ps n ks (fun us ws => pick pk us its ws) (fun vs zs => pick pk vs dvs zs) := by rw [hK]; exact kb
  have pp := reps_pick pk px (rd w) py
  exact FnG.callBy F' hr kb' (passes_call tk fun _ _ _ _ h => h) I rv rz (by rw [← px.length]; exact l1) (by rw [← py.length]; exact l2) ⟨by rw [← pp.length]; exact l3, w, _, S, r, pp, q⟩
/-- how many, and put -/
def callM (m : Fn) (n kn pn : Nat) (pk : List (Nat × Nat)) (dfs : List D) : List D → List D → Store → R D := fun xs ys S => if xs.length = n ∧ ys.length = kn ∧ (pick pk xs dfs ys).length = pn then m (pick pk xs dfs ys) S else .bad
def eFn (m : List D → List D → Store → R D) (fa fk : AX) : EX := fun env S => (fa env S).bnd fun xs S1 => (fk env S1).bnd fun zs S2 => m xs zs S2
theorem callM_ok {m : Fn} {n kn pn : Nat} {pk : List (Nat × Nat)} {dfs xs ys : List D} {S : Store} {Pk : D → Store → Prop} {Pe : String → List D → Store → Prop} (h : RP (callM m n kn pn pk dfs xs ys S) Pk Pe) :
    xs.length = n ∧ ys.length = kn ∧ (pick pk xs dfs ys).length = pn ∧ RP (m (pick pk xs dfs ys) S) Pk Pe := by
  unfold callM at h
  by_cases c : xs.length = n ∧ ys.length = kn ∧ (pick pk xs dfs ys).length = pn
  · rw [if_pos c] at h
    exact ⟨c.1, c.2.1, c.2.2, h⟩
  · rw [if_neg c] at h
    exact (show False from h).elim
/-- f(.., k = ..) -/
theorem ie_fn {k n : Nat} {d : He.DefD} {x : Str} {p : Pos} {kws : List Keyword} {ps ks : List Str} {m : Fn} {pk : List (Nat × Nat)} {dfs : List D} (F : OkF T X.prog X.w X.mg X.base k d ps m) (hK : X.K = T.K) (hr : RG k X.A) (hg : Gl X x) (hm : X.mg x = some (.ref (He.fAd T.K d.at_)))
    (hb : ∀ fd, FunD T.K d.name d.qual d.params d.body d.scope (d.dvs T.K) [] (He.fAd T.K d.at_) fd → KBD T fd ps n ks pk dfs) (tk : Takes X fun c d _ H => E c d H) (ha : AK T E X es kws pos ks fa fk) (hdb : (x == ("__debug__" : Str)) = false := by decide +kernel) :
    IE T E X (.Call (.Name x p) es kws pos) (eFn (callM m n ks.length ps.length pk dfs) fa fk) := by
  obtain ⟨fd, FD, FO⟩ := F.ex
  refine ⟨fun pins s σ H Q I h => ?_⟩
  obtain ⟨w, env, S, r, e, q⟩ := h
  refine wpAny_Call_Name_kw (ld_glob I hg hm ?_ hdb)
  refine ha pins s σ H w env S _ Q _ [] _ I r e (by rw [hK]; exact FD.kp) q fun s2 H2 us ws vs zs w2 xs ys S2 I2 l2 r2 rv rz px py q2 => ?_
  obtain ⟨c1, c2, c3, q3⟩ := callM_ok q2
  exact fn_core FO hK hr (hb fd FD) tk I2 r2 rv rz px py c1 c2 c3 q3
end Ro
end
section
set_option Elab.async false
set_option linter.all false
set_option maxRecDepth 100000
set_option maxHeartbeats 4000000
namespace Ro
open PySem PySem.Spec PyProof.Rows L2
variable {T : Tb} {E : XK} {X : Cx} {a b c : Expr} {es : List Expr} {f g h : EX} {fa ga fk : AX} {fb gb : BX} {pos : Pos} {st : Stmt} {sts rest : List Stmt} {s t : ES}
theorem lookup_rep {w : Wd} {f : String} {d : D} : ∀ {fs : List (String × D)} {gs : List (Str × V)}, gs.map (·.1) = fs.map (fun p => Str.ofString p.1) → Reps T w (fs.map (·.2)) (gs.map (·.2)) → fs.lookup f = some d → ∃ v, gs.lookup (Str.ofString f) = some v ∧ Rep T w d v
  | [], _, _, _, h => by cases h
  | (k, e) :: fs, [], h1, _, _ => by cases h1
  | (k, e) :: fs, (k2, v) :: gs, h1, h2, h3 => by
    have h1' : k2 :: gs.map (·.1) = Str.ofString k :: fs.map (fun p => Str.ofString p.1) := h1
    injection h1' with e1 e2
    have h2' : Reps T w (e :: fs.map (·.2)) (v :: gs.map (·.2)) := h2
    cases h2' with
    | cons r1 r2 =>
      rw [List.lookup_cons] at h3 ⊢
      by_cases hk : f = k
      · subst hk
        rw [beq_self_eq_true] at h3
        have e3 : e = d := Option.some.inj h3
        subst e3
        rw [e1, beq_self_eq_true]
        exact ⟨v, rfl, r1⟩
      · rw [beq_eq_false_iff_ne.mpr hk] at h3
        have hk2 : Str.ofString f ≠ k2 := fun z => hk (ofString_inj.mp (z.trans e1))
        rw [beq_eq_false_iff_ne.mpr hk2]
        exact lookup_rep e2 r2 h3
theorem lookup_none {f : String} : ∀ {fs : List (String × D)} {gs : List (Str × V)}, gs.map (·.1) = fs.map (fun p => Str.ofString p.1) → fs.lookup f = none → gs.lookup (Str.ofString f) = none
  | [], [], _, _ => rfl
  | [], _ :: _, h, _ => by cases h
  | (k, e) :: fs, [], h1, _ => by cases h1
  | (k, e) :: fs, (k2, v) :: gs, h1, h3 => by
    have h1' : k2 :: gs.map (·.1) = Str.ofString k :: fs.map (fun p => Str.ofString p.1) := h1
    injection h1' with e1 e2
    rw [List.lookup_cons] at h3 ⊢
    by_cases hk : f = k
    · subst hk
      rw [beq_self_eq_true] at h3
      cases h3
    · rw [beq_eq_false_iff_ne.mpr hk] at h3
      have hk2 : Str.ofString f ≠ k2 := fun z => hk (ofString_inj.mp (z.trans e1))
      rw [beq_eq_false_iff_ne.mpr hk2]
      exact lookup_none e2 h3
theorem put_rep {w : Wd} {f : String} {d : D} {v : V} (q : Rep T w d v) : ∀ {fs : List (String × D)} {gs : List (Str × V)}, gs.map (·.1) = fs.map (fun p => Str.ofString p.1) → Reps T w (fs.map (·.2)) (gs.map (·.2)) →
    (putF (Str.ofString f) v gs).map (·.1) = (setF f d fs).map (fun p => Str.ofString p.1) ∧ Reps T w ((setF f d fs).map (·.2)) ((putF (Str.ofString f) v gs).map (·.2))
  | [], [], _, _ => ⟨rfl, .cons q .nil⟩
  | [], _ :: _, h, _ => by cases h
  | (k, e) :: fs, [], h1, _ => by cases h1
  | (k, e) :: fs, (k2, u) :: gs, h1, h2 => by
    have h1' : k2 :: gs.map (·.1) = Str.ofString k :: fs.map (fun p => Str.ofString p.1) := h1
    injection h1' with e1 e2
    have h2' : Reps T w (e :: fs.map (·.2)) (u :: gs.map (·.2)) := h2
    cases h2' with
    | cons r1 r2 =>
      show (if k2 = Str.ofString f then (k2, v) :: gs else (k2, u) :: putF (Str.ofString f) v gs).map (·.1) = (if k = f then (f, d) :: fs else (k, e) :: setF f d fs).map (fun p => Str.ofString p.1) ∧ Reps T w ((if k = f then (f, d) :: fs else (k, e) :: setF f d fs).map (·.2)) ((if k2 = Str.ofString f then (k2, v) :: gs else (k2, u) :: putF (Str.ofString f) v gs).map (·.2))
      by_cases hk : k = f
      · subst hk
        rw [if_pos e1, if_pos rfl]
        exact ⟨by rw [List.map_cons, List.map_cons, e2, e1], .cons q r2⟩
      · rw [if_neg hk, if_neg (fun z => hk (ofString_inj.mp (e1.symm.trans z)))]
        obtain ⟨h3, h4⟩ := put_rep q e2 r2
        exact ⟨by rw [List.map_cons, List.map_cons, e1, h3], .cons r1 h4⟩
theorem zip_fst : ∀ {ns : List String} {ds : List D}, ns.length = ds.length → (ns.zip ds).map (fun p => Str.ofString p.1) = ns.map Str.ofString ∧ (ns.zip ds).map (·.2) = ds
  | [], [], _ => ⟨rfl, rfl⟩
  | [], _ :: _, h => by cases h
  | _ :: _, [], h => by cases h
  | n :: ns, d :: ds, h => by
    obtain ⟨h1, h2⟩ := zip_fst (ns := ns) (ds := ds) (Nat.succ.inj h)
    exact ⟨by rw [List.zip_cons_cons, List.map_cons, List.map_cons, h1], by rw [List.zip_cons_cons, List.map_cons, h2]⟩
/-- a thing with fields, as it lies -/
theorem inst_of {w : Wd} {S : Store} {H : Hp} {x : V} {cf : String → List String} (hcf : T.cf = cf) (r : WR T w S H) {d : D} (p : Rep T w d x) :
    (∀ c ds, d = .obj c ds → ∃ a dx gs, x = .ref a ∧ H a = some (.ins (He.ga T.K (c : Str)) dx gs) ∧ gs.map (·.1) = ((cf c).zip ds).map (fun p => Str.ofString p.1) ∧ Reps T w (((cf c).zip ds).map (·.2)) (gs.map (·.2))) ∧
    (∀ n c fs, d = .ref n → S[n]? = some (.ins c fs) → ∃ a dx gs, x = .ref a ∧ w.am[n]? = some a ∧ H a = some (.ins (He.ga T.K (c : Str)) dx gs) ∧ gs.map (·.1) = fs.map (fun p => Str.ofString p.1) ∧ Reps T w (fs.map (·.2)) (gs.map (·.2))) := by
  constructor
  · rintro c ds rfl
    cases p with
    | obj h n q =>
      rename_i a dx fs
      have hl : (cf c).length = ds.length := by
        rw [hcf] at n
        have e := congrArg List.length n
        rw [List.length_map, List.length_map] at e
        rw [q.length, List.length_map]
        exact e.symm
      obtain ⟨z1, z2⟩ := zip_fst hl
      exact ⟨a, dx, fs, rfl, r.sub _ _ h, by rw [z1, n, hcf], by rw [z2]; exact q⟩
  · rintro n c fs rfl hS
    cases p with
    | ref h =>
      obtain ⟨dx, gs, h1, h2, h3⟩ := r.cell n _ _ hS h
      exact ⟨_, dx, gs, rfl, h, h1, h2, h3⟩
theorem ie_attr {cf : String → List String} {cs : List String} {fn : String} (hcf : T.cf = cf) (hK : X.K = T.K) (hc : ∀ c ∈ cs, Cls T.K (He.ga T.K (c : Str)) ∧ NoAttr T.K (He.ga T.K (c : Str)) (fn : Str)) (ha : IE T E X a f) (hb : attributeBase a (fn : Str) X.env (eval a X.env) = eval a X.env := by rfl) :
    IE T E X (.Attribute a (fn : Str) pos) (eAttr cf cs fn f) :=
  PE.mono (pe_fld ha hb) fun σ H Q ⟨w, env, S, r, e, q⟩ => ⟨w, env, S, r, e, (RP.bnd q).mono (fun d S1 h1 w1 H1 x l1 r1 p1 => by
    cases z : attrD cf cs fn d S1 with
    | none => rw [z] at h1; exact (show False from h1).elim
    | some y =>
      rw [z] at h1
      obtain ⟨i1, i2⟩ := inst_of hcf r1 p1
      unfold attrD at z
      split at z
      · rename_i c ds
        by_cases hcs : cs.contains c = true
        · rw [if_pos hcs] at z
          obtain ⟨p, dx, gs, rfl, h3, h4, h5⟩ := i1 c ds rfl
          obtain ⟨v, h6, h7⟩ := lookup_rep h4 h5 z
          obtain ⟨c1, c2⟩ := hc c (by simpa using hcs)
          rw [hK]
          exact ⟨p, _, dx, gs, v, rfl, h3, c1, c2, h6, h1 w1 H1 v l1 r1 h7⟩
        · rw [if_neg hcs] at z; cases z
      · rename_i n
        split at z
        · rename_i c fs hS
          by_cases hcs : cs.contains c = true
          · rw [if_pos hcs] at z
            obtain ⟨p, dx, gs, rfl, _, h3, h4, h5⟩ := i2 n c fs rfl hS
            obtain ⟨v, h6, h7⟩ := lookup_rep h4 h5 z
            obtain ⟨c1, c2⟩ := hc c (by simpa using hcs)
            rw [hK]
            exact ⟨p, _, dx, gs, v, rfl, h3, c1, c2, h6, h1 w1 H1 v l1 r1 h7⟩
          · rw [if_neg hcs] at z; cases z
        · cases z
      · cases z) fun _ _ _ x => x⟩
theorem is_setattr {cs : List String} {fn : String} {pos' : Pos} (hK : X.K = T.K) (hc : ∀ c ∈ cs, Cls T.K (He.ga T.K (c : Str)) ∧ NoAttr T.K (He.ga T.K (c : Str)) (fn : Str)) (ho : IE T E X a f) (hv : IE T E X b g) (hs : swapsWith b (some (.Attribute a (fn : Str) pos')) pos.line X.env = pure false := by rfl) :
    IS T E X (.Assign [.Attribute a (fn : Str) pos'] b pos) (sSetAttr cs fn f g) :=
  PS.mono (ps_fld ho hv hs) fun D σ H ⟨w, env, S, r, e, q⟩ => ⟨w, env, S, r, e, (RP.bnd q).mono (fun y S1 h1 w1 H1 yv l1 r1 p1 => ⟨w1, env, S1, r1, e.mono l1, (RP.bnd h1).mono (fun x S2 h2 w2 H2 xv l2 r2 p2 => by
    split at h2
    · rename_i n
      split at h2
      · rename_i c fs hS
        by_cases hcs : (cs.contains c && decide (fs.length < 1000)) = true
        · rw [if_pos hcs] at h2
          obtain ⟨k1, k2⟩ := Bool.and_eq_true_iff.mp hcs
          obtain ⟨p, dx, gs, rfl, hn, h3, h4, h5⟩ := (inst_of rfl r2 p2).2 n c fs rfl hS
          obtain ⟨c1, c2⟩ := hc c (by simpa using k1)
          have hlen : gs.length < 1000 := by
            have e1 := congrArg List.length h4
            rw [List.length_map, List.length_map] at e1
            rw [e1]
            exact of_decide_eq_true k2
          obtain ⟨h6, h7⟩ := put_rep (T := T) (w := w2) (f := fn) (p1.mono l2) h4 h5
          have r3 := r2.write hS hn (by intro z; cases z) (o' := .ins (He.ga T.K (c : Str)) dx (putF (Str.ofString fn) yv gs)) (c' := .ins c (setF fn y fs)) ⟨dx, _, upd_same, h6, h7⟩
          rw [hK]
          exact ⟨p, _, dx, gs, rfl, h3, c1, c2, hlen, h2 w2 _ σ (l1.trans l2) r3 (e.mono (l1.trans l2))⟩
        · rw [if_neg hcs] at h2; exact (show False from h2).elim
      · exact (show False from h2).elim
    · exact (show False from h2).elim) fun _ _ _ x => x.le l1⟩) fun _ _ _ x => x⟩
theorem inst_at {w : Wd} {S : Store} {H : Hp} {x : V} {cf : String → List String} {c m : String} {d : D} (hcf : T.cf = cf) (r : WR T w S H) (p : Rep T w d x) (h : isInst cf c m d S = true) : ∃ a dx gs, x = .ref a ∧ H a = some (.ins (He.ga T.K (c : Str)) dx gs) ∧ gs.lookup (Str.ofString m) = none := by
  obtain ⟨i1, i2⟩ := inst_of hcf r p
  unfold isInst at h
  split at h
  · rename_i c' ds
    obtain ⟨h1, h2⟩ := Bool.and_eq_true_iff.mp h
    have e : c' = c := by simpa using h1
    subst e
    obtain ⟨a, dx, gs, e1, e2, e3, e4⟩ := i1 c' ds rfl
    refine ⟨a, dx, gs, e1, e2, lookup_none e3 ?_⟩
    have hn : m ∉ cf c' := by simpa using h2
    rw [List.lookup_eq_none_iff]
    rintro ⟨k, v⟩ hp
    have hk : k ∈ cf c' := (List.of_mem_zip hp).1
    simp only [bne_iff_ne, ne_eq, beq_eq_false_iff_ne]
    intro z
    subst z
    exact hn hk
  · rename_i n
    split at h
    · rename_i c' fs hS
      obtain ⟨h1, h2⟩ := Bool.and_eq_true_iff.mp h
      have e : c' = c := by simpa using h1
      subst e
      obtain ⟨a, dx, gs, e1, _, e2, e3, e4⟩ := i2 n c' fs rfl hS
      exact ⟨a, dx, gs, e1, e2, lookup_none e3 (by simpa using h2)⟩
    · cases h
  · cases h
theorem ie_meth {cf : String → List String} {cn mn : String} {k n : Nat} {d : He.DefD} {apos : Pos} {pl : Sem Bool} {kws : List Keyword} {ps ks : List Str} {m : Fn} {pk : List (Nat × Nat)} {dfs : List D} (hcf : T.cf = cf) (F : OkF T X.prog X.w X.mg X.base k d ps m) (hK : X.K = T.K) (hr : RG k X.A)
    (hc : Cls T.K (He.ga T.K (cn : Str))) (hm : Meth T.K (He.ga T.K (cn : Str)) (mn : Str) (He.fAd T.K d.at_))
    (hb : ∀ fd, FunD T.K d.name d.qual d.params d.body d.scope (d.dvs T.K) [] (He.fAd T.K d.at_) fd → KBD T fd ps (n + 1) ks pk dfs) (tk : Takes X fun c d _ H => E c d H) (ho : IE T E X a f) (ha : AK T E X es kws pos ks fa fk)
    (ht : eval (.Call (.Attribute a (mn : Str) apos) es kws pos) X.env = (do
      let ov ← eval a X.env
      standAt apos.atName
      let (f, first) ← holding [ov] (getMethod ov (mn : Str) pl)
      callWith pos f first (backTo pos (starEach es X.env)) (backToKw pos (keywordEach kws X.env))) := by rfl) :
    IE T E X (.Call (.Attribute a (mn : Str) apos) es kws pos) (eMeth cf cn mn (callM m (n + 1) ks.length ps.length pk dfs) f fa fk) := by
  obtain ⟨fd, FD, FO⟩ := F.ex
  refine ⟨fun pins s σ H Q I h => ?_⟩
  obtain ⟨w, env, S, r, e, q⟩ := h
  refine PySem.W.methodCall_KW (pl := pl) (thn (ho.run pins s σ H (fun x H1 => ∃ w1 d1 S1, w.le w1 ∧ WR T w1 S1 H1 ∧ Rep T w1 d1 x ∧ isInst cf cn mn d1 S1 = true ∧ RP ((fa env S1).bnd fun xs S2 => (fk env S2).bnd fun zs S3 => callM m (n + 1) ks.length ps.length pk dfs (d1 :: xs) zs S3) (Pk T w Q) (XW T w E)) I ⟨w, env, S, r, e, (RP.bnd q).mono (fun d1 S1 h1 w1 H1 x l1 r1 p1 => by
    by_cases hi : isInst cf cn mn d1 S1 = true
    · rw [if_pos hi] at h1
      exact ⟨w1, d1, S1, l1, r1, p1, hi, h1⟩
    · rw [if_neg hi] at h1
      exact (show False from h1).elim) fun _ _ _ x => x⟩) fun u s1 ⟨x, H1, I1, rx, w1, d1, S1, l1, r1, p1, hi, h1⟩ => ?_) ht
  obtain ⟨p, dx, gs, rfl, h3, h4⟩ := inst_at hcf r1 p1 hi
  obtain rfl : u = Value.ref p := rx
  refine getmeth_ok I1 h3 (by rw [hK]; exact hc) (by rw [hK]; exact hm) h4 ?_
  refine ha pins s1 σ H1 w1 env S1 _ Q _ [.ref p] _ I1 r1 (e.mono l1) (by rw [hK]; exact hm.kp) (RP.mono h1 (fun d S' q w' H' v l => q w' H' v (l1.trans l)) fun _ _ _ x => x.le l1) fun s2 H2 us ws vs zs w2 xs ys S2 I2 l2 r2 rv rz px py q2 => ?_
  obtain ⟨c1, c2, c3, q3⟩ := callM_ok q2
  exact fn_core FO hK hr (hb fd FD) tk I2 r2 (.cons (show RelV (V.ref p) (Value.ref p) from rfl) rv) rz (.cons (p1.mono l2) px) py c1 c2 c3 q3
end Ro
end
section
set_option Elab.async false
set_option linter.all false
set_option maxRecDepth 100000
set_option maxHeartbeats 4000000
namespace Ro
open PySem PySem.Spec PyProof.Rows L2
variable {T : Tb} {E : XK} {X : Cx} {a b c : Expr} {es : List Expr} {f g h : EX} {fa ga fk : AX} {fb gb : BX} {pos : Pos} {st : Stmt} {sts rest : List Stmt} {s t : ES}
theorem orOp2 {fn : Value → Value → Sem Value} {op : D → D → Option D} (h : ∀ w d e r S x y H Q, WR T w S H → Rep T w d x → Rep T w e y → op d e = some r → (∀ w' H' z, w.le w' → WR T w' S H' → Rep T w' r z → Q z H') → ∃ r, OpR X fn r ∧ r x y H Q) : OpR X fn (rOp T op) := fun pins s σ H x y v u Q I rx ry q => by
  obtain ⟨w, d, e, r, S, h1, h2, h3, h4, h5⟩ := q
  obtain ⟨r', ho, q'⟩ := h w d e r S x y H Q h1 h2 h3 h4 h5
  exact ho pins s σ H x y v u Q I rx ry q'
theorem oi_add (hK : X.K = T.K) : OpR X (binaryOp .Add) (rOp T addD) := orOp2 fun w d e r S x y H Q h1 h2 h3 h4 h5 => by
  unfold addD at h4
  split at h4
  · cases h2; cases h3; cases h4
    exact ⟨_, op_add, _, _, rfl, rfl, h5 w H _ (Wd.le.refl _) h1 (.int _)⟩
  · cases h2; cases h3
    split at h4
    · rename_i hl
      cases h4
      exact ⟨_, op_add_str, _, _, rfl, rfl, by rw [sizeLine_eq]; exact hl, h5 w H _ (Wd.le.refl _) h1 (.str _)⟩
    · cases h4
  · rename_i l m
    cases h2 with
    | tup q2 r2 =>
    cases h3 with
    | tup q3 r3 =>
    split at h4
    · rename_i hl
      cases h4
      refine ⟨_, op_catA, _, _, _, _, rfl, rfl, by rw [hK]; exact sqt_sub h1 q2, by rw [hK]; exact sqt_sub h1 q3, by rw [sizeLine_eq, ← r2.length, ← r3.length]; exact hl, fun e => ?_, fun e1 e2 => ?_, fun e1 e2 p hp => ?_⟩
      · subst e
        cases r2
        exact h5 w H _ (Wd.le.refl _) h1 (.tup q3 r3)
      · subst e2
        cases r3
        rw [List.append_nil] at h5
        exact h5 w H _ (Wd.le.refl _) h1 (.tup q2 r2)
      · obtain ⟨l1, r1⟩ := h1.new hp (.tup _)
        exact h5 _ _ _ l1 r1 (.tup (.inl (.inl upd_same)) ((r2.append r3).mono l1))
    · cases h4
  · rename_i l m
    cases h2 with
    | lst q2 r2 =>
    cases h3 with
    | lst q3 r3 =>
    split at h4
    · rename_i hl
      cases h4
      refine ⟨_, op_cat, _, _, _, _, rfl, rfl, h1.sub _ _ q2, h1.sub _ _ q3, by rw [sizeLine_eq, ← r2.length, ← r3.length]; exact hl, fun p hp => ?_⟩
      obtain ⟨l1, r1⟩ := h1.new hp (.lst _)
      exact h5 _ _ _ l1 r1 (.lst upd_same ((r2.append r3).mono l1))
    · cases h4
  · cases h4
theorem oi_sub : OpR X (binaryOp .Sub) (rOp T subD) := orOp2 fun w d e r S x y H Q h1 h2 h3 h4 h5 => by
  unfold subD at h4
  split at h4
  · cases h2; cases h3; cases h4
    exact ⟨_, op_sub, _, _, rfl, rfl, h5 w H _ (Wd.le.refl _) h1 (.int _)⟩
  · cases h4
theorem oi_mul : OpR X (binaryOp .Mult) (rOp T mulD) := orOp2 fun w d e r S x y H Q h1 h2 h3 h4 h5 => by
  unfold mulD at h4
  split at h4
  · cases h2; cases h3
    split at h4
    · rename_i hl
      cases h4
      exact ⟨_, op_mulW, _, _, rfl, rfl, (by unfold CMulW; simpa [mulOk] using hl), h5 w H _ (Wd.le.refl _) h1 (.int _)⟩
    · cases h4
  · cases h4
theorem oi_fdiv : OpR X (binaryOp .FloorDiv) (rOp T fdivD) := orOp2 fun w d e r S x y H Q h1 h2 h3 h4 h5 => by
  unfold fdivD at h4
  split at h4
  · cases h2; cases h3
    split at h4
    · rename_i hl
      cases h4
      exact ⟨_, op_fdivW, _, _, rfl, rfl, hl, h5 w H _ (Wd.le.refl _) h1 (.int _)⟩
    · cases h4
  · cases h4
theorem oi_mod : OpR X (binaryOp .Mod) (rOp T modD) := orOp2 fun w d e r S x y H Q h1 h2 h3 h4 h5 => by
  unfold modD at h4
  split at h4
  · cases h2; cases h3
    split at h4
    · rename_i hl
      cases h4
      exact ⟨_, op_mod, _, _, rfl, rfl, hl, h5 w H _ (Wd.le.refl _) h1 (.int _)⟩
    · cases h4
  · cases h4
theorem oi_pow : OpR X (binaryOp .Pow) (rOp T powD) := orOp2 fun w d e r S x y H Q h1 h2 h3 h4 h5 => by
  unfold powD at h4
  split at h4
  · cases h2; cases h3
    split at h4
    · rename_i hl
      cases h4
      exact ⟨_, op_pow, _, _, rfl, rfl, hl, h5 w H _ (Wd.le.refl _) h1 (.int _)⟩
    · cases h4
  · cases h4
theorem oi_le : OpR X (compareOp .LtE) (rOp T leD) := orOp2 fun w d e r S x y H Q h1 h2 h3 h4 h5 => by
  unfold leD at h4
  split at h4
  · cases h2; cases h3; cases h4
    exact ⟨_, op_le, _, _, rfl, rfl, h5 w H _ (Wd.le.refl _) h1 (.bl _)⟩
  · cases h4
theorem oi_gt : OpR X (compareOp .Gt) (rOp T gtD) := orOp2 fun w d e r S x y H Q h1 h2 h3 h4 h5 => by
  unfold gtD at h4
  split at h4
  · cases h2; cases h3; cases h4
    exact ⟨_, op_gt, _, _, rfl, rfl, h5 w H _ (Wd.le.refl _) h1 (.bl _)⟩
  · cases h4
theorem rep_non {w : Wd} {d : D} {x : V} (p : Rep T w d x) : decide (x = .non) = isNonD d := by
  cases p <;> first | rfl | exact decide_eq_false (fun z => by cases z)
theorem oi_is : OpR X (compareOp .Is) (rOp T isND) := orOp2 fun w d e r S x y H Q h1 h2 h3 h4 h5 => by
  unfold isND at h4
  split at h4
  · rename_i hn
    cases h4
    have he : y = .non := of_decide_eq_true ((rep_non h3).trans hn)
    refine ⟨_, op_isN, he, ?_⟩
    rw [rep_non h2]
    exact h5 w H _ (Wd.le.refl _) h1 (.bl _)
  · cases h4
theorem oi_isnot : OpR X (compareOp .IsNot) (rOp T notND) := orOp2 fun w d e r S x y H Q h1 h2 h3 h4 h5 => by
  unfold notND at h4
  split at h4
  · rename_i hn
    cases h4
    have he : y = .non := of_decide_eq_true ((rep_non h3).trans hn)
    refine ⟨_, op_notN, he, ?_⟩
    rw [rep_non h2]
    exact h5 w H _ (Wd.le.refl _) h1 (.bl _)
  · cases h4
theorem ie_neg (h : IE T E X a f) : IE T E X (.UnaryOp .USub a pos) (eUn negD f) :=
  PE.mono (pe_un un_neg h) fun σ H Q ⟨w, env, S, r, e, q⟩ => ⟨w, env, S, r, e, (RP.bnd q).mono (fun d S1 h1 w1 H1 x l1 r1 p1 => by
    cases p1 with
    | int i => exact ⟨i, rfl, h1 w1 H1 _ l1 r1 (.int _)⟩
    | _ => exact (show False from h1).elim) fun _ _ _ x => x⟩
theorem reps_atP {w : Wd} {l : List D} {vs : List V} {i : Int} {d : D} (r : Reps T w l vs) (h : atP l i = some d) : ∃ v, atI vs i = some v ∧ Rep T w d v := by
  unfold atP at h
  cases z : pyIx l.length i with
  | none => rw [z] at h; cases h
  | some j =>
    rw [z] at h
    obtain ⟨v, h1, h2⟩ := r.get (show l[j]? = some d from h)
    refine ⟨v, ?_, h2⟩
    unfold atI
    rw [show ixN vs.length i = some j from by rw [← r.length]; exact z]
    exact h1
theorem ie_idx (hK : X.K = T.K) (ha : IE T E X a f) (hb : IE T E X b g) (hs : PlainIx b := by exact fun _ _ => rfl) : IE T E X (.Subscript a b pos) (eIdx f g) :=
  PE.mono (pe_ix ix_seq ha hb hs) fun σ H Q q => by
    have q2 := tI_two (k := fun x y S => lift (idxD x y) S) q
    obtain ⟨w, env, S, r, e, h⟩ := q2
    refine ⟨w, env, S, r, e, h.mono (fun d S1 h1 w1 H1 x l1 r1 p1 => ?_) fun _ _ _ x => x⟩
    obtain ⟨w2, env2, S2, r2, e2, h2⟩ := h1 w1 H1 x l1 r1 p1
    refine ⟨w2, env2, S2, r2, e2, h2.mono (fun d S1 h1 w1 H1 x l1 r1 p1 => ?_) fun _ _ _ x => x⟩
    obtain ⟨w3, d3, e3, S3, r3, p3, q3, h3⟩ := h1 w1 H1 x l1 r1 p1
    obtain ⟨w3, d3, e3, rr, S3, r3, p3, q3, hh, h3⟩ := rOp_of r3 p3 q3 h3
    unfold idxD at hh
    rw [hK]
    split at hh
    · cases q3
      cases p3 with
      | tup qq rq =>
        obtain ⟨v, a1, a2⟩ := reps_atP rq hh
        exact .inr (.inl ⟨_, _, _, v, rfl, rfl, sqt_sub r3 qq, a1, h3 w3 _ _ (Wd.le.refl _) r3 a2⟩)
    · cases q3
      cases p3 with
      | lst qq rq =>
        obtain ⟨v, a1, a2⟩ := reps_atP rq hh
        exact .inl ⟨_, _, _, v, rfl, rfl, .inl (.inl (r3.sub _ _ qq)), a1, h3 w3 _ _ (Wd.le.refl _) r3 a2⟩
    · rename_i l i
      cases q3
      cases p3 with
      | scr qq =>
        cases z : atP l i with
        | none => rw [z] at hh; cases hh
        | some k =>
          rw [z] at hh
          cases hh
          refine .inl ⟨_, _, _, .int k, rfl, rfl, sql_sub r3 qq, ?_, h3 w3 _ _ (Wd.le.refl _) r3 (.int _)⟩
          unfold atP at z
          unfold atI
          rw [List.length_map]
          cases z2 : pyIx l.length i with
          | none => rw [z2] at z; cases z
          | some j =>
            rw [z2] at z
            rw [show ixN l.length i = some j from z2]
            show (l.map V.int)[j]? = _
            rw [List.getElem?_map, show l[j]? = some k from z]
            rfl
    · rename_i s i
      cases q3
      cases p3
      split at hh
      · rename_i hl
        cases z : atP s.cps.toList i with
        | none => rw [z] at hh; cases hh
        | some c =>
          rw [z] at hh
          cases hh
          exact .inr (.inr ⟨s, i, c, rfl, rfl, by rw [sizeLine_eq]; exact hl, z, h3 w3 _ _ (Wd.le.refl _) r3 (.str _)⟩)
      · cases hh
    · cases hh
theorem ie_idxM (hK : X.K = T.K) (ha : IE T E X a f) (hb : IE T E X b g) (hs : PlainIx b := by exact fun _ _ => rfl) : IE T E X (.Subscript a b pos) (eIdxM f g) :=
  PE.mono (pe_ix ix_list ha hb hs) fun σ H Q q => by
    have q2 := tI_two (k := fun x y S => lift (idxM x y S) S) q
    obtain ⟨w, env, S, r, e, h⟩ := q2
    refine ⟨w, env, S, r, e, h.mono (fun d S1 h1 w1 H1 x l1 r1 p1 => ?_) fun _ _ _ x => x⟩
    obtain ⟨w2, env2, S2, r2, e2, h2⟩ := h1 w1 H1 x l1 r1 p1
    refine ⟨w2, env2, S2, r2, e2, h2.mono (fun d S1 h1 w1 H1 x l1 r1 p1 => ?_) fun _ _ _ x => x⟩
    obtain ⟨w3, d3, e3, S3, r3, p3, q3, h3⟩ := h1 w1 H1 x l1 r1 p1
    cases z : idxM d3 e3 S3 with
    | none => rw [z] at h3; exact (show False from h3).elim
    | some y =>
      rw [z] at h3
      unfold idxM at z
      split at z
      · rename_i n i
        split at z
        · rename_i l hS
          cases q3
          cases p3 with
          | ref hn =>
            obtain ⟨vs, c1, c2⟩ := r3.cell n _ _ hS hn
            obtain ⟨v, a1, a2⟩ := reps_atP c2 z
            exact ⟨_, _, _, v, rfl, rfl, .inl (.inl c1), a1, h3 w3 _ _ (Wd.le.refl _) r3 a2⟩
        · cases z
      · cases z
theorem is_setit {pos' : Pos} (hv : IE T E X c h) (ho : IE T E X a f) (hi : IE T E X b g) (hs : swapsWithSole [.Subscript a b pos'] c pos.line X.env = pure false := by rfl) (hw : swappedStores [.Subscript a b pos'] c X.env = pure none := by rfl)
    (h1 : (assignEach [.Subscript a b pos'] X.env).map (·.2) = [assign (.Subscript a b pos') X.env] := by rfl)
    (hasg : ∀ v, assign (.Subscript a b pos') X.env v = (do
      let ov ← holding [v] (eval a X.env)
      let iv ← holding [v, ov] (eval b X.env)
      standAt pos'
      holding [v, ov, iv] (setItem ov iv v)
      release [v, ov, iv] []) := by intro _; rfl) : IS T E X (.Assign [.Subscript a b pos'] c pos) (sSetIt f g h) :=
  PS.mono (ps_asg hv (pg_sub ho hi set_list hasg) hs hw h1) fun D σ H ⟨w, env, S, r, e, q⟩ => ⟨w, env, S, r, e, (RP.bnd q).mono (fun z S1 h1 w1 H1 zv l1 r1 p1 => ⟨w1, env, S1, r1, e.mono l1, (RP.bnd h1).mono (fun x S2 h2 w2 H2 xv l2 r2 p2 => ⟨w2, env, S2, r2, (e.mono l1).mono l2, (RP.bnd h2).mono (fun y S3 h3 w3 H3 yv l3 r3 p3 => by
    cases z2 : setM x y z S3 with
    | none => rw [z2] at h3; exact (show False from h3).elim
    | some S4 =>
      rw [z2] at h3
      unfold setM at z2
      split at z2
      · rename_i n i
        split at z2
        · rename_i l hS
          cases zj : pyIx l.length i with
          | none => rw [zj] at z2; cases z2
          | some j =>
            rw [zj] at z2
            cases z2
            cases p3
            cases (p2.mono l3) with
            | ref hn =>
              obtain ⟨vs, c1, c2⟩ := r3.cell n _ _ hS hn
              have lt := (l1.trans l2).trans l3
              refine ⟨_, vs, i, j, rfl, rfl, c1, by rw [← c2.length]; exact zj, ?_⟩
              exact h3 w3 _ σ lt (r3.write hS hn (by intro z; cases z) ⟨_, upd_same, c2.set ((p1.mono l2).mono l3) j⟩) (e.mono lt)
        · cases z2
      · cases z2) fun _ _ _ x => x.le (l1.trans l2)⟩) fun _ _ _ x => x.le l1⟩) fun _ _ _ x => x⟩
end Ro
end
section
set_option Elab.async false
set_option linter.all false
set_option maxRecDepth 100000
set_option maxHeartbeats 4000000
namespace Ro
open PySem PySem.Spec PyProof.Rows L2
variable {T : Tb} {E : XK} {X : Cx} {a b c : Expr} {es : List Expr} {f g h : EX} {fa ga fk : AX} {fb gb : BX} {pos : Pos} {st : Stmt} {sts rest : List Stmt} {s t : ES}
theorem frzM_ok {cf : String → List String} (hcf : T.cf = cf) {w : Wd} {S : Store} {H : Hp} {x : V} {d : D} {Pk : D → Store → Prop} {Pe : String → List D → Store → Prop} (r : WR T w S H) (p : Rep T w d x) (h : RP (frzM cf (.ok d S)) Pk Pe) :
    ∃ w' d' S', w.le w' ∧ WR T w' S' H ∧ Rep T w' d' x ∧ Pk d' S' := by
  unfold frzM at h
  rw [bnd_ok] at h
  split at h
  · rename_i n
    cases p with
    | ref hn =>
    split at h
    · rename_i c fs hS
      split at h
      · rename_i he
        obtain ⟨dx, gs, h1, h2, h3⟩ := r.cell n _ _ hS hn
        obtain ⟨l, r'⟩ := r.freeze hS hn (by intro z; cases z) h1
        refine ⟨_, _, _, l, r', .obj (dx := dx) (fs := gs) upd_same ?_ (h3.mono l), h⟩
        rw [h2, hcf, ← he, List.map_map]
        rfl
      · exact (show False from h).elim
    · rename_i l0 hS
      obtain ⟨vs, h1, h2⟩ := r.cell n _ _ hS hn
      obtain ⟨l, r'⟩ := r.freeze hS hn (by intro z; cases z) h1
      exact ⟨_, _, _, l, r', .lst upd_same (h2.mono l), h⟩
    · rename_i l0 hS
      obtain ⟨vs, h1, h2⟩ := r.cell n _ _ hS hn
      obtain ⟨l, r'⟩ := r.freeze hS hn (by intro z; cases z) h1
      exact ⟨_, _, _, l, r', .dct upd_same (h2.mono l), h⟩
    · exact (show False from h).elim
  · exact (show False from h).elim
theorem frzM_bnd {cf : String → List String} {r : R D} {Pk : D → Store → Prop} {Pe : String → List D → Store → Prop} (h : RP (frzM cf r) Pk Pe) : RP r (fun d S => RP (frzM cf (.ok d S)) Pk Pe) Pe := by
  cases r with
  | ok d S => exact h
  | err c fs S => exact h
  | bad => exact h
theorem ie_frz {cf : String → List String} (hcf : T.cf = cf) (ha : IE T E X a f) : IE T E X a (eFrz cf f) :=
  PE.mono ha fun σ H Q ⟨w, env, S, r, e, q⟩ => ⟨w, env, S, r, e, (frzM_bnd q).mono (fun d S1 h1 w1 H1 x l1 r1 p1 => by
    obtain ⟨w2, d2, S2, l2, r2, p2, h2⟩ := frzM_ok hcf r1 p1 h1
    exact h2 w2 H1 x (l1.trans l2) r2 p2) fun _ _ _ x => x⟩
theorem make_core {k n : Nat} {cn : String} {fd : FuncData} {fp : Addr} {ps ks : List Str} {m : Fn} {pk : List (Nat × Nat)} {dfs : List D} (F : FnG X.prog X.w T.K X.mg X.base k fp fd ps (spI T ps.length m)) (M : Mk T.K (He.ga T.K (cn : Str)) fp) (hK : X.K = T.K) (hr : RG (k + 1) X.A) (hb : KBD T fd ps (n + 1) ks pk dfs) (tk : Takes X fun c d _ H => E c d H)
    {pins : List (Addr × Obj)} {s : Shared} {σ : St} {H : Hp} {w : Wd} {S : Store} {us ws : List Value} {vs zs : List V} {xs ys : List D} {Q : VK} (I : Inv X pins σ H s) (r : WR T w S H) (rv : Vals vs us) (rz : Vals zs ws) (px : Reps T w xs vs) (py : Reps T w ys zs)
    (q : RP (newM cn (callM m (n + 1) ks.length ps.length pk dfs) xs ys S) (Pk T w Q) (XW T w E)) : wpAny (model X.prog X.w) X.A (call (.ref (He.ga T.K (cn : Str))) us (ks.zip ws)) (EP X pins σ Q) X.xe s := by
  obtain ⟨its, dvs, kb, rd⟩ := hb.ex
  have F' : FnG X.prog X.w X.K X.mg X.base k fp fd ps (spI T ps.length m) := by rw [hK]; exact F
  have M' : Mk X.K (He.ga T.K (cn : Str)) fp := by rw [hK]; exact M
  have kb' : KBn X.K fd ps (n + 1) ks (fun us ws => pick pk us its ws) (fun vs zs => pick pk vs dvs zs) := by rw [hK]; exact kb
  have q1 := RP.bnd (show RP (newM cn (callM m (n + 1) ks.length ps.length pk dfs) xs ys S) _ _ from q)
  obtain ⟨c1, c2, c3, q2⟩ := callM_ok q1
  have l1 : xs.length = n := by simpa using c1
  refine FnG.makes M' F' hr kb' (passes_call tk fun _ _ _ _ h => h) I rv rz (by rw [← px.length]; exact l1) (by rw [← py.length]; exact c2) fun x dx hx hdx hne => ?_
  have hx2 : upd H dx (.own x) x = none := by rw [upd_ne hne.symm]; exact hx
  have r0 : WR T w S (upd H dx (.own x)) := r.grow fun a u e => by rw [upd_ne (ne_of_none e hdx)]; exact e
  obtain ⟨l2, r2, at_⟩ := r0.alloc (o := .ins (He.ga T.K (cn : Str)) dx []) (c := .ins cn []) hx2 ⟨dx, [], upd_same, rfl, .nil⟩
  have pp := reps_pick pk (T := T) (w := ⟨w.G, w.am ++ [x], w.hid⟩) (.cons (.ref at_) (px.mono l2)) (rd _) (py.mono l2)
  refine ⟨by rw [← pp.length]; exact c3, _, _, _, r2, pp, q2.mono (fun d S1 h1 w1 H1 v l3 r3 p3 => ?_) fun _ _ _ x => x.le l2⟩
  cases p3 with
  | non => exact ⟨rfl, h1 w1 H1 _ (l2.trans l3) r3 (.ref (l3.tosb.at at_))⟩
  | _ => exact (show False from h1).elim
/-- C(.., k = ..) -/
theorem ie_new {k n : Nat} {cn : String} {d : He.DefD} {p : Pos} {kws : List Keyword} {ps ks : List Str} {m : Fn} {pk : List (Nat × Nat)} {dfs : List D} (F : OkF T X.prog X.w X.mg X.base k d ps m) (M : Mk T.K (He.ga T.K (cn : Str)) (He.fAd T.K d.at_)) (hK : X.K = T.K) (hr : RG (k + 1) X.A) (hg : Gl X (cn : Str)) (hm : X.mg (cn : Str) = some (.ref (He.ga T.K (cn : Str))))
    (hb : ∀ fd, FunD T.K d.name d.qual d.params d.body d.scope (d.dvs T.K) [] (He.fAd T.K d.at_) fd → KBD T fd ps (n + 1) ks pk dfs) (tk : Takes X fun c d _ H => E c d H) (ha : AK T E X es kws pos ks fa fk) (hdb : ((cn : Str) == ("__debug__" : Str)) = false := by decide +kernel) :
    IE T E X (.Call (.Name (cn : Str) p) es kws pos) (eFn (newM cn (callM m (n + 1) ks.length ps.length pk dfs)) fa fk) := by
  obtain ⟨fd, FD, FO⟩ := F.ex
  refine ⟨fun pins s σ H Q I h => ?_⟩
  obtain ⟨w, env, S, r, e, q⟩ := h
  refine wpAny_Call_Name_kw (ld_glob I hg hm ?_ hdb)
  refine ha pins s σ H w env S _ Q _ [] _ I r e (by rw [hK]; exact M.kp) q fun s2 H2 us ws vs zs w2 xs ys S2 I2 l2 r2 rv rz px py q2 => ?_
  exact make_core FO M hK hr (hb fd FD) tk I2 r2 rv rz px py q2
theorem er_wipe {w : Wd} {env : Env} {σ : St} (r : ER T w env σ) : ∀ vs : List Nat, ER T w (wipeE env vs) (wipe σ vs)
  | [] => r
  | v :: vs => by
    have ih := er_wipe r vs
    refine ⟨by show ((wipeE env vs).set v none).length = ((wipe σ vs).set v none).length; rw [List.length_set, List.length_set, ih.1], fun i d h => ?_⟩
    have h : ((wipeE env vs).set v none)[i]? = some (some d) := h
    show ∃ x, ((wipe σ vs).set v none)[i]? = some (some x) ∧ _
    by_cases hv : v = i
    · subst hv
      rw [List.getElem?_set] at h
      simp only [if_true] at h
      split at h <;> cases h
    · rw [List.getElem?_set_ne hv] at h ⊢
      exact ih.2 i d h
theorem RP.nox {α : Type} {r : R α} {Pk : α → Store → Prop} {Pe : String → List D → Store → Prop} (h : RP r.nox Pk Pe) (Pe' : String → List D → Store → Prop) : RP r Pk Pe' := by
  cases r with
  | ok a S => exact h
  | err c fs S => exact (show False from h).elim
  | bad => exact h
def ITs (T : Tb) (E : XK) (X : Cx) (ifs : List Expr) (fb : BX) : Prop := PTs X ifs (tIb T E fb)
theorem PTs.mono {X : Cx} {e : List Expr} {t t' : TT} (h : PTs X e t) (k : ∀ σ H Q, t' σ H Q → t σ H Q) : PTs X e t' := ⟨fun pins s σ H Q I q => h.run pins s σ H Q I (k _ _ _ q)⟩
theorem its_nil : ITs T E X [] bYes := PTs.mono pts_nil fun σ H Q ⟨w, env, S, r, e, q⟩ => q w H (Wd.le.refl _) r
theorem its_one (h : IB T E X c fb) : ITs T E X [c] fb := pts_one h
abbrev E00 : XK := fun _ _ _ => False
/-- a list that is being made -/
theorem WR.hide {w : Wd} {S : Store} {H : Hp} {p : Addr} (r : WR T w S H) (hp : H p = none) : WR T ⟨w.G, w.am, (p, []) :: w.hid⟩ S (upd H p (.lst [])) := by
  have k : ∀ a u, H a = some u → upd H p (.lst []) a = some u := fun a u e => by rw [upd_ne (ne_of_none e hp)]; exact e
  have sb : Wd.sb w ⟨w.G, w.am, (p, []) :: w.hid⟩ := ⟨fun _ _ h => h, [], by simp⟩
  refine ⟨fun a u e => k _ _ (r.sub _ _ e), r.len, r.nd, fun a ha => (r.has a ha).elim fun u e => ⟨u, k _ _ e.1, e.2⟩, r.out, fun n c a h1 h2 => (r.cell n c a h1 h2).keep sb fun u e => k _ _ e, tabs_new r.tabs hp, ?_, fun q hq => ?_, r.nt⟩
  · show (p :: w.hid.map (·.1)).Nodup
    refine List.nodup_cons.mpr ⟨fun z => ?_, r.hn⟩
    obtain ⟨q, hq, e⟩ := List.mem_map.mp z
    obtain ⟨_, _, vs, z3, _⟩ := r.hd q hq
    rw [e, hp] at z3
    cases z3
  · rcases List.mem_cons.mp hq with e | hq
    · subst e
      refine ⟨r.free hp, fun z => ?_, [], upd_same, .nil⟩
      obtain ⟨u, e, _⟩ := r.has p z
      rw [hp] at e
      cases e
    · obtain ⟨z1, z2, vs, z3, z4⟩ := r.hd q hq
      exact ⟨z1, z2, vs, k _ _ z3, z4.monoS sb⟩
theorem WR.hidPut {w : Wd} {S : Store} {H : Hp} {p : Addr} {l : List D} {hs : List (Addr × List D)} {d : D} {v : V} (r : WR T w S H) (hh : w.hid = (p, l) :: hs) (q : Rep T w d v) : ∃ vs, H p = some (.lst vs) ∧ vs.length = l.length ∧ WR T ⟨w.G, w.am, (p, l ++ [d]) :: hs⟩ S (upd H p (.lst (vs ++ [v]))) := by
  obtain ⟨z1, z2, vs, z3, z4⟩ := r.hd (p, l) (by rw [hh]; exact List.mem_cons_self ..)
  have hn := r.hn
  rw [hh] at hn
  have hn' : p ∉ hs.map (·.1) := (List.nodup_cons.mp (show (p :: hs.map (·.1)).Nodup from hn)).1
  have sb : Wd.sb w ⟨w.G, w.am, (p, l ++ [d]) :: hs⟩ := ⟨fun _ _ h => h, [], by simp⟩
  have k : ∀ a u, a ≠ p → H a = some u → upd H p (.lst (vs ++ [v])) a = some u := fun a u hne e => by rw [upd_ne hne]; exact e
  refine ⟨vs, z3, z4.length.symm, fun a u e => k _ _ (fun z => by rw [z] at e; rw [show w.G p = none from z1] at e; cases e) (r.sub _ _ e), r.len, r.nd, fun a ha => ?_, r.out, fun n c a h1 h2 => (r.cell n c a h1 h2).keep sb fun u e => k _ _ (fun z => z2 (by show p ∈ w.am; rw [← z]; exact List.mem_of_getElem? h2)) e, tabs_upd r.tabs z3 noTab_lst, hn, fun q2 hq => ?_, r.nt⟩
  · obtain ⟨u, e, nt⟩ := r.has a ha
    exact ⟨u, k _ _ (fun z => z2 (by show p ∈ w.am; rw [← z]; exact ha)) e, nt⟩
  · rcases List.mem_cons.mp hq with e | hq
    · subst e
      exact ⟨z1, z2, _, upd_same, (z4.append (.cons q .nil)).monoS sb⟩
    · obtain ⟨y1, y2, us, y3, y4⟩ := r.hd q2 (by rw [hh]; exact List.mem_cons_of_mem _ hq)
      exact ⟨y1, y2, us, k _ _ (fun z => hn' (by rw [← z]; exact List.mem_map_of_mem hq)) y3, y4.monoS sb⟩
theorem WR.shown {w : Wd} {S : Store} {H : Hp} {p : Addr} {l : List D} {hs : List (Addr × List D)} (r : WR T w S H) (hh : w.hid = (p, l) :: hs) : ∃ vs, Wd.sb w ⟨upd w.G p (.lst vs), w.am, hs⟩ ∧ WR T ⟨upd w.G p (.lst vs), w.am, hs⟩ S H ∧ Rep T ⟨upd w.G p (.lst vs), w.am, hs⟩ (.lst l) (.ref p) := by
  obtain ⟨z1, z2, vs, z3, z4⟩ := r.hd (p, l) (by rw [hh]; exact List.mem_cons_self ..)
  have z1 : w.G p = none := z1
  have hn := r.hn
  rw [hh] at hn
  have hn2 := List.nodup_cons.mp (show (p :: hs.map (·.1)).Nodup from hn)
  have sb : Wd.sb w ⟨upd w.G p (.lst vs), w.am, hs⟩ := ⟨fun a u e => by show upd w.G p (.lst vs) a = some u; rw [upd_ne (ne_of_none e z1)]; exact e, [], by simp⟩
  refine ⟨vs, sb, ⟨fun a u e => ?_, r.len, r.nd, r.has, fun n c a h1 h2 h3 => ?_, fun n c a h1 h2 => (r.cell n c a h1 h2).keep sb fun _ e => e, r.tabs, hn2.2, fun q hq => ?_, fun a ps e => ?_⟩, .lst upd_same (z4.monoS sb)⟩
  · have e : upd w.G p (.lst vs) a = some u := e
    by_cases h : a = p
    · subst h
      rw [upd_same] at e
      rw [← e]
      exact z3
    · rw [upd_ne h] at e
      exact r.sub _ _ e
  · show upd w.G p (.lst vs) a = none
    rw [upd_ne (fun z => z2 (by show p ∈ w.am; rw [← z]; exact List.mem_of_getElem? h2))]
    exact r.out n c a h1 h2 h3
  · obtain ⟨y1, y2, us, y3, y4⟩ := r.hd q (by rw [hh]; exact List.mem_cons_of_mem _ hq)
    refine ⟨?_, y2, us, y3, y4.monoS sb⟩
    show upd w.G p (.lst vs) q.1 = none
    rw [upd_ne (fun z => hn2.1 (by rw [← z]; exact List.mem_map_of_mem hq))]
    exact y1
  · have e : upd w.G p (.lst vs) a = some (.tbl ps) := e
    by_cases h : a = p
    · rw [h, upd_same] at e
      cases e
    · rw [upd_ne h] at e
      exact r.nt a ps e
theorem lc_noerr {p : Pat} {fb : BX} {el : EX} {env : Env} : ∀ {ds acc : List D} {S : Store} {c : String} {fs : List D} {S' : Store}, lcLoop p fb el env ds acc S = .err c fs S' → False
  | [], _, _, _, _, _, h => by cases h
  | d :: ds, acc, S, c, fs, S', h => by
    unfold lcLoop at h
    cases z : p d env with
    | none => rw [z] at h; cases h
    | some e1 =>
      rw [z] at h
      have h : ((fb e1 S).nox.bnd fun k S1 => if k then (el e1 S1).nox.bnd fun y S2 => if acc.length < LINE then lcLoop p fb el env ds (acc ++ [y]) S2 else .bad else lcLoop p fb el env ds acc S1) = .err c fs S' := h
      cases z1 : fb e1 S with
      | ok k S1 =>
        rw [z1, nox_ok, bnd_ok] at h
        cases k with
        | true =>
          rw [if_pos rfl] at h
          cases z2 : el e1 S1 with
          | ok y S2 =>
            rw [z2, nox_ok, bnd_ok] at h
            split at h
            · exact lc_noerr h
            · cases h
          | err _ _ _ => rw [z2] at h; cases h
          | bad => rw [z2] at h; cases h
        | false =>
          rw [if_neg Bool.false_ne_true] at h
          exact lc_noerr h
      | err _ _ _ => rw [z1] at h; cases h
      | bad => rw [z1] at h; cases h
theorem lc_read {p : Pat} {vs : List Nat} {fb : BX} {el : EX} {it : AX} {σ : St} {H : Hp} {Q : VK} (q : tI T E (eLC vs it p fb el) σ H Q) : tLc (tII T E it) (gI T vs p) (tIb T E00 fb) (tI T E00 el) vs σ H Q := by
  obtain ⟨w, env, S, r, e, q⟩ := q
  refine ⟨w, env, S, r, e, (RP.bnd q).mono (fun ds S1 h1 w1 H1 J l1 r1 it => ?_) fun _ _ _ x => x⟩
  intro Dp hD
  have h1 := RP.bnd h1
  have r0 := r1.hide hD
  have e1 := er_wipe (e.mono l1) vs
  refine ⟨fun i m H => m = ds.length - i ∧ i ≤ ds.length ∧ ∃ w2 acc S2, w1.sb w2 ∧ w2.hid = (Dp, acc) :: w1.hid ∧ WR T w2 S2 H ∧ RP (lcLoop p fb el (wipeE env vs) (ds.drop i) acc S2) (fun ys S' => ∀ w' H' v, w1.le w' → WR T w' S' H' → Rep T w' (.lst ys) v → Q v H') (fun _ _ _ => False), ⟨ds.length, by simp, Nat.zero_le _, ⟨w1.G, w1.am, (Dp, []) :: w1.hid⟩, [], S1, ⟨fun _ _ h => h, [], by simp⟩, rfl, r0, ?_⟩, ?_⟩
  · have h2 : RP (lcLoop p fb el (wipeE env vs) ds [] S1) (fun ys S' => ∀ w' H' v, w.le w' → WR T w' S' H' → Rep T w' (.lst ys) v → Q v H') (XW T w E) := h1
    cases z : lcLoop p fb el (wipeE env vs) ds [] S1 with
    | ok ys S2 =>
      rw [z] at h2
      show RP (lcLoop p fb el (wipeE env vs) (ds.drop 0) [] S1) _ _
      rw [List.drop_zero, z]
      exact fun w' H' v l => h2 w' H' v (l1.trans l)
    | err c fs S2 => exact (lc_noerr z).elim
    | bad => rw [z] at h2; exact h2.elim
  · rintro i m H ⟨rfl, hi, w2, acc, S2, sb, hh, r2, h2⟩
    by_cases hlt : i < ds.length
    · rw [List.drop_eq_getElem_cons hlt] at h2
      have it' : ∀ (i : Nat), True := fun _ => trivial
      refine .inr ⟨it.goS i H w2 S2 sb r2 hlt, fun H' => i + 1 ≤ ds.length ∧ ∃ w2 acc S2, w1.sb w2 ∧ w2.hid = (Dp, acc) :: w1.hid ∧ WR T w2 S2 H' ∧ RP (lcLoop p fb el (wipeE env vs) (ds.drop (i + 1)) acc S2) (fun ys S' => ∀ w' H' v, w1.le w' → WR T w' S' H' → Rep T w' (.lst ys) v → Q v H') (fun _ _ _ => False), fun H' h => ⟨ds.length - (i + 1), by omega, rfl, h⟩, fun x H' y => ?_⟩
      obtain ⟨w3, l3, r3, p3⟩ := it.yldS i H x H' w2 S2 ds[i] sb r2 (List.getElem?_eq_getElem hlt) y
      unfold lcLoop at h2
      cases z : p ds[i] (wipeE env vs) with
      | none => rw [z] at h2; exact (show False from h2).elim
      | some env1 =>
        rw [z] at h2
        have h2 := RP.nox (RP.bnd h2) (XW T w3 E00)
        refine ⟨w3, wipeE env vs, S2, ds[i], env1, r3, e1.monoS (sb.trans l3.tosb), p3, z, fun σ2 q2 z2 => ⟨z2.trans (wipe_wipe σ vs), w3, env1, S2, r3, q2, h2.mono (fun k S3 h3 w4 H4 l4 r4 => ?_) fun _ _ _ x => x⟩⟩
        have hh4 : w4.hid = (Dp, acc) :: w1.hid := by rw [l4.hid, l3.hid, hh]
        cases k with
        | false =>
          rw [if_neg Bool.false_ne_true] at h3
          dsimp only
          rw [if_neg Bool.false_ne_true]
          exact ⟨hlt, w4, acc, S3, (sb.trans l3.tosb).trans l4.tosb, hh4, r4, h3⟩
        | true =>
          rw [if_pos rfl] at h3
          dsimp only
          rw [if_pos rfl]
          have h3 := RP.nox (RP.bnd h3) (XW T w4 E00)
          refine ⟨w4, env1, S3, r4, q2.mono l4, h3.mono (fun y S5 h5 w5 H5 v l5 r5 p5 => ?_) fun _ _ _ x => x⟩
          by_cases hl : acc.length < LINE
          · rw [if_pos hl] at h5
            have hh5 : w5.hid = (Dp, acc) :: w1.hid := by rw [l5.hid, hh4]
            obtain ⟨us, k1, k2, k3⟩ := r5.hidPut hh5 p5
            have sb5 : w1.sb w5 := ((sb.trans l3.tosb).trans l4.tosb).trans l5.tosb
            exact ⟨us, k1, by rw [k2, sizeLine_eq]; exact hl, hlt, ⟨w5.G, w5.am, (Dp, acc ++ [y]) :: w1.hid⟩, acc ++ [y], S5, ⟨sb5.G, sb5.am⟩, rfl, k3, h5⟩
          · rw [if_neg hl] at h5
            exact (show False from h5).elim
    · have e0 : ds.drop i = [] := List.drop_of_length_le (by omega)
      rw [e0] at h2
      obtain ⟨us, k1, k2, k3⟩ := r2.shown hh
      exact .inl ⟨it.stopS i H w2 S2 sb r2 (by omega), h2 _ H _ ⟨sb.trans k1, rfl⟩ k2 k3⟩
theorem ie_lc {tg iter elt : Expr} {ifs : List Expr} {scope : Scope} {own : List (Str × Nat)} {p : Pat} {el : EX} {it : AX} (hc : X.calm = true) (hN : X.N.Nodup) (hi : II T E X tg iter it) (ok : BlkOk X.N X.env.scope scope own)
    (hg : ∀ (s : Shared) (H : Hp) (C : Addr) (cl : List (Str × Addr)) (fp : List Addr), IG T (X.blk s H scope (compEnvC scope cl C X.env) fp) (own.map (·.2)) tg p) (ht : ∀ (s : Shared) (H : Hp) (C : Addr) (cl : List (Str × Addr)) (fp : List Addr), ITs T E00 (X.blk s H scope (compEnvC scope cl C X.env) fp) ifs fb)
    (he : ∀ (s : Shared) (H : Hp) (C : Addr) (cl : List (Str × Addr)) (fp : List Addr), IE T E00 (X.blk s H scope (compEnvC scope cl C X.env) fp) elt el) (hs : ∀ x, foldedSetIterable iter X.env x = pure x := by intro _; rfl) :
    IE T E X (.ListComp elt [⟨tg, iter, ifs, 0⟩] scope pos) (eLC (own.map (·.2)) it p fb el) :=
  PE.mono (pe_lc hc hN hi ok hg ht he hs) fun σ H Q q => lc_read q
theorem is_setLc {i : Nat} {y : Str} {py spos : Pos} {tg iter elt : Expr} {ifs : List Expr} {scope : Scope} {own : List (Str × Nat)} {p : Pat} {el : EX} {it : AX} (hc : X.calm = true) (hN : X.N.Nodup) (hy : X.N[i]? = some y) (hyl : X.env.scope.names.lookup y = some .local)
    (hsw : swapsWith (.ListComp elt [⟨tg, iter, ifs, 0⟩] scope pos) (some (.Name y py)) spos.line X.env = pure true) (hi : II T E X tg iter it) (ok : BlkOk X.N X.env.scope scope own)
    (hg : ∀ (s : Shared) (H : Hp) (C : Addr) (cl : List (Str × Addr)) (fp : List Addr), IG T (X.blk s H scope (compEnvC scope cl C X.env) fp) (own.map (·.2)) tg p) (ht : ∀ (s : Shared) (H : Hp) (C : Addr) (cl : List (Str × Addr)) (fp : List Addr), ITs T E00 (X.blk s H scope (compEnvC scope cl C X.env) fp) ifs fb)
    (he : ∀ (s : Shared) (H : Hp) (C : Addr) (cl : List (Str × Addr)) (fp : List Addr), IE T E00 (X.blk s H scope (compEnvC scope cl C X.env) fp) elt el) (hs : ∀ x, foldedSetIterable iter X.env x = pure x := by intro _; rfl) :
    IS T E X (.Assign [.Name y py] (.ListComp elt [⟨tg, iter, ifs, 0⟩] scope pos) spos) (sSet i (eLC (own.map (·.2)) it p fb el)) :=
  PS.mono (ps_setLc hc hN hy hyl hsw hi ok hg ht he hs) fun D σ H ⟨w, env, S, r, e, q⟩ => lc_read (Q := fun v H' => D.nx (σ.set i (some v)) H') ⟨w, env, S, r, e, (RP.bnd q).mono (fun d S1 h1 w1 H1 v l1 r1 p1 => h1 w1 H1 _ l1 r1 ((e.mono l1).set p1 i)) fun _ _ _ x => x⟩
end Ro
end
section
set_option Elab.async false
set_option linter.all false
set_option maxRecDepth 100000
set_option maxHeartbeats 4000000
namespace Ro
open PySem PySem.Spec PyProof.Rows L2
variable {T : Tb} {E : XK} {X : Cx} {a b c e : Expr} {es : List Expr} {f g h : EX} {fa ga fk : AX} {fb gb : BX} {pos : Pos} {st : Stmt} {sts rest : List Stmt} {s t : ES}
/-- a built-in by values: what HandS tells (r) follows from the mirror (m) -/
def BOk (T : Tb) (r : List V → Hp → VK → Prop) (m : List D → Option D) : Prop :=
  ∀ w S xs vs H d Q, WR T w S H → Reps T w xs vs → m xs = some d → (∀ w' H' v, w.le w' → WR T w' S H' → Rep T w' d v → Q v H') → r vs H Q
theorem tI_b {r : List V → Hp → VK → Prop} {m : List D → Option D} (h : BOk T r m) {σ : St} {H : Hp} {Q : VK} (q : tI T E (eB m fa) σ H Q) : tCB r (tIa T E fa) σ H Q := by
  obtain ⟨w, env, S, r0, e, q⟩ := q
  refine ⟨w, env, S, r0, e, (RP.bnd q).mono (fun xs S1 h1 w1 H1 vs l1 r1 p1 => ?_) fun _ _ _ x => x⟩
  cases z : m xs with
  | none => rw [z] at h1; exact (show False from h1).elim
  | some d =>
    rw [z] at h1
    exact h w1 S1 xs vs H1 d Q r1 p1 z fun w' H' v l => h1 w' H' v (l1.trans l)
theorem ie_b {x : Str} {p : Pos} {id : String} {r : List V → Hp → VK → Prop} {m : List D → Option D} (hc : CallR X (.builtin id) r) (hm : BOk T r m) (hg : Gl X x) (hn : X.mg x = none) (hv : bootBuiltins x = some (.builtin id)) (ha : IA T E X (a :: es) fa) (hx : x ≠ "__name__" := by decide +kernel) (hdb : (x == ("__debug__" : Str)) = false := by decide +kernel)
    (he : starEach (a :: es) X.env = (false, eval a X.env) :: starEach es X.env := by rfl) (hpl : (backTo pos (starEach es X.env)).any (·.1) = false := by rfl) : IE T E X (.Call (.Name x p) (a :: es) [] pos) (eB m fa) :=
  PE.mono (pe_callB hc hg hn hv ha hx hdb he hpl) fun σ H Q q => tI_b hm q
theorem ie_bt {x : Str} {p : Pos} {id : String} {r : List V → Hp → VK → Prop} {m : List D → Option D} (hc : CallR X (.type id) r) (hm : BOk T r m) (hg : Gl X x) (hn : X.mg x = none) (hv : bootBuiltins x = some (.type id)) (ha : IA T E X (a :: es) fa) (hx : x ≠ "__name__" := by decide +kernel) (hdb : (x == ("__debug__" : Str)) = false := by decide +kernel)
    (he : starEach (a :: es) X.env = (false, eval a X.env) :: starEach es X.env := by rfl) (hpl : (backTo pos (starEach es X.env)).any (·.1) = false := by rfl) : IE T E X (.Call (.Name x p) (a :: es) [] pos) (eB m fa) :=
  PE.mono (pe_callTy hc hg hn hv ha hx hdb he hpl) fun σ H Q q => tI_b hm q
theorem reps_one {w : Wd} {x : D} {vs : List V} (r : Reps T w [x] vs) : ∃ v, vs = [v] ∧ Rep T w x v := by
  cases r with
  | cons r1 r2 => cases r2; exact ⟨_, rfl, r1⟩
theorem reps_two {w : Wd} {x y : D} {vs : List V} (r : Reps T w [x, y] vs) : ∃ v u, vs = [v, u] ∧ Rep T w x v ∧ Rep T w y u := by
  cases r with
  | cons r1 r2 => cases r2 with
    | cons r3 r4 => cases r4; exact ⟨_, _, rfl, r1, r3⟩
theorem bo_abs : BOk T (fun xs H Q => ∃ i, xs = [.int i] ∧ Q (.int (if i < 0 then -i else i)) H) bAbs := fun w S xs vs H d Q r p h k => by
  unfold bAbs at h
  split at h
  · cases h
    obtain ⟨v, rfl, p2⟩ := reps_one p
    cases p2
    exact ⟨_, rfl, k w H _ (Wd.le.refl _) r (.int _)⟩
  · cases h
theorem bo_max2 : BOk T (fun xs H Q => ∃ i j, xs = [.int i, .int j] ∧ Q (.int (if j > i then j else i)) H) bMax2 := fun w S xs vs H d Q r p h k => by
  unfold bMax2 at h
  split at h
  · cases h
    obtain ⟨v, u, rfl, p2, q2⟩ := reps_two p
    cases p2; cases q2
    exact ⟨_, _, rfl, k w H _ (Wd.le.refl _) r (.int _)⟩
  · cases h
theorem bo_min2 : BOk T (fun xs H Q => ∃ i j, xs = [.int i, .int j] ∧ Q (.int (if j < i then j else i)) H) bMin2 := fun w S xs vs H d Q r p h k => by
  unfold bMin2 at h
  split at h
  · cases h
    obtain ⟨v, u, rfl, p2, q2⟩ := reps_two p
    cases p2; cases q2
    exact ⟨_, _, rfl, k w H _ (Wd.le.refl _) r (.int _)⟩
  · cases h
theorem bo_divmod : BOk T (fun xs H Q => ∃ i j, xs = [.int i, .int j] ∧ CDivP i j ∧ ∀ p, H p = none → Q (.ref p) (upd H p (.tup [.int (i / j), .int (i % j)]))) bDivmod := fun w S xs vs H d Q r p h k => by
  unfold bDivmod at h
  split at h
  · split at h
    · rename_i hj
      cases h
      obtain ⟨v, u, rfl, p2, q2⟩ := reps_two p
      cases p2; cases q2
      refine ⟨_, _, rfl, (by
        unfold divOk at hj
        have hj := of_decide_eq_true hj
        refine ⟨hj.1, PyProof.noPylong_of_log2 ?_⟩
        rename_i jj _
        have h2 : jj.natAbs < 2 ^ 60 := by omega
        have := (Nat.log2_lt (n := jj.natAbs) (k := 60) (by omega)).mpr h2
        omega), fun p hp => ?_⟩
      obtain ⟨l1, r1⟩ := r.new hp (.tup _)
      exact k _ _ _ l1 r1 (.tup (.inl (.inl upd_same)) (.cons (.int _) (.cons (.int _) .nil)))
    · cases h
  · cases h
def rLenH (K : PySem.W.Frag) : List V → Hp → VK → Prop := fun xs H Q => ∃ x n, xs = [x] ∧ LenV K x H n ∧ Q (.int n) H
theorem reps_len_eq {w : Wd} {l : List D} {vs : List V} (r : Reps T w l vs) : (vs.length : Int) = l.length := by rw [r.length]
theorem bo_len : BOk T (rLenH T.K) (fun xs => match xs with | [.dct _] => none | _ => bLen xs) := fun w S xs vs H d Q r p h k => by
  dsimp only at h
  split at h
  · cases h
  rename_i hnd
  unfold bLen at h
  split at h
  · obtain ⟨v, rfl, p2⟩ := reps_one p
    unfold lenD at h
    split at h
    · cases h
      cases p2 with
      | tup q1 q2 => exact ⟨_, _, rfl, .inr ⟨_, sqt_sub r q1, rfl⟩, by rw [reps_len_eq q2]; exact k w H _ (Wd.le.refl _) r (.int _)⟩
    · cases h
      cases p2 with
      | lst q1 q2 => exact ⟨_, _, rfl, .inl ⟨_, .inl (.inl (r.sub _ _ q1)), rfl⟩, by rw [reps_len_eq q2]; exact k w H _ (Wd.le.refl _) r (.int _)⟩
    · cases h
      cases p2 with
      | scr q1 => exact ⟨_, _, rfl, .inl ⟨_, sql_sub r q1, rfl⟩, by rw [List.length_map]; exact k w H _ (Wd.le.refl _) r (.int _)⟩
    · split at h
      · rename_i hl
        cases h
        cases p2
        exact ⟨_, _, rfl, ⟨by rw [sizeLine_eq]; exact hl, rfl⟩, k w H _ (Wd.le.refl _) r (.int _)⟩
      · cases h
    · exact (hnd _ rfl).elim
    · cases h
  · cases h
def rListOf (K : PySem.W.Frag) : List V → Hp → VK → Prop := fun xs H Q => ∃ p ys, xs = [.ref p] ∧ (SqL K H p ys ∨ SqT K H p ys) ∧ ∀ l, H l = none → Q (.ref l) (upd H l (.lst ys))
theorem bo_list : BOk T (rListOf T.K) bList := fun w S xs vs H d Q r p h k => by
  unfold bList at h
  split at h
  · cases h
    obtain ⟨v, rfl, p2⟩ := reps_one p
    cases p2 with
    | tup q1 q2 =>
      refine ⟨_, _, rfl, .inr (sqt_sub r q1), fun p hp => ?_⟩
      obtain ⟨l1, r1⟩ := r.new hp (.lst _)
      exact k _ _ _ l1 r1 (.lst upd_same (q2.mono l1))
  · cases h
    obtain ⟨v, rfl, p2⟩ := reps_one p
    cases p2 with
    | lst q1 q2 =>
      refine ⟨_, _, rfl, .inl (.inl (.inl (r.sub _ _ q1))), fun p hp => ?_⟩
      obtain ⟨l1, r1⟩ := r.new hp (.lst _)
      exact k _ _ _ l1 r1 (.lst upd_same (q2.mono l1))
  · cases h
def tyVV (K : PySem.W.Frag) : Ty → V
  | .b n => .ty n
  | .o c => .ref (He.ga K (c : Str))
/-- what is told of a class for isinstance -/
structure IsiC (K : PySem.W.Frag) (C : Addr) : Prop where
  cl : Cls K C
  ha : PySem.W.findIn K (.ref C) "__class__" = some (some (.builtin "object.__class__"))
  hn : PySem.W.specialIn K (.builtin "object.__class__") "__get__" = some (some (.builtin "getset_descriptor.__get__"))
  htk : PySem.W.takesIn K (.builtin "object.__class__") = some true
  hm : PySem.W.mroIn K C (.type "object") = some true
theorem tyX_of {w : Wd} {S : Store} {H : Hp} {d : D} {x : V} {t : Ty} (r : WR T w S H) (p : Rep T w d x) (h : tyD d S = some t) (hc : ∀ c, t = .o c → IsiC T.K (He.ga T.K (c : Str))) : TyX T.K H x (tyV' T.K t) := by
  cases p with
  | non => cases h; exact .base .non
  | bl b => cases h; exact .base (.bl b)
  | int i => cases h; exact .base (.int i)
  | str s => cases h; exact .base (.str s)
  | tup q1 q2 =>
    cases h
    rcases sqt_sub r q1 with (q | ⟨o, q⟩) | ⟨o, its, n, q, hcl, _⟩
    · exact .base (.tup q)
    · exact .fTuple q
    · exact .kTuple q hcl
  | scr q1 =>
    cases h
    rcases sql_sub r q1 with (q | ⟨o, q⟩) | ⟨o, its, n, q, hcl, _⟩
    · exact .base (.lst q)
    · exact .base (.frz q)
    · exact .kList q hcl
  | lst q1 q2 => cases h; exact .base (.lst (r.sub _ _ q1))
  | dct q1 q2 => cases h; exact .base (.dK (r.sub _ _ q1))
  | obj q1 q2 q3 =>
    cases h
    have z := hc _ rfl
    exact .base (.ins (r.sub _ _ q1) z.cl z.ha z.hn z.htk z.hm)
  | ref hn =>
    unfold tyD at h
    dsimp only at h
    split at h
    · rename_i l hS
      cases h
      obtain ⟨us, c1, c2⟩ := r.cell _ _ _ hS hn
      exact .base (.lst c1)
    · rename_i l hS
      cases h
      obtain ⟨us, c1, c2⟩ := r.cell _ _ _ hS hn
      exact .base (.dK c1)
    · rename_i c fs hS
      cases h
      obtain ⟨dx, gs, c1, c2, c3⟩ := r.cell _ _ _ hS hn
      have z := hc _ rfl
      exact .base (.ins c1 z.cl z.ha z.hn z.htk z.hm)
    · cases h
  | fn x => cases h
  | xc0 q1 q2 => cases h
  | xc1 q1 q2 q3 q4 q5 => cases h
/-- the class, as written -/
def IsTyE (T : Tb) (X : Cx) (e : Expr) (t : Ty) : Prop := PE X e (tC (tyVV T.K t))
theorem isTy_b {n : String} {x : Str} (hg : Gl X x) (hm : X.mg x = none) (hv : bootBuiltins x = some (.type n)) (hn : x ≠ "__name__" := by decide +kernel) (hd : (x == ("__debug__" : Str)) = false := by decide +kernel) : IsTyE T X (.Name x pos) (.b n) := pe_bltn (v := .ty n) hg hm hv rfl hn hd
theorem isTy_o {c : String} (hg : Gl X (c : Str)) (hm : X.mg (c : Str) = some (.ref (He.ga T.K (c : Str)))) (hd : ((c : Str) == ("__debug__" : Str)) = false := by decide +kernel) : IsTyE T X (.Name (c : Str) pos) (.o c) := pe_glob (v := .ref _) hg hm rfl hd
theorem ie_isi {p : Pos} {tys : List Ty} {Tt : Ty} (hK : X.K = T.K) (hg : Gl X "isinstance") (hn : X.mg "isinstance" = none) (ha : IE T E X a f) (hb : IsTyE T X b Tt) (hc : ∀ t ∈ tys, ∀ c, t = .o c → IsiC T.K (He.ga T.K (c : Str))) (hk : ∀ t ∈ tys, PySem.W.kitOne T.K (tyV' T.K t) (tyV' T.K Tt) = some (subTy t Tt))
    (he : starEach (a :: [b]) X.env = (false, eval a X.env) :: starEach [b] X.env := by rfl) (hpl : (backTo pos (starEach [b] X.env)).any (·.1) = false := by rfl) (he2 : starEach [b] X.env = (false, eval b X.env) :: starEach [] X.env := by rfl) : IE T E X (.Call (.Name "isinstance" p) [a, b] [] pos) (eIsI tys Tt f) :=
  PE.mono (pe_callB call_isi hg hn (by decide +kernel) (pa_cons ha (pa_cons hb pa_nil he2) he) (by decide +kernel) (by decide +kernel) he hpl) fun σ H Q ⟨w, env, S, r, e, q⟩ => ⟨w, env, S, r, e, (RP.bnd q).mono (fun d S1 h1 w1 H1 x l1 r1 p1 => by
    split at h1
    · rename_i t ht
      split at h1
      · rename_i hmem
        have hm : t ∈ tys := by simpa using hmem
        refine ⟨x, _, tyV' T.K t, tyV' T.K Tt, subTy t Tt, rfl, ?_, ?_, ?_, h1 w1 H1 _ l1 r1 (.bl _)⟩
        · cases Tt with
          | b n => exact .ty n
          | o c => exact .own _
        · rw [hK]; exact tyX_of r1 p1 ht (hc t hm)
        · rw [hK]; exact hk t hm
      · exact (show False from h1).elim
    · exact (show False from h1).elim) fun _ _ _ x => x⟩
end Ro
end
section
set_option Elab.async false
set_option linter.all false
set_option maxRecDepth 100000
set_option maxHeartbeats 4000000
namespace Ro
open PySem PySem.Spec PyProof.Rows L2
variable {T : Tb} {E : XK} {X : Cx} {a b c e : Expr} {es : List Expr} {f g h : EX} {fa ga fk : AX} {fb gb : BX} {pos : Pos} {st : Stmt} {sts rest : List Stmt} {s t : ES}
def tIo (T : Tb) (E : XK) (f : OX) : L2.TO := fun σ H Q => ∃ w env S, WR T w S H ∧ ER T w env σ ∧ RP (f env S) (fun o S' => ∀ w' H', w.le w' → WR T w' S' H' → Q o H') (XW T w E)
def IO' (T : Tb) (E : XK) (X : Cx) (e : Option Expr) (f : OX) : Prop := PO X e (tIo T E f)
theorem PO.mono {X : Cx} {e : Option Expr} {t t' : L2.TO} (h : PO X e t) (k : ∀ σ H Q, t' σ H Q → t σ H Q) : PO X e t' := ⟨fun pins s σ H Q I q => h.run pins s σ H Q I (k _ _ _ q)⟩
theorem io_none : IO' T E X none oNone := PO.mono po_none fun σ H Q ⟨w, env, S, r, e, q⟩ => q w H (Wd.le.refl _) r
theorem io_some (h : IE T E X a f) : IO' T E X (some a) (oSome f) := PO.mono (po_some h) fun σ H Q ⟨w, env, S, r, e, q⟩ => ⟨w, env, S, r, e, (RP.bnd q).mono (fun d S1 h1 w1 H1 x l1 r1 p1 => by
  cases p1 with
  | int i => exact ⟨i, rfl, h1 w1 H1 l1 r1⟩
  | _ => exact (show False from h1).elim) fun _ _ _ x => x⟩
theorem cutI_sIx (n d : Nat) (o : Option Int) : HT.sIx n d o = cutI n d o := by
  cases o <;> rfl
theorem reps_cut {w : Wd} {l : List D} {vs : List V} (lo hi : Option Int) (r : Reps T w l vs) : Reps T w (cutL l lo hi) (cutV vs lo hi) := by
  unfold cutL cutV
  rw [cutI_sIx, cutI_sIx, r.length]
  exact (r.drop _).take _
theorem ie_cut {lo hi : Option Expr} {ol oh : OX} {p2 : Pos} (hK : X.K = T.K) (ha : IE T E X a f) (hl : IO' T E X lo ol) (hh : IO' T E X hi oh) : IE T E X (.Subscript a (.Slice lo hi none p2) pos) (eCut f ol oh) :=
  PE.mono (pe_slice (sl_tupA.or (sl_list.or sl_str)) ha hl hh) fun σ H Q ⟨w, env, S, r, e, q⟩ => ⟨w, env, S, r, e, (RP.bnd q).mono (fun d S1 h1 w1 H1 x l1 r1 p1 => ⟨w1, env, S1, r1, e.mono l1, (RP.bnd h1).mono (fun o1 S2 h2 w2 H2 l2 r2 => ⟨w2, env, S2, r2, (e.mono l1).mono l2, (RP.bnd h2).mono (fun o2 S3 h3 w3 H3 l3 r3 => by
    have lt := (l1.trans l2).trans l3
    have p3 := p1.mono (l2.trans l3)
    cases z : cutD d o1 o2 with
    | none => rw [z] at h3; exact (show False from h3).elim
    | some y =>
      rw [z] at h3
      unfold cutD at z
      rw [hK]
      split at z
      · cases z
        cases p3 with
        | tup q1 q2 =>
          rename_i aa vs
          refine .inl ⟨aa, vs, rfl, sqt_sub r3 q1, fun hw => ?_, fun hw p hp => ?_⟩
          · refine h3 w3 H3 _ lt r3 (.tup q1 ?_)
            have e2 : cutV vs o1 o2 = vs := by
              unfold cutV
              rw [hw.1, hw.2, List.drop_zero, Nat.sub_zero, List.take_length]
            have z2 := reps_cut o1 o2 q2
            rw [e2] at z2
            exact z2
          · obtain ⟨l4, r4⟩ := r3.new hp (.tup _)
            exact h3 _ _ _ (lt.trans l4) r4 (.tup (.inl (.inl upd_same)) ((reps_cut o1 o2 q2).mono l4))
      · cases z
        cases p3 with
        | lst q1 q2 =>
          refine .inr (.inl ⟨_, _, rfl, .inl (.inl (r3.sub _ _ q1)), fun p hp => ?_⟩)
          obtain ⟨l4, r4⟩ := r3.new hp (.lst _)
          exact h3 _ _ _ (lt.trans l4) r4 (.lst upd_same ((reps_cut o1 o2 q2).mono l4))
      · split at z
        · rename_i hl
          cases z
          cases p3
          refine .inr (.inr ⟨_, rfl, by rw [sizeLine_eq]; exact hl, ?_⟩)
          have z2 := h3 w3 H3 _ lt r3 (.str _)
          unfold cutS
          unfold cutL at z2
          rw [cutI_sIx, cutI_sIx]
          rw [Array.length_toList] at z2
          exact z2
        · cases z
      · cases z) fun _ _ _ x => x.le (l1.trans l2)⟩) fun _ _ _ x => x.le l1⟩) fun _ _ _ x => x⟩
theorem tyV_list {w : Wd} {S : Store} {H : Hp} {d : D} {x : V} (r : WR T w S H) (p : Rep T w d x) (h : tyD d S = some (.b "list")) : tyV T.K "list" x H := by
  cases p with
  | ref hn =>
    unfold tyD at h
    dsimp only at h
    split at h
    · rename_i l hS
      obtain ⟨us, c1, c2⟩ := r.cell _ _ _ hS hn
      exact .inl ⟨rfl, us, .inl (.inl c1)⟩
    all_goals exact absurd h (by simp)
  | lst q1 q2 => exact .inl ⟨rfl, _, .inl (.inl (r.sub _ _ q1))⟩
  | scr q1 => exact .inl ⟨rfl, _, sql_sub r q1⟩
  | _ => exact absurd h (by unfold tyD; simp)
theorem mt_R {id : String} {r : V → List V → Hp → VK → Prop} (h : MtM X id r) : MtR X id r := fun pins s σ H x xs v us Q I rx rv q => h pins s σ H x xs v us Q I rx rv q
theorem ie_app {apos : Pos} (hK : X.K = T.K) (ho : IE T E X a f) (hb : IE T E X b g) (hbase : attributeBase a "append" X.env (eval a X.env) = eval a X.env := by rfl)
    (hfew : ((backTo pos (starEach [b] X.env)).all (fun x => !x.1) && (backToKw pos (keywordEach [] X.env)).all (fun x => x.1.isSome)
      && decide (([b]).length + ([] : List Keyword).length + (if ([] : List Keyword).isEmpty then 0 else 1) < 30)) = true := by rfl)
    (hline : (apos.endLine == pos.line) = true := by rfl) (hs : starEach [b] X.env = (false, eval b X.env) :: starEach [] X.env := by rfl) (hpl : (backTo pos (starEach [] X.env)).any (·.1) = false := by rfl) :
    IE T E X (.Call (.Attribute a "append" apos) [b] [] pos) (eApp f g) :=
  PE.mono (pe_bm PySem.F.plainAttrs_list PySem.F.slot_list_append PySem.F.type_list_append (mt_R mt_append) ho (pa_cons hb pa_nil hs) hbase hfew hline hs hpl) fun σ H Q ⟨w, env, S, r, e, q⟩ => ⟨w, env, S, r, e, (RP.bnd q).mono (fun d S1 h1 w1 H1 x l1 r1 p1 => by
    by_cases ht : tyD d S1 = some (.b "list")
    · rw [if_pos ht] at h1
      refine ⟨by rw [hK]; exact tyV_list r1 p1 ht, w1, env, S1, r1, e.mono l1, (RP.bnd h1).mono (fun y S2 h2 w2 H2 yv l2 r2 p2 => ?_) fun _ _ _ x => x.le l1⟩
      cases z : appM d y S2 with
      | none => rw [z] at h2; exact (show False from h2).elim
      | some S3 =>
        rw [z] at h2
        unfold appM at z
        split at z
        · split at z
          · rename_i n _ xs hS
            split at z
            · rename_i hl
              cases z
              cases p1.mono l2 with
              | ref hn =>
                obtain ⟨us, c1, c2⟩ := r2.cell _ _ _ hS hn
                refine ⟨_, us, yv, rfl, rfl, c1, by rw [sizeLine_eq, ← c2.length]; exact hl, ?_⟩
                exact h2 w2 _ _ (l1.trans l2) (r2.write hS hn (by intro z; cases z) ⟨_, upd_same, c2.append (.cons p2 .nil)⟩) .non
            · cases z
          · cases z
        · cases z
    · rw [if_neg ht] at h1
      exact (show False from h1).elim) fun _ _ _ x => x⟩
end Ro
end
section
set_option Elab.async false
set_option linter.all false
set_option maxRecDepth 100000
set_option maxHeartbeats 4000000
namespace Ro
open PySem PySem.Spec PyProof.Rows L2
variable {T : Tb} {E : XK} {X : Cx} {a b c e : Expr} {es : List Expr} {f g h : EX} {fa ga fk : AX} {fb gb : BX} {pos : Pos} {st : Stmt} {sts rest : List Stmt} {s t : ES}
mutual
def toPy : D → PyData
  | .bl b => .bool b
  | .int i => .int i
  | .str s => .str s
  | .tup l => .tuple (toPys l)
  | .lst l => .list (toPys l)
  | _ => .none
def toPys : List D → List PyData
  | [] => []
  | x :: l => toPy x :: toPys l
end
/-- plain, at most n deep -/
def plN : Nat → D → Bool
  | _, .non => true
  | _, .bl _ => true
  | _, .int _ => true
  | _, .str _ => true
  | n + 1, .tup l => l.all (plN n)
  | n + 1, .lst l => l.all (plN n)
  | _, _ => false
def plD : D → Bool := plN 8
theorem toPy_ok : ∀ (n : Nat) (d : D), plN n d = true → (toPy d).plain = true ∧ (toPy d).depth ≤ n
  | _, .non, _ => ⟨rfl, Nat.zero_le _⟩
  | _, .bl _, _ => ⟨rfl, Nat.zero_le _⟩
  | _, .int _, _ => ⟨rfl, Nat.zero_le _⟩
  | _, .str _, _ => ⟨rfl, Nat.zero_le _⟩
  | 0, .tup l, h => by simp [plN] at h
  | 0, .lst l, h => by simp [plN] at h
  | n + 1, .tup l, h => by
    have h' : ∀ x ∈ l, plN n x = true := by simpa [plN] using h
    have key : ∀ m : List D, (∀ x ∈ m, plN n x = true) → PyData.plainAll (toPys m) = true ∧ PyData.depthAll (toPys m) ≤ n := by
      intro m
      induction m with
      | nil => intro _; exact ⟨rfl, Nat.zero_le _⟩
      | cons x m ih =>
        intro hm
        obtain ⟨a1, a2⟩ := toPy_ok n x (hm x (by simp))
        obtain ⟨b1, b2⟩ := ih fun y hy => hm y (by simp [hy])
        exact ⟨by simp [toPys, PyData.plainAll, a1, b1], by simp only [toPys, PyData.depthAll]; omega⟩
    obtain ⟨k1, k2⟩ := key l h'
    exact ⟨by simpa [toPy, PyData.plain] using k1, by simp only [toPy, PyData.depth]; omega⟩
  | n + 1, .lst l, h => by
    have h' : ∀ x ∈ l, plN n x = true := by simpa [plN] using h
    have key : ∀ m : List D, (∀ x ∈ m, plN n x = true) → PyData.plainAll (toPys m) = true ∧ PyData.depthAll (toPys m) ≤ n := by
      intro m
      induction m with
      | nil => intro _; exact ⟨rfl, Nat.zero_le _⟩
      | cons x m ih =>
        intro hm
        obtain ⟨a1, a2⟩ := toPy_ok n x (hm x (by simp))
        obtain ⟨b1, b2⟩ := ih fun y hy => hm y (by simp [hy])
        exact ⟨by simp [toPys, PyData.plainAll, a1, b1], by simp only [toPys, PyData.depthAll]; omega⟩
    obtain ⟨k1, k2⟩ := key l h'
    exact ⟨by simpa [toPy, PyData.plain] using k1, by simp only [toPy, PyData.depth]; omega⟩
  | n, .dct l, h => by simp [plN] at h
  | n, .obj c l, h => by simp [plN] at h
  | n, .scr l, h => by simp [plN] at h
  | n, .ref c, h => by simp [plN] at h
  | n, .fn c, h => by simp [plN] at h
  | n, .thk c l, h => by simp [plN] at h
theorem dp_of {w : Wd} {S : Store} {H : Hp} (r : WR T w S H) : ∀ (n : Nat) (d : D) (x : V), plN n d = true → Rep T w d x → Dp T.K H x (toPy d)
  | _, .non, _, _, .non => .non
  | _, .bl _, _, _, .bl b => .bl b
  | _, .int _, _, _, .int i => .int i
  | _, .str _, _, _, .str s => .str s
  | 0, .tup _, _, h, _ => by simp [plN] at h
  | 0, .lst _, _, h, _ => by simp [plN] at h
  | n + 1, .tup l, _, h, .tup q q2 => by
    have h' : ∀ x ∈ l, plN n x = true := by simpa [plN] using h
    have key : ∀ (m : List D) (vs : List V), (∀ x ∈ m, plN n x = true) → Reps T w m vs → DpAll T.K H vs (toPys m) := by
      intro m
      induction m with
      | nil => intro vs _ z; cases z; exact .nil
      | cons x m ih =>
        intro vs hm z
        cases z with
        | cons z1 z2 => exact .cons (dp_of r n x _ (hm x (by simp)) z1) (ih _ (fun y hy => hm y (by simp [hy])) z2)
    exact .tup (sqt_sub r q) (key l _ h' q2)
  | n + 1, .lst l, _, h, .lst q q2 => by
    have h' : ∀ x ∈ l, plN n x = true := by simpa [plN] using h
    have key : ∀ (m : List D) (vs : List V), (∀ x ∈ m, plN n x = true) → Reps T w m vs → DpAll T.K H vs (toPys m) := by
      intro m
      induction m with
      | nil => intro vs _ z; cases z; exact .nil
      | cons x m ih =>
        intro vs hm z
        cases z with
        | cons z1 z2 => exact .cons (dp_of r n x _ (hm x (by simp)) z1) (ih _ (fun y hy => hm y (by simp [hy])) z2)
    exact .lst (.inl (.inl (r.sub _ _ q))) (key l _ h' q2)
  | n, .scr _, _, h, _ => by simp [plN] at h
  | n, .dct _, _, h, _ => by simp [plN] at h
  | n, .obj _ _, _, h, _ => by simp [plN] at h
  | n, .ref _, _, h, _ => by simp [plN] at h
  | n, .fn _, _, h, _ => by simp [plN] at h
  | n, .thk _ _, _, h, _ => by simp [plN] at h
theorem dpAll_of {w : Wd} {S : Store} {H : Hp} (r : WR T w S H) (n : Nat) : ∀ (m : List D) (vs : List V), m.all (plN n) = true → Reps T w m vs → DpAll T.K H vs (toPys m)
  | [], _, _, z => by cases z; exact .nil
  | x :: m, _, hm, z => by
    obtain ⟨h1, h2⟩ := Bool.and_eq_true_iff.mp (show (plN n x && m.all (plN n)) = true from hm)
    cases z with
    | cons z1 z2 => exact .cons (dp_of r n x _ h1 z1) (dpAll_of r n m _ h2 z2)
theorem toPys_ok {n : Nat} {l : List D} (h : l.all (plN n) = true) : PyData.plainAll (toPys l) = true ∧ PyData.depthAll (toPys l) ≤ n := by
  have z := toPy_ok (n + 1) (.tup l) h
  refine ⟨by simpa [toPy, PyData.plain] using z.1, ?_⟩
  have := z.2
  simp only [toPy, PyData.depth] at this
  omega
mutual
theorem eqv_py : ∀ (n : Nat) (d e : D), plN n d = true → plN n e = true → PyData.eqv (toPy d) (toPy e) = pyEq d e
  | n, .non, e, _, he => by cases e <;> simp_all [plN, toPy, PyData.eqv, pyEq]
  | n, .bl b, e, _, he => by
    cases e <;> simp_all [plN, toPy, PyData.eqv, pyEq]
    all_goals (try (cases b <;> simp <;> rfl))
  | n, .int i, e, _, he => by
    cases e <;> simp_all [plN, toPy, PyData.eqv, pyEq]
    all_goals (first | rfl | (rename_i b; cases b <;> simp <;> rfl))
  | n, .str s, e, _, he => by
    cases e <;> simp_all [plN, toPy, PyData.eqv, pyEq]
    all_goals rfl
  | 0, .tup l, e, h, he => by simp [plN] at h
  | 0, .lst l, e, h, he => by simp [plN] at h
  | n + 1, .tup l, e, h, he => by
    cases e with
    | tup m =>
      simp only [toPy, PyData.eqv, pyEq]
      exact eqvs_py n l m h he
    | _ => simp_all [plN, toPy, PyData.eqv, pyEq]
  | n + 1, .lst l, e, h, he => by
    cases e with
    | lst m =>
      simp only [toPy, PyData.eqv, pyEq]
      exact eqvs_py n l m h he
    | _ => simp_all [plN, toPy, PyData.eqv, pyEq]
  | n, .dct l, _, h, _ => by simp [plN] at h
  | n, .obj c l, _, h, _ => by simp [plN] at h
  | n, .scr l, _, h, _ => by simp [plN] at h
  | n, .ref c, _, h, _ => by simp [plN] at h
  | n, .fn c, _, h, _ => by simp [plN] at h
  | n, .thk c l, _, h, _ => by simp [plN] at h
theorem eqvs_py : ∀ (n : Nat) (l m : List D), l.all (plN n) = true → m.all (plN n) = true → PyData.eqvAll (toPys l) (toPys m) = pyEqs l m
  | _, [], [], _, _ => rfl
  | _, [], _ :: _, _, _ => rfl
  | _, _ :: _, [], _, _ => rfl
  | n, x :: l, y :: m, h1, h2 => by
    obtain ⟨a1, a2⟩ := Bool.and_eq_true_iff.mp (show (plN n x && l.all (plN n)) = true from h1)
    obtain ⟨b1, b2⟩ := Bool.and_eq_true_iff.mp (show (plN n y && m.all (plN n)) = true from h2)
    simp only [toPys, PyData.eqvAll, pyEqs]
    rw [eqv_py n x y a1 b1, eqvs_py n l m a2 b2]
end
def eqD (x y : D) : Option D := if plD x && plD y then some (.bl (pyEq x y)) else none
def neD (x y : D) : Option D := if plD x && plD y then some (.bl (!pyEq x y)) else none
theorem oi_eqP (hK : X.K = T.K) (hu : X.A.units + 64 < cLine) : OpR X (compareOp .Eq) (rOp T eqD) := fun pins s σ H x y v u Q I rx ry q => by
  obtain ⟨w, d, e, r, S, h1, h2, h3, h4, h5⟩ := q
  unfold eqD at h4
  split at h4
  · rename_i hp
    cases h4
    obtain ⟨p1, p2⟩ := Bool.and_eq_true_iff.mp hp
    obtain ⟨as, r1⟩ := Dp.reads I _ x v (by rw [hK]; exact dp_of h1 8 d x p1 h2) rx
    obtain ⟨bs, r2⟩ := Dp.reads I _ y u (by rw [hK]; exact dp_of h1 8 e y p2 h3) ry
    obtain ⟨k1, k2⟩ := toPy_ok 8 d p1
    obtain ⟨k3, k4⟩ := toPy_ok 8 e p2
    refine SeqAt.eq_plain r1 r2 k1 k3 (by omega) ⟨.bl _, H, I, rfl, ?_⟩
    rw [eqv_py 8 d e p1 p2]
    exact h5 w H _ (Wd.le.refl _) h1 (.bl _)
  · cases h4
theorem oi_neP (hK : X.K = T.K) (hu : X.A.units + 64 < cLine) : OpR X (compareOp .NotEq) (rOp T neD) := fun pins s σ H x y v u Q I rx ry q => by
  obtain ⟨w, d, e, r, S, h1, h2, h3, h4, h5⟩ := q
  unfold neD at h4
  split at h4
  · rename_i hp
    cases h4
    obtain ⟨p1, p2⟩ := Bool.and_eq_true_iff.mp hp
    obtain ⟨as, r1⟩ := Dp.reads I _ x v (by rw [hK]; exact dp_of h1 8 d x p1 h2) rx
    obtain ⟨bs, r2⟩ := Dp.reads I _ y u (by rw [hK]; exact dp_of h1 8 e y p2 h3) ry
    obtain ⟨k1, k2⟩ := toPy_ok 8 d p1
    obtain ⟨k3, k4⟩ := toPy_ok 8 e p2
    refine SeqAt.ne_plain r1 r2 k1 k3 (by omega) ⟨.bl _, H, I, rfl, ?_⟩
    rw [eqv_py 8 d e p1 p2]
    exact h5 w H _ (Wd.le.refl _) h1 (.bl _)
  · cases h4
def inL (x : D) (l : List D) : Bool := l.any fun y => pyEq y x
theorem any_py {n : Nat} {x : D} (hx : plN n x = true) : ∀ {l : List D}, l.all (plN n) = true → ((toPys l).any fun y => PyData.eqv y (toPy x)) = inL x l
  | [], _ => rfl
  | y :: l, h => by
    obtain ⟨h1, h2⟩ := Bool.and_eq_true_iff.mp (show (plN n y && l.all (plN n)) = true from h)
    show (PyData.eqv (toPy y) (toPy x) || (toPys l).any fun y => PyData.eqv y (toPy x)) = (pyEq y x || inL x l)
    rw [eqv_py n y x h1 hx, any_py hx h2]
def inD (x y : D) : Option D := match y with
  | .lst l => if plD x && l.all (plN 8) then some (.bl (inL x l)) else none
  | .tup l => if plD x && l.all (plN 8) then some (.bl (inL x l)) else none
  | _ => none
def ninD (x y : D) : Option D := match y with
  | .lst l => if plD x && l.all (plN 8) then some (.bl (!inL x l)) else none
  | .tup l => if plD x && l.all (plN 8) then some (.bl (!inL x l)) else none
  | _ => none
theorem oi_in (hK : X.K = T.K) (hu : X.A.units + 64 < cLine) : OpR X (compareOp .In) (rOp T inD) := fun pins s σ H x y v u Q I rx ry q => by
  obtain ⟨w, d, e, r, S, h1, h2, h3, h4, h5⟩ := q
  unfold inD at h4
  split at h4
  · split at h4
    · rename_i l hp
      cases h4
      obtain ⟨p1, p2⟩ := Bool.and_eq_true_iff.mp hp
      obtain ⟨as, r1⟩ := Dp.reads I _ x v (by rw [hK]; exact dp_of h1 8 d x p1 h2) rx
      obtain ⟨bs, r2⟩ := Dp.reads I _ y u (by rw [hK]; exact dp_of h1 9 (.lst l) y p2 h3) ry
      obtain ⟨k1, k2⟩ := toPy_ok 8 d p1
      obtain ⟨k3, k4⟩ := toPys_ok p2
      refine SeqAt.in_list_data (xs := toPys l) (by simpa only [toPy] using r2) r1 k3 k1 (by omega) ⟨.bl _, H, I, rfl, ?_⟩
      rw [any_py p1 p2]
      exact h5 w H _ (Wd.le.refl _) h1 (.bl _)
    · cases h4
  · split at h4
    · rename_i l hp
      cases h4
      obtain ⟨p1, p2⟩ := Bool.and_eq_true_iff.mp hp
      obtain ⟨as, r1⟩ := Dp.reads I _ x v (by rw [hK]; exact dp_of h1 8 d x p1 h2) rx
      obtain ⟨bs, r2⟩ := Dp.reads I _ y u (by rw [hK]; exact dp_of h1 9 (.tup l) y p2 h3) ry
      obtain ⟨k1, k2⟩ := toPy_ok 8 d p1
      obtain ⟨k3, k4⟩ := toPys_ok p2
      refine SeqAt.in_tuple_data (xs := toPys l) (by simpa only [toPy] using r2) r1 k3 k1 (by omega) ⟨.bl _, H, I, rfl, ?_⟩
      rw [any_py p1 p2]
      exact h5 w H _ (Wd.le.refl _) h1 (.bl _)
    · cases h4
  · cases h4
theorem oi_nin (hK : X.K = T.K) (hu : X.A.units + 64 < cLine) : OpR X (compareOp .NotIn) (rOp T ninD) := fun pins s σ H x y v u Q I rx ry q => by
  obtain ⟨w, d, e, r, S, h1, h2, h3, h4, h5⟩ := q
  unfold ninD at h4
  split at h4
  · split at h4
    · rename_i l hp
      cases h4
      obtain ⟨p1, p2⟩ := Bool.and_eq_true_iff.mp hp
      obtain ⟨as, r1⟩ := Dp.reads I _ x v (by rw [hK]; exact dp_of h1 8 d x p1 h2) rx
      obtain ⟨bs, r2⟩ := Dp.reads I _ y u (by rw [hK]; exact dp_of h1 9 (.lst l) y p2 h3) ry
      obtain ⟨k1, k2⟩ := toPy_ok 8 d p1
      obtain ⟨k3, k4⟩ := toPys_ok p2
      refine SeqAt.notIn_list_data (xs := toPys l) (by simpa only [toPy] using r2) r1 k3 k1 (by omega) ⟨.bl _, H, I, rfl, ?_⟩
      rw [any_py p1 p2]
      exact h5 w H _ (Wd.le.refl _) h1 (.bl _)
    · cases h4
  · split at h4
    · rename_i l hp
      cases h4
      obtain ⟨p1, p2⟩ := Bool.and_eq_true_iff.mp hp
      obtain ⟨as, r1⟩ := Dp.reads I _ x v (by rw [hK]; exact dp_of h1 8 d x p1 h2) rx
      obtain ⟨bs, r2⟩ := Dp.reads I _ y u (by rw [hK]; exact dp_of h1 9 (.tup l) y p2 h3) ry
      obtain ⟨k1, k2⟩ := toPy_ok 8 d p1
      obtain ⟨k3, k4⟩ := toPys_ok p2
      refine SeqAt.notIn_tuple_data (xs := toPys l) (by simpa only [toPy] using r2) r1 k3 k1 (by omega) ⟨.bl _, H, I, rfl, ?_⟩
      rw [any_py p1 p2]
      exact h5 w H _ (Wd.le.refl _) h1 (.bl _)
    · cases h4
  · cases h4
end Ro
end
section
set_option Elab.async false
set_option linter.all false
set_option maxRecDepth 100000
set_option maxHeartbeats 4000000
namespace Ro
open PySem PySem.Spec PyProof.Rows L2
variable {T : Tb} {E : XK} {X : Cx} {a b c e : Expr} {es : List Expr} {f g h : EX} {fa ga fk : AX} {fb gb : BX} {pos : Pos} {st : Stmt} {sts rest : List Stmt} {s t : ES}
def reprOk (d : D) : Bool := plD d && (toPy d).showable && decide ((toPy d).shown.length ≤ LINE)
def bRepr : List D → Option D
  | [x] => if reprOk x then some (.str (toPy x).shown) else none
  | _ => none
theorem noDict_plain : (∀ d : PyData, d.plain = true → d.hasDict = false) ∧ (∀ l : List PyData, PyData.plainAll l = true → PyData.hasDictAll l = false) := by
  have key : ∀ n : Nat, (∀ d : PyData, d.depth ≤ n → d.plain = true → d.hasDict = false) ∧ (∀ l : List PyData, PyData.depthAll l ≤ n → PyData.plainAll l = true → PyData.hasDictAll l = false) := by
    intro n
    induction n with
    | zero =>
      have h1 : ∀ d : PyData, d.depth ≤ 0 → d.plain = true → d.hasDict = false := by
        intro d hd hp
        cases d with
        | list xs => simp [PyData.depth] at hd
        | tuple xs => simp [PyData.depth] at hd
        | dict kvs => simp [PyData.plain] at hp
        | _ => rfl
      refine ⟨h1, fun l => ?_⟩
      induction l with
      | nil => intro _ _; rfl
      | cons x l ih =>
        intro hd hp
        simp only [PyData.depthAll] at hd
        simp only [PyData.plainAll, Bool.and_eq_true] at hp
        simp only [PyData.hasDictAll, h1 x (by omega) hp.1, ih (by omega) hp.2, Bool.or_self]
    | succ n ih =>
      obtain ⟨_, ih2⟩ := ih
      have h1 : ∀ d : PyData, d.depth ≤ n + 1 → d.plain = true → d.hasDict = false := by
        intro d hd hp
        cases d with
        | list xs =>
          simp only [PyData.depth] at hd
          simp only [PyData.plain] at hp
          simp only [PyData.hasDict, ih2 xs (by omega) hp]
        | tuple xs =>
          simp only [PyData.depth] at hd
          simp only [PyData.plain] at hp
          simp only [PyData.hasDict, ih2 xs (by omega) hp]
        | dict kvs => simp [PyData.plain] at hp
        | _ => rfl
      refine ⟨h1, fun l => ?_⟩
      induction l with
      | nil => intro _ _; rfl
      | cons x l ih =>
        intro hd hp
        simp only [PyData.depthAll] at hd
        simp only [PyData.plainAll, Bool.and_eq_true] at hp
        simp only [PyData.hasDictAll, h1 x (by omega) hp.1, ih (by omega) hp.2, Bool.or_self]
  exact ⟨fun d => (key d.depth).1 d (Nat.le_refl _), fun l => (key (PyData.depthAll l)).2 l (Nat.le_refl _)⟩
/-- repr by data -/
def rRepr (K : PySem.W.Frag) : List V → Hp → VK → Prop := fun vs H Q => ∃ x d, vs = [x] ∧ Dp K H x d ∧ d.plain = true ∧ d.depth ≤ 20 ∧ d.showable = true ∧ d.shown.length ≤ sizeLine ∧ Q (.str d.shown) H
theorem call_reprD (gd : X.A.guards = some []) (hu : X.A.units + 64 < cLine) : CallR X (.builtin "repr") (rRepr X.K) := by
  intro pins s σ H xs us Q I r h
  obtain ⟨x, d, rfl, hd, hp, hk, hs, hz, q⟩ := h
  obtain ⟨u, rfl, ru⟩ := Vals.one r
  cases hd with
  | non =>
    cases ru
    exact PySem.P.repr_of_none ⟨.str _, H, I.tok _, ⟨_, rfl⟩, q⟩
  | bl b =>
    cases ru
    exact PySem.P.repr_of_bool ⟨.str _, H, I.tok _, ⟨_, rfl⟩, q⟩
  | int i =>
    obtain ⟨t, rfl⟩ := ru
    exact PySem.P.repr_of_int (of_decide_eq_true hs) ⟨.str _, H, I.tok _, ⟨_, rfl⟩, q⟩
  | str z =>
    obtain ⟨t, rfl⟩ := ru
    exact PySem.P.repr_of_str ⟨.str _, H, I.tok _, ⟨_, rfl⟩, q⟩ hz
  | lst h1 h2 =>
    cases ru
    obtain ⟨as, rd⟩ := Dp.reads I _ _ (.ref _) (.lst h1 h2) rfl
    exact repr_of_reads' rd hs (PyData.noDict_hsm (noDict_plain.1 _ hp)) gd (by omega) (fun _ _ e => e) (fun h' u tk hk => ⟨.str _, H, I.kept hk, ⟨_, rfl⟩, q⟩) hz
  | tup h1 h2 =>
    cases ru
    obtain ⟨as, rd⟩ := Dp.reads I _ _ (.ref _) (.tup h1 h2) rfl
    exact repr_of_reads' rd hs (PyData.noDict_hsm (noDict_plain.1 _ hp)) gd (by omega) (fun _ _ e => e) (fun h' u tk hk => ⟨.str _, H, I.kept hk, ⟨_, rfl⟩, q⟩) hz
theorem bo_repr : BOk T (rRepr T.K) bRepr := fun w S xs vs H d Q r p h k => by
  unfold bRepr at h
  split at h
  · split at h
    · rename_i x hx
      cases h
      obtain ⟨v, rfl, p2⟩ := reps_one p
      unfold reprOk at hx
      simp only [Bool.and_eq_true, decide_eq_true_eq] at hx
      obtain ⟨k1, k2⟩ := toPy_ok 8 x hx.1.1
      exact ⟨v, _, rfl, dp_of r 8 x v hx.1.1 p2, k1, by omega, hx.1.2, by rw [sizeLine_eq]; exact hx.2, k w H _ (Wd.le.refl _) r (.str _)⟩
    · cases h
  · cases h
def bInt : List D → Option D
  | [.int i] => some (.int i)
  | [.bl k] => some (.int (if k then 1 else 0))
  | _ => none
theorem bo_int : BOk T (fun xs H Q => (∃ i, xs = [.int i] ∧ Q (.int i) H) ∨ ∃ k, xs = [.bl k] ∧ Q (.int (if k then 1 else 0)) H) bInt := fun w S xs vs H d Q r p h k => by
  unfold bInt at h
  split at h
  · cases h
    obtain ⟨v, rfl, p2⟩ := reps_one p
    cases p2
    exact .inl ⟨_, rfl, k w H _ (Wd.le.refl _) r (.int _)⟩
  · cases h
    obtain ⟨v, rfl, p2⟩ := reps_one p
    cases p2
    exact .inr ⟨_, rfl, k w H _ (Wd.le.refl _) r (.int _)⟩
  · cases h
def dStrs : List D → Option (List Str)
  | [] => some []
  | .str s :: l => (dStrs l).map (s :: ·)
  | _ => none
theorem reps_strs {w : Wd} : ∀ {l : List D} {vs : List V} {ys : List Str}, Reps T w l vs → dStrs l = some ys → vs = ys.map V.str
  | [], _, _, .nil, h => by cases h; rfl
  | .str s :: l, _, _, .cons q r, h => by
    cases q
    cases z : dStrs l with
    | none => rw [dStrs, z] at h; cases h
    | some ys =>
      rw [dStrs, z] at h
      cases h
      rw [reps_strs r z]
      rfl
  | .non :: l, _, _, _, h => by cases h
  | .bl _ :: l, _, _, _, h => by cases h
  | .int _ :: l, _, _, _, h => by cases h
  | .tup _ :: l, _, _, _, h => by cases h
  | .lst _ :: l, _, _, _, h => by cases h
  | .dct _ :: l, _, _, _, h => by cases h
  | .obj _ _ :: l, _, _, _, h => by cases h
  | .scr _ :: l, _, _, _, h => by cases h
  | .ref _ :: l, _, _, _, h => by cases h
  | .fn _ :: l, _, _, _, h => by cases h
  | .thk _ _ :: l, _, _, _, h => by cases h
def joinOk (x : Str) (ys : List Str) : Bool := decide ((ys.map (·.length)).sum + ys.length * x.length ≤ LINE)
/-- x.join(y) -/
def joinD (x y : D) : Option D := match x with
  | .str s => (match y with
    | .lst l => (dStrs l).bind fun ys => if joinOk s ys then some (.str (Txt.join s ys)) else none
    | .tup l => (dStrs l).bind fun ys => if joinOk s ys then some (.str (Txt.join s ys)) else none
    | _ => none)
  | _ => none
def eJoin (a b : EX) : EX := fun env S => (a env S).bnd fun x S1 => match x with
  | .str s => (b env S1).bnd fun y S2 => lift (joinD (.str s) y) S2
  | _ => .bad
theorem ie_join {apos : Pos} (hK : X.K = T.K) (ho : IE T E X a f) (hb : IE T E X b g) (hbase : attributeBase a "join" X.env (eval a X.env) = eval a X.env := by rfl)
    (hfew : ((backTo pos (starEach [b] X.env)).all (fun x => !x.1) && (backToKw pos (keywordEach [] X.env)).all (fun x => x.1.isSome)
      && decide (([b]).length + ([] : List Keyword).length + (if ([] : List Keyword).isEmpty then 0 else 1) < 30)) = true := by rfl)
    (hline : (apos.endLine == pos.line) = true := by rfl) (hs : starEach [b] X.env = (false, eval b X.env) :: starEach [] X.env := by rfl) (hpl : (backTo pos (starEach [] X.env)).any (·.1) = false := by rfl) :
    IE T E X (.Call (.Attribute a "join" apos) [b] [] pos) (eJoin f g) :=
  PE.mono (pe_bm PySem.F.plainAttrs_str PySem.F.slot_str_join PySem.F.type_str_join mt_join ho (pa_cons hb pa_nil hs) hbase hfew hline hs hpl) fun σ H Q ⟨w, env, S, r, e, q⟩ => ⟨w, env, S, r, e, (RP.bnd q).mono (fun d S1 h1 w1 H1 x l1 r1 p1 => by
    cases p1 with
    | str z =>
      refine ⟨rfl, w1, env, S1, r1, e.mono l1, (RP.bnd h1).mono (fun y S2 h2 w2 H2 yv l2 r2 p2 => ?_) fun _ _ _ x => x.le l1⟩
      cases zz : joinD (.str z) y with
      | none => rw [zz] at h2; exact (show False from h2).elim
      | some o =>
        rw [zz] at h2
        unfold joinD at zz
        dsimp only at zz
        split at zz
        · rename_i l
          cases z3 : dStrs l with
          | none => rw [z3] at zz; cases zz
          | some ys =>
            rw [z3] at zz
            have zz : (if joinOk z ys then some (D.str (Txt.join z ys)) else none) = some o := zz
            split at zz
            · rename_i hj
              cases zz
              cases p2 with
              | lst q1 q2 =>
                have e3 := reps_strs q2 z3
                subst e3
                exact ⟨z, _, ys, rfl, rfl, .inl (.inl (.inl (r2.sub _ _ q1))), of_decide_eq_true hj, h2 w2 H2 _ (l1.trans l2) r2 (.str _)⟩
            · cases zz
        · rename_i l
          cases z3 : dStrs l with
          | none => rw [z3] at zz; cases zz
          | some ys =>
            rw [z3] at zz
            have zz : (if joinOk z ys then some (D.str (Txt.join z ys)) else none) = some o := zz
            split at zz
            · rename_i hj
              cases zz
              cases p2 with
              | tup q1 q2 =>
                have e3 := reps_strs q2 z3
                subst e3
                exact ⟨z, _, ys, rfl, rfl, .inr (by rw [hK]; exact sqt_sub r2 q1), of_decide_eq_true hj, h2 w2 H2 _ (l1.trans l2) r2 (.str _)⟩
            · cases zz
        · cases zz
    | _ => exact (show False from h1).elim) fun _ _ _ x => x⟩
end Ro
end
section
set_option Elab.async false
set_option linter.all false
set_option maxRecDepth 100000
set_option maxHeartbeats 4000000
namespace Ro
open PySem PySem.Spec PyProof.Rows L2
/-- what isinstance asks of an exception's class -/
structure ExC (K : PySem.W.Frag) (C : Addr) : Prop where
  cl : (PySem.W.clsIn K C).isSome = true
  ga : PySem.W.findIn K (.ref C) "__getattribute__" = some (some (.builtin "BaseException.__getattribute__"))
  gt : ∃ g, PySem.W.findIn K (.ref C) "__getattr__" = some g
  sb : PySem.W.subIn K (.ref C) (.type "BaseException") = some true
  ca : PySem.W.findIn K (.ref C) "__class__" = some (some (.builtin "object.__class__"))
  sp : PySem.W.specialIn K (.builtin "object.__class__") "__get__" = some (some (.builtin "getset_descriptor.__get__"))
  tk : PySem.W.takesIn K (.builtin "object.__class__") = some true
  mr : PySem.W.mroIn K C (.type "object") = some true
theorem exC_of {K : PySem.W.Frag} {C : Addr} (h : exCB K C = true) : ExC K C := by
  unfold exCB at h
  simp only [Bool.and_eq_true, decide_eq_true_eq] at h
  obtain ⟨h1, h2, h3, h4, h5, h6, h7, h8⟩ := h
  exact ⟨h1, h2, Option.isSome_iff_exists.mp h3, h4, h5, h6, h7, h8⟩
/-- the head's facts -/
structure Fx (T : Tb) (mg : Str → Option Value) (L : Lw) : Prop where
  glo : ∀ x ∈ L.glo, mg (x : Str) = some (.ref (He.ga T.K (x : Str)))
  free : ∀ x ∈ L.free, mg (x : Str) = none
  gins : ∀ p ∈ L.gins, ∃ t, mg (p.1 : Str) = some (.int p.2 t)
  cls : ∀ x ∈ L.cls, Cls T.K (He.ga T.K (x : Str))
  noat : ∀ p ∈ L.noat, NoAttr T.K (He.ga T.K (p.1 : Str)) (p.2 : Str)
  meth : ∀ p ∈ L.meth, Meth T.K (He.ga T.K (p.1 : Str)) (p.2 : Str) (He.ma T.K (He.ga T.K (p.1 : Str)) (p.2 : Str))
  mkr : ∀ x ∈ L.mkr, Mk T.K (He.ga T.K (x : Str)) (He.ma T.K (He.ga T.K (x : Str)) "__init__")
  isi : ∀ x ∈ L.isi, IsiC T.K (He.ga T.K (x : Str))
  kit : ∀ p ∈ L.kit, PySem.W.kitOne T.K (tyV' T.K p.1) (tyV' T.K p.2) = some (subTy p.1 p.2)
  tups : ∀ p ∈ L.tups, He.tupB T.K (p.1 : Str) p.2 = true
  defs : ∀ (i : Nat) d, L.defs[i]? = some d → ∃ fd, FunD T.K d.name d.qual d.params d.body d.scope (d.dvs T.K) (d.kws T.K) (He.fAd T.K d.at_) fd
  fas : ∀ f ∈ L.fas, f.ok T.K = true
  exk : ∀ x ∈ L.exk, ExC T.K (He.ga T.K (x : Str))
  kix : ∀ p ∈ L.kix, PySem.W.kitOne T.K (.ref (He.ga T.K (p.1 : Str))) (tyV' T.K p.2.1) = some p.2.2
  tfn : (L.tf.map fun p => (He.cT T.K p.1).2).Nodup
  bs : ∀ b ∈ L.bs, b T.K = true
  gstrs : ∀ p ∈ L.gstrs, ∃ t, mg (p.1 : Str) = some (.str (p.2 : Str) t)
theorem isi_of {K : PySem.W.Frag} {x : String} (h : isiB K x = true) : IsiC K (He.ga K (x : Str)) := by
  obtain ⟨h1, h⟩ := He.ba h
  obtain ⟨h2, h⟩ := He.ba h
  obtain ⟨h3, h⟩ := He.ba h
  obtain ⟨h4, h5⟩ := He.ba h
  exact ⟨He.cls_ok h1, He.eqO_ok h2, He.eqO_ok h3, of_decide_eq_true h4, of_decide_eq_true h5⟩
/-- the head's watch -/
def obL (L : Lw) (K : PySem.W.Frag) : He.AlD := (L.ok K, L.defs.map fun d => He.fnW K d.at_)
theorem fx_of {T : Tb} {L : Lw} {h : Heap} {mg : Str → Option Value} (X : T.K.In h) (G : h.Ns mainGlobals mg) (c : obL L T.K = (true, L.defs.map He.DefD.val)) : Fx T mg L := by
  have c1 : L.ok T.K = true := congrArg (fun z : He.AlD => z.1) c
  have c2 : (L.defs.map fun d => He.fnW T.K d.at_) = L.defs.map He.DefD.val := congrArg (fun z : He.AlD => z.2) c
  obtain ⟨h1, c1⟩ := He.ba c1
  obtain ⟨h2, c1⟩ := He.ba c1
  obtain ⟨h3, c1⟩ := He.ba c1
  obtain ⟨h4, c1⟩ := He.ba c1
  obtain ⟨h5, c1⟩ := He.ba c1
  obtain ⟨h6, c1⟩ := He.ba c1
  obtain ⟨h7, c1⟩ := He.ba c1
  obtain ⟨h8, c1⟩ := He.ba c1
  obtain ⟨h9, c1⟩ := He.ba c1
  obtain ⟨h10, c1⟩ := He.ba c1
  obtain ⟨h11, c1⟩ := He.ba c1
  obtain ⟨h12, c1⟩ := He.ba c1
  obtain ⟨h13, c1⟩ := He.ba c1
  obtain ⟨h14, c1⟩ := He.ba c1
  obtain ⟨h15, c1⟩ := He.ba c1
  obtain ⟨h16, h17⟩ := He.ba c1
  rw [List.all_eq_true] at h1 h2 h3 h4 h5 h6 h7 h8 h9 h10 h11 h12 h13 h14 h16 h17
  refine ⟨fun x hx => He.glo_ok X G (h1 x hx), fun x hx => He.free_ok X G (h2 x hx), fun p hp => He.int_ok X G (h3 p hp), fun x hx => He.cls_ok (h4 x hx), fun p hp => He.noat_ok (h5 p hp), fun p hp => He.meth_ok (h6 p hp), fun x hx => He.mkr_ok (h7 x hx), fun x hx => isi_of (h8 x hx), fun p hp => of_decide_eq_true (h9 p hp), h10, fun i d hd => ?_, h12, fun x hx => exC_of (h13 x hx), fun p hp => of_decide_eq_true (h14 p hp), of_decide_eq_true h15, h16, fun p hp => He.str_ok X G (h17 p hp)⟩
  have e : (L.defs.map fun d => He.fnW T.K d.at_)[i]? = (L.defs.map He.DefD.val)[i]? := by rw [c2]
  rw [List.getElem?_map, List.getElem?_map, hd] at e
  exact He.DefD.funD (Option.some.inj e) (h11 d (List.mem_of_getElem? hd))
section
variable {T : Tb} {mg : Str → Option Value} {L : Lw}
theorem Fx.g (F : Fx T mg L) (x : String) (h : x ∈ L.glo := by decide +kernel) : mg (x : Str) = some (.ref (He.ga T.K (x : Str))) := F.glo x h
theorem Fx.f (F : Fx T mg L) (x : String) (h : x ∈ L.free := by decide +kernel) : mg (x : Str) = none := F.free x h
theorem Fx.i (F : Fx T mg L) (x : String) (i : Int) (h : (x, i) ∈ L.gins := by decide +kernel) : ∃ t, mg (x : Str) = some (.int i t) := F.gins (x, i) h
theorem Fx.m (F : Fx T mg L) (c x : String) (h : (c, x) ∈ L.meth := by decide +kernel) : Meth T.K (He.ga T.K (c : Str)) (x : Str) (He.ma T.K (He.ga T.K (c : Str)) (x : Str)) := F.meth (c, x) h
theorem Fx.c (F : Fx T mg L) (x : String) (h : x ∈ L.cls := by decide +kernel) : Cls T.K (He.ga T.K (x : Str)) := F.cls x h
theorem Fx.mk' (F : Fx T mg L) (x : String) (h : x ∈ L.mkr := by decide +kernel) : Mk T.K (He.ga T.K (x : Str)) (He.ma T.K (He.ga T.K (x : Str)) "__init__") := F.mkr x h
theorem Fx.tp (F : Fx T mg L) (i : Nat) {x : String} {l : List He.Dv} (h : L.tups[i]? = some (x, l) := by rfl) : He.tupB T.K (x : Str) l = true := F.tups (x, l) (List.mem_of_getElem? h)
theorem Fx.at' (F : Fx T mg L) (cs : List String) (f : String) (h : cs.all (fun c => L.cls.contains c && L.noat.contains (c, f)) = true := by decide +kernel) : ∀ c ∈ cs, Cls T.K (He.ga T.K (c : Str)) ∧ NoAttr T.K (He.ga T.K (c : Str)) (f : Str) := fun c hc => by
  have z := List.all_eq_true.mp h c hc
  obtain ⟨h1, h2⟩ := Bool.and_eq_true_iff.mp z
  exact ⟨F.cls c (by simpa using h1), F.noat (c, f) (by simpa using h2)⟩
theorem Fx.is' (F : Fx T mg L) (tys : List Ty) (h : tys.all (fun t => match t with | .o c => L.isi.contains c | _ => true) = true := by decide +kernel) : ∀ t ∈ tys, ∀ c, t = .o c → IsiC T.K (He.ga T.K (c : Str)) := fun t ht c e => by
  subst e
  have z := List.all_eq_true.mp h _ ht
  exact F.isi c (by simpa using z)
theorem Fx.fa (F : Fx T mg L) (i : Nat) {f : He.Fa} (h : L.fas[i]? = some f := by rfl) : f.ok T.K = true := F.fas f (List.mem_of_getElem? h)
theorem Fx.b (F : Fx T mg L) (i : Nat) {b : PySem.W.Frag → Bool} (h : L.bs[i]? = some b := by rfl) : b T.K = true := F.bs b (List.mem_of_getElem? h)
theorem Fx.s (F : Fx T mg L) (x z : String) (h : (x, z) ∈ L.gstrs := by decide +kernel) : ∃ t, mg (x : Str) = some (.str (z : Str) t) := F.gstrs (x, z) h
theorem Fx.ki (F : Fx T mg L) (tys : List Ty) (t : Ty) (h : tys.all (fun x => decide ((x, t) ∈ L.kit)) = true := by decide +kernel) : ∀ x ∈ tys, PySem.W.kitOne T.K (tyV' T.K x) (tyV' T.K t) = some (subTy x t) := fun x hx => F.kit (x, t) (of_decide_eq_true (List.all_eq_true.mp h x hx))
end
variable {T : Tb} {E : XK} {X : Cx} {pos : Pos}
theorem ie_gint {x : Str} {i : Int} (hg : Gl X x) (hm : ∃ t, X.mg x = some (.int i t)) (hd : (x == ("__debug__" : Str)) = false := by decide +kernel) : IE T E X (.Name x pos) (eC (.int i)) := by
  obtain ⟨t, e⟩ := hm
  exact ie_glob (v := .int i) hg e ⟨t, rfl⟩ (fun _ => .int i) hd
theorem ie_gtup {x : Str} {l : List He.Dv} (hg : Gl X x) (hm : X.mg x = some (.ref (He.ga T.K x))) (ht : He.tupB T.K x l = true) (hl : l.all dvOk = true) (hd : (x == ("__debug__" : Str)) = false := by decide +kernel) : IE T E X (.Name x pos) (eC (.tup (l.map dvD))) :=
  ie_glob (v := .ref (He.ga T.K x)) hg hm rfl (fun w => .tup (He.tupB_ok ht w.G) (reps_dfl hl)) hd
theorem hu1 {k : Nat} {A : Around} (hr : RG k A) : A.units + 1 < cLine := by
  have := hr.rm.units
  omega
def sBad : ES := fun _ _ => .bad
theorem is_bad {st : Stmt} : IS T E X st sBad := ⟨fun pins s σ H Q I q => by obtain ⟨w, env, S, r, e, q⟩ := q; exact (show False from q).elim⟩
/-- whose exceptions leave -/
theorem tk_cx {P : Program} {w : World} {K : PySem.W.Frag} {mg : Str → Option Value} {base : Heap} {N : List Str} {qual : Str} {scope : Scope} {fp : Addr} {cd : Value} {A : Around} {outer : List PySem.Env} {s : Shared} {H : Hp} {E : XK} :
    Takes (cxOf (L2.CX P w) P w K mg base N qual scope fp cd A outer s H E) (fun c d _ H => E c d H) := takes_of rfl rfl rfl rfl
theorem tk_no {X : Cx} : Takes X (fun c d _ H => E00 c d H) := fun _ _ ⟨_, _, _, _, _, _, _, _, _, _, _, _, _, _, _, _, w⟩ => w.elim
end Ro
end
section
set_option Elab.async false
set_option linter.all false
set_option maxRecDepth 100000
set_option maxHeartbeats 4000000
namespace Ro
open PySem PySem.Spec PyProof.Rows L2
variable {T : Tb} {E : XK} {X : Cx} {a b c e : Expr} {es : List Expr} {f g h : EX} {fa ga fk : AX} {fb gb : BX} {pos : Pos} {st : Stmt} {sts rest : List Stmt} {s t : ES}
theorem ie_v (i : Nat) {x : Str} (hN : X.N[i]? = some x := by rfl) (hv : Vis X.env.scope x := by first | exact .inl rfl | exact .inr (.inl rfl) | exact .inr (.inr rfl)) (hd : (x == ("__debug__" : Str)) = false := by decide +kernel) (hcd : (x == ("__classdict__" : Str)) = false := by decide +kernel) : IE T E X (.Name x pos) (eVar i) := ie_var hN hv hd hcd
theorem ig_n {vs : List Nat} (i : Nat) {x : Str} (hN : X.N.Nodup) (hi : X.N[i]? = some x := by rfl) (hx : Loc X.env.scope x := by first | exact .inl rfl | exact .inr rfl) (hv : i ∈ vs := by decide) (hf : X.fn x = true ∨ X.env.scope.names.lookup x = some .local := by first | exact .inl rfl | exact .inr rfl) : IG T X vs (.Name x pos) (pName i) := ig_name hN hi hx hv hf
theorem is_st (i : Nat) {x : Str} {p' : Pos} (hN : X.N.Nodup) (he : IE T E X a f) (hi : X.N[i]? = some x := by rfl) (hx : Loc X.env.scope x := by first | exact .inl rfl | exact .inr rfl) (hs : swapsWith a (some (.Name x p')) pos.line X.env = pure false := by rfl) (hf : X.fn x = true ∨ X.env.scope.names.lookup x = some .local := by first | exact .inl rfl | exact .inr rfl) :
    IS T E X (.Assign [.Name x p'] a pos) (sSet i f) := is_set hN hi hx he hs hf
def allN (n : Nat) : List Nat := List.range n
theorem len_nil : ∀ ds env e, pNil ds env = some e → ds.length = 0 := fun ds env e h => by
  cases ds with
  | nil => rfl
  | cons _ _ => cases h
theorem len_cons {p : Pat} {r : List D → Env → Option Env} {n : Nat} (k : ∀ ds env e, r ds env = some e → ds.length = n) : ∀ ds env e, pCons p r ds env = some e → ds.length = n + 1 := fun ds env e h => by
  cases ds with
  | nil => cases h
  | cons d ds =>
    have h : (p d env).bind (fun e => r ds e) = some e := h
    cases z : p d env with
    | none => rw [z] at h; cases h
    | some e1 =>
      rw [z] at h
      rw [List.length_cons, k ds e1 e h]
def blkB (N : List Str) (sc scope : Scope) (own : List (Str × Nat)) : Bool :=
  decide (scope.kind = .function) && (scope.names.all (fun y => decide (scope.names.lookup y.1 = some y.2)) && (own.all (fun p => decide (N[p.2]? = some p.1)) &&
  (scope.names.all (fun y => !decide (y.2 = .free) || (decide (sc.names.lookup y.1 = some .cell) || decide (sc.names.lookup y.1 = some .free))) &&
  scope.names.all (fun y => !(decide (y.2 = .local) || decide (y.2 = .cell)) || ((own.map (·.1)).contains y.1 || !N.contains y.1)))))
theorem blk_by {N : List Str} {sc scope : Scope} {own : List (Str × Nat)} (h : blkB N sc scope own = true) : BlkOk N sc scope own := by
  unfold blkB at h
  simp only [Bool.and_eq_true, List.all_eq_true, decide_eq_true_eq, Bool.or_eq_true, Bool.not_eq_true', decide_eq_false_iff_not, Bool.or_eq_false_iff] at h
  obtain ⟨h1, h2, h3, h4, h5⟩ := h
  refine ⟨h1, h2, h3, fun y hy e => ?_, fun y hy e => ?_⟩
  · rcases h4 y hy with z | z
    · exact absurd e z
    · exact z
  · rcases h5 y hy with z | z | z
    · rcases e with e | e
      · exact absurd e z.1
      · exact absurd e z.2
    · exact .inl (by simpa using z)
    · exact .inr (by simpa using z)
def idxA (x y : D) (S : Store) : Option D := match x with
  | .ref _ => idxM x y S
  | _ => idxD x y
def eIdxA (a b : EX) : EX := fun env S => (a env S).bnd fun x S1 => (b env S1).bnd fun y S2 => lift (idxA x y S2) S2
theorem PE.byOk {X : Cx} {e : Expr} {f g h : EX} (hg : IE T E X e g) (hh : IE T E X e h) (k : ∀ env S, f env S = g env S ∨ f env S = h env S) : IE T E X e f := ⟨fun pins s σ H Q I q => by
  obtain ⟨w, env, S, r, e, q⟩ := q
  rcases k env S with z | z
  · exact hg.run pins s σ H Q I ⟨w, env, S, r, e, by rw [← z]; exact q⟩
  · exact hh.run pins s σ H Q I ⟨w, env, S, r, e, by rw [← z]; exact q⟩⟩
/-- by the value's kind -/
theorem ie_idxA (hK : X.K = T.K) (ha : IE T E X a f) (hb : IE T E X b g) (hs : PlainIx b := by exact fun _ _ => rfl) : IE T E X (.Subscript a b pos) (eIdxA f g) :=
  PE.byOk (ie_idx hK ha hb hs) (ie_idxM hK ha hb hs) fun env S => by
    unfold eIdxA eIdx eIdxM eOp
    cases z : f env S with
    | ok x S1 =>
      cases x with
      | ref n => exact .inr rfl
      | _ => exact .inl rfl
    | err c fs S1 => exact .inl rfl
    | bad => exact .inl rfl
def itAny (f : EX) : AX := fun env S => (f env S).bnd fun d S1 => match d with
  | .lst l => .ok l S1
  | .tup l => .ok l S1
  | .str s => .ok (s.cps.toList.map fun c => .str ⟨#[c]⟩) S1
  | _ => .bad
/-- a text's signs -/
def itTxt (f : EX) : AX := fun env S => (f env S).bnd fun d S1 => match d with
  | .str s => .ok (s.cps.toList.map fun c => .str ⟨#[c]⟩) S1
  | _ => .bad
theorem itR_str {w : Wd} {z : Str} : ItR T w (z.cps.toList.map fun c => .str ⟨#[c]⟩) (Its z) where
  goS := fun i H w' S l1 r1 hi => by
    rw [List.length_map] at hi
    exact hi
  stopS := fun i H w' S l1 r1 hi => by
    rw [List.length_map] at hi
    exact hi
  yldS := fun i H x H' w' S d l1 r1 hd y => by
    obtain ⟨rfl, c, e, rfl⟩ := y
    rw [List.getElem?_map, Array.getElem?_toList, e] at hd
    cases hd
    exact ⟨w', Wd.le.refl _, r1, .str _⟩
theorem ii_txt {tg : Expr} (h : IE T E X a f) : II T E X tg a (itTxt f) :=
  PI.mono (pi_str h) fun σ H Rr ⟨w, env, S, r, e, q⟩ => ⟨w, env, S, r, e, (RP.bnd q).mono (fun d S1 h1 w1 H1 v l1 r1 p1 => by
    cases p1 with
    | str s => exact ⟨s, rfl, h1 w1 H1 _ l1 r1 itR_str⟩
    | _ => exact (show False from h1).elim) fun _ _ _ x => x⟩
theorem ii_any {tg : Expr} (hK : X.K = T.K) (h : IE T E X a f) : II T E X tg a (itAny f) := ⟨fun pins s σ H R I q => by
  obtain ⟨w, env, S, r, e, q⟩ := q
  by_cases z : ∃ l S1, f env S = .ok (.tup l) S1
  · obtain ⟨l, S1, z⟩ := z
    refine (ii_tup (tg := tg) hK h).run pins s σ H R I ⟨w, env, S, r, e, ?_⟩
    unfold itTup
    unfold itAny at q
    rw [z] at q ⊢
    exact q
  by_cases z2 : ∃ l S1, f env S = .ok (.str l) S1
  · obtain ⟨l, S1, z2⟩ := z2
    refine (ii_txt (tg := tg) h).run pins s σ H R I ⟨w, env, S, r, e, ?_⟩
    unfold itTxt
    unfold itAny at q
    rw [z2] at q ⊢
    exact q
  · refine (ii_lst (tg := tg) hK h).run pins s σ H R I ⟨w, env, S, r, e, ?_⟩
    unfold itSeq
    unfold itAny at q
    cases y : f env S with
    | ok d S1 =>
      rw [y] at q
      cases d with
      | tup l => exact absurd ⟨l, S1, y⟩ z
      | str l => exact absurd ⟨l, S1, y⟩ z2
      | _ => exact q
    | err c fs S1 => rw [y] at q; exact q
    | bad => rw [y] at q; exact q⟩
def zipL : List D → List D → List D
  | x :: l, y :: m => .tup [x, y] :: zipL l m
  | _, _ => []
theorem zipL_get : ∀ (l m : List D) (i : Nat), (zipL l m)[i]? = (match l[i]?, m[i]? with
    | some x, some y => some (.tup [x, y])
    | _, _ => none)
  | [], m, i => by simp [zipL]
  | x :: l, [], i => by
    simp [zipL]
  | x :: l, y :: m, 0 => by simp [zipL]
  | x :: l, y :: m, i + 1 => by simpa [zipL] using zipL_get l m i
theorem zipL_len : ∀ (l m : List D), (zipL l m).length = min l.length m.length
  | [], m => by simp [zipL]
  | x :: l, [] => by simp [zipL]
  | x :: l, y :: m => by simp [zipL, zipL_len l m]
theorem itR_zipL {w : Wd} {l m : List D} {p q : Addr} {vs us : List V} (h1 : SqL T.K w.G p vs) (r1 : Reps T w l vs) (h2 : SqL T.K w.G q us) (r2 : Reps T w m us) : ItR T w (zipL l m) (Itz T.K p q) where
  goS := fun i H w' S l1 r hi => by
    rw [zipL_len] at hi
    obtain ⟨x, e1, _⟩ := r1.get (List.getElem?_eq_getElem (show i < l.length by omega))
    obtain ⟨y, e2, _⟩ := r2.get (List.getElem?_eq_getElem (show i < m.length by omega))
    exact ⟨vs, us, x, y, sql_sub r (sql_le l1 h1), sql_sub r (sql_le l1 h2), e1, e2⟩
  stopS := fun i H w' S l1 r hi => by
    rw [zipL_len, r1.length, r2.length] at hi
    exact ⟨vs, us, sql_sub r (sql_le l1 h1), sql_sub r (sql_le l1 h2), by omega⟩
  yldS := fun i H v H' w' S d l1 r hd y => by
    obtain ⟨A, x, z, rfl, hA, rfl, k1, k2⟩ := y
    rw [zipL_get] at hd
    have e1 := k1 vs (sql_sub r (sql_le l1 h1))
    have e2 := k2 us (sql_sub r (sql_le l1 h2))
    cases y1 : l[i]? with
    | none => rw [y1] at hd; cases hd
    | some d1 =>
      rw [y1] at hd
      cases y2 : m[i]? with
      | none => rw [y2] at hd; cases hd
      | some d2 =>
        rw [y2] at hd
        cases hd
        obtain ⟨x', g1, g2⟩ := r1.get y1
        obtain ⟨z', g3, g4⟩ := r2.get y2
        rw [e1] at g1; cases g1
        rw [e2] at g3; cases g3
        obtain ⟨l2, r2'⟩ := r.new hA (.tup [x, z])
        exact ⟨_, l2, r2', .tup (.inl (.inl upd_same)) (.cons ((g2.monoS l1).mono l2) (.cons ((g4.monoS l1).mono l2) .nil))⟩
theorem itR_zipT {w : Wd} {l m : List D} {p q : Addr} {vs us : List V} (h1 : SqT T.K w.G p vs) (r1 : Reps T w l vs) (h2 : SqT T.K w.G q us) (r2 : Reps T w m us) : ItR T w (zipL l m) (RZ.ItzT T.K p q) where
  goS := fun i H w' S l1 r hi => by
    rw [zipL_len] at hi
    obtain ⟨x, e1, _⟩ := r1.get (List.getElem?_eq_getElem (show i < l.length by omega))
    obtain ⟨y, e2, _⟩ := r2.get (List.getElem?_eq_getElem (show i < m.length by omega))
    exact ⟨vs, us, x, y, sqt_sub r (sqt_le l1 h1), sqt_sub r (sqt_le l1 h2), e1, e2⟩
  stopS := fun i H w' S l1 r hi => by
    rw [zipL_len, r1.length, r2.length] at hi
    exact ⟨vs, us, sqt_sub r (sqt_le l1 h1), sqt_sub r (sqt_le l1 h2), by omega⟩
  yldS := fun i H v H' w' S d l1 r hd y => by
    obtain ⟨A, x, z, rfl, hA, rfl, k1, k2⟩ := y
    rw [zipL_get] at hd
    have e1 := k1 vs (sqt_sub r (sqt_le l1 h1))
    have e2 := k2 us (sqt_sub r (sqt_le l1 h2))
    cases y1 : l[i]? with
    | none => rw [y1] at hd; cases hd
    | some d1 =>
      rw [y1] at hd
      cases y2 : m[i]? with
      | none => rw [y2] at hd; cases hd
      | some d2 =>
        rw [y2] at hd
        cases hd
        obtain ⟨x', g1, g2⟩ := r1.get y1
        obtain ⟨z', g3, g4⟩ := r2.get y2
        rw [e1] at g1; cases g1
        rw [e2] at g3; cases g3
        obtain ⟨l2, r2'⟩ := r.new hA (.tup [x, z])
        exact ⟨_, l2, r2', .tup (.inl (.inl upd_same)) (.cons ((g2.monoS l1).mono l2) (.cons ((g4.monoS l1).mono l2) .nil))⟩
def itZip (fa : AX) : AX := fun env S => (fa env S).bnd fun ds S1 => match ds with
  | [.lst l, .lst m] => .ok (zipL l m) S1
  | [.tup l, .tup m] => .ok (zipL l m) S1
  | _ => .bad
theorem ii_zip {p tpos : Pos} {elts : List Expr} {kk : Nat} (hK : X.K = T.K) (hg : Gl X "zip") (hm : X.mg "zip" = none) (ha : IA T E X [a, b] fa)
    (hs : starEach [a, b] X.env = (false, eval a X.env) :: starEach [b] X.env := by rfl) (hpl : (backTo pos (starEach [b] X.env)).any (·.1) = false := by rfl) : II T E X (.Tuple elts kk tpos) (.Call (.Name "zip" p) [a, b] [] pos) (itZip fa) :=
  PI.mono (RZ.pi_zipA hg hm ha hs hpl) fun σ H R ⟨w, env, S, r, e, q⟩ => ⟨w, env, S, r, e, (RP.bnd q).mono (fun ds S1 h1 w1 H1 vs l1 r1 p1 => by
    split at h1
    · obtain ⟨u, v, rfl, p2, q2⟩ := reps_two p1
      cases p2 with
      | lst a1 a2 =>
        cases q2 with
        | lst b1 b2 =>
          refine ⟨_, _, _, _, rfl, .inl ⟨.inl (.inl (r1.sub _ _ a1)), .inl (.inl (r1.sub _ _ b1)), ?_⟩⟩
          rw [hK]
          exact h1 w1 H1 _ l1 r1 (itR_zipL (.inl (.inl a1)) a2 (.inl (.inl b1)) b2)
    · obtain ⟨u, v, rfl, p2, q2⟩ := reps_two p1
      cases p2 with
      | tup a1 a2 =>
        cases q2 with
        | tup b1 b2 =>
          refine ⟨_, _, _, _, rfl, .inr ⟨by rw [hK]; exact sqt_sub r1 a1, by rw [hK]; exact sqt_sub r1 b1, ?_⟩⟩
          rw [hK]
          exact h1 w1 H1 _ l1 r1 (itR_zipT a1 a2 b1 b2)
    · exact (show False from h1).elim) fun _ _ _ x => x⟩
def enumL : Nat → List D → List D
  | _, [] => []
  | i, x :: l => .tup [.int i, x] :: enumL (i + 1) l
theorem enumL_get : ∀ (l : List D) (k i : Nat), (enumL k l)[i]? = (l[i]?).map fun x => .tup [.int ((k + i : Nat) : Int), x]
  | [], _, _ => by simp [enumL]
  | x :: l, k, 0 => by simp [enumL]
  | x :: l, k, i + 1 => by
    have z := enumL_get l (k + 1) i
    simp only [enumL, List.getElem?_cons_succ]
    rw [z, show k + 1 + i = k + (i + 1) by omega]
theorem enumL_len : ∀ (l : List D) (k : Nat), (enumL k l).length = l.length
  | [], _ => rfl
  | x :: l, k => by simp [enumL, enumL_len l]
theorem itR_enum {w : Wd} {l : List D} {p : Addr} {vs : List V} (h1 : SqL T.K w.G p vs) (r1 : Reps T w l vs) : ItR T w (enumL 0 l) (Ite T.K p) where
  goS := fun i H w' S l1 r hi => by
    rw [enumL_len] at hi
    obtain ⟨x, e1, _⟩ := r1.get (List.getElem?_eq_getElem hi)
    exact ⟨vs, x, sql_sub r (sql_le l1 h1), e1⟩
  stopS := fun i H w' S l1 r hi => by
    rw [enumL_len, r1.length] at hi
    exact ⟨vs, sql_sub r (sql_le l1 h1), hi⟩
  yldS := fun i H v H' w' S d l1 r hd y => by
    obtain ⟨A, x, rfl, hA, rfl, k1⟩ := y
    rw [enumL_get] at hd
    have e1 := k1 vs (sql_sub r (sql_le l1 h1))
    cases y1 : l[i]? with
    | none => rw [y1] at hd; cases hd
    | some d1 =>
      rw [y1] at hd
      cases hd
      obtain ⟨x', g1, g2⟩ := r1.get y1
      rw [e1] at g1; cases g1
      obtain ⟨l2, r2'⟩ := r.new hA (.tup [.int (i : Nat), x])
      refine ⟨_, l2, r2', .tup (.inl (.inl upd_same)) (.cons ?_ (.cons ((g2.monoS l1).mono l2) .nil))⟩
      rw [Nat.zero_add]
      exact .int _
def itEnum (fa : AX) : AX := fun env S => (fa env S).bnd fun ds S1 => match ds with
  | [.lst l] => .ok (enumL 0 l) S1
  | _ => .bad
theorem ii_enum {p tpos : Pos} {elts : List Expr} {kk : Nat} (hK : X.K = T.K) (hg : Gl X "enumerate") (hm : X.mg "enumerate" = none) (ha : IA T E X [a] fa)
    (hs : starEach [a] X.env = [(false, eval a X.env)] := by rfl) : II T E X (.Tuple elts kk tpos) (.Call (.Name "enumerate" p) [a] [] pos) (itEnum fa) :=
  PI.mono (pi_enum hg hm ha hs) fun σ H R ⟨w, env, S, r, e, q⟩ => ⟨w, env, S, r, e, (RP.bnd q).mono (fun ds S1 h1 w1 H1 vs l1 r1 p1 => by
    split at h1
    · obtain ⟨u, rfl, p2⟩ := reps_one p1
      cases p2 with
      | lst a1 a2 =>
        refine ⟨_, _, rfl, .inl (.inl (r1.sub _ _ a1)), ?_⟩
        rw [hK]
        exact h1 w1 H1 _ l1 r1 (itR_enum (.inl (.inl a1)) a2)
    · exact (show False from h1).elim) fun _ _ _ x => x⟩
def bLenA : List D → Option D := fun xs => match xs with
  | [.dct _] => none
  | _ => bLen xs
theorem bo_lenA : BOk T (rLenH T.K) bLenA := bo_len
def dBls : List D → Option (List Bool)
  | [] => some []
  | .bl b :: l => (dBls l).map (b :: ·)
  | _ :: _ => none
theorem reps_bls {w : Wd} : ∀ {l : List D} {vs : List V} {ys : List Bool}, Reps T w l vs → dBls l = some ys → vs = ys.map V.bl
  | [], _, _, .nil, h => by cases h; rfl
  | d :: l, _, _, .cons q r, h => by
    cases q with
    | bl b =>
      cases z : dBls l with
      | none => rw [dBls, z] at h; cases h
      | some ys =>
        rw [dBls, z] at h
        cases h
        rw [reps_bls r z]
        rfl
    | _ => cases h
def dInts : List D → Option (List Int)
  | [] => some []
  | .int b :: l => (dInts l).map (b :: ·)
  | _ :: _ => none
theorem reps_ints {w : Wd} : ∀ {l : List D} {vs : List V} {ys : List Int}, Reps T w l vs → dInts l = some ys → vs = ys.map V.int
  | [], _, _, .nil, h => by cases h; rfl
  | d :: l, _, _, .cons q r, h => by
    cases q with
    | int b =>
      cases z : dInts l with
      | none => rw [dInts, z] at h; cases h
      | some ys =>
        rw [dInts, z] at h
        cases h
        rw [reps_ints r z]
        rfl
    | _ => cases h
def bAll : List D → Option D
  | [.lst l] => (dBls l).map fun bs => .bl (bs.all id)
  | _ => none
theorem bo_all : BOk T (rAll T.K) bAll := fun w S xs vs H d Q r p h k => by
  unfold bAll at h
  split at h
  · rename_i l
    cases z : dBls l with
    | none => rw [z] at h; cases h
    | some bs =>
      rw [z] at h
      cases h
      obtain ⟨v, rfl, p2⟩ := reps_one p
      cases p2 with
      | lst q1 q2 =>
        have e := reps_bls q2 z
        subst e
        exact ⟨_, bs, rfl, .inl (.inl (r.sub _ _ q1)), k w H _ (Wd.le.refl _) r (.bl _)⟩
  · cases h
def sPar2 (i j : Nat) (fa : AX) : ES := fun env S => (fa env S).bnd fun xs S1 => match xs with
  | [x, y] => .ok (.nx ((env.set i (some x)).set j (some y))) S1
  | _ => .bad
theorem is_par2 {x y : Str} {px py pt : Pos} {kt k2 : Nat} {pt2 : Pos} (i j : Nat) (hN : X.N.Nodup) (ha : IA T E X [a, b] fa) (hc : X.calm = true := by rfl) (hi : X.N[i]? = some x := by rfl) (hj : X.N[j]? = some y := by rfl) (hij : i ≠ j := by decide)
    (hx : X.env.scope.names.lookup x = some .local := by rfl) (hy : X.env.scope.names.lookup y = some .local := by rfl)
    (hw : swappedStores [.Tuple [.Name x px, .Name y py] kt pt] (.Tuple [a, b] k2 pt2) X.env = pure (some [x, y]) := by rfl)
    (hs : swapsWithSole [.Tuple [.Name x px, .Name y py] kt pt] (.Tuple [a, b] k2 pt2) pos.line X.env = pure false := by rfl) :
    IS T E X (.Assign [.Tuple [.Name x px, .Name y py] kt pt] (.Tuple [a, b] k2 pt2) pos) (sPar2 i j fa) :=
  PS.mono (ps_par hc hN hi hj hij hx hy ha hw hs) fun D σ H ⟨w, env, S, r, e, q⟩ => ⟨w, env, S, r, e, (RP.bnd q).mono (fun ds S1 h1 w1 H1 vs l1 r1 p1 => by
    split at h1
    · obtain ⟨v, u, rfl, p2, q2⟩ := reps_two p1
      exact ⟨v, u, rfl, h1 w1 H1 _ l1 r1 (((e.mono l1).set p2 i).set q2 j)⟩
    · exact (show False from h1).elim) fun _ _ _ x => x⟩
/-- r asks no more than r' -/
def RPle {α : Type} (r r' : R α) : Prop := ∀ (Pk : α → Store → Prop) (Pe : String → List D → Store → Prop), RP r Pk Pe → RP r' Pk Pe
theorem IS.eqv {s s' : ES} (h : IS T E X st s) (k : ∀ env S, RPle (s' env S) (s env S)) : IS T E X st s' := PS.mono h fun D σ H ⟨w, env, S, r, e, q⟩ => ⟨w, env, S, r, e, (k env S) _ _ q⟩
theorem is_par2u {i j : Nat} (h : IS T E X st (sUnp (pTup (pCons (pName i) (pCons (pName j) pNil))) (eTup fa))) : IS T E X st (sPar2 i j fa) := h.eqv fun env S Pk Pe q => by
  unfold sPar2 at q
  unfold sUnp eTup
  cases z : fa env S with
  | ok xs S1 =>
    rw [z] at q
    rw [bnd_ok] at q ⊢
    split at q
    · exact q
    · exact (show False from q).elim
  | err c fs S1 => rw [z] at q; exact q
  | bad => rw [z] at q; exact q
def ltA : D → D → Option D
  | .int i, .int j => some (.bl (decide (i < j)))
  | .tup l, .tup m => (dInts l).bind fun ns => (dInts m).map fun ms => .bl (HT.lexLt ns ms)
  | _, _ => none
theorem oi_ltA (hK : X.K = T.K) (hu : X.A.units < cLine) : OpR X (compareOp .Lt) (rOp T ltA) := orOp2 fun w d e r S x y H Q h1 h2 h3 h4 h5 => by
  unfold ltA at h4
  split at h4
  · cases h2; cases h3; cases h4
    exact ⟨_, op_lt, _, _, rfl, rfl, h5 w H _ (Wd.le.refl _) h1 (.bl _)⟩
  · rename_i l m
    cases z : dInts l with
    | none => rw [z] at h4; cases h4
    | some ns =>
      rw [z] at h4
      cases z2 : dInts m with
      | none => rw [z2] at h4; cases h4
      | some ms =>
        rw [z2] at h4
        cases h4
        cases h2 with
        | tup q2 r2 =>
          cases h3 with
          | tup q3 r3 =>
            have e1 := reps_ints r2 z
            have e2 := reps_ints r3 z2
            subst e1 e2
            exact ⟨_, op_ltT hu, _, _, ns, ms, rfl, rfl, by rw [hK]; exact sqt_sub h1 q2, by rw [hK]; exact sqt_sub h1 q3, h5 w H _ (Wd.le.refl _) h1 (.bl _)⟩
  · cases h4
end Ro
end
section
set_option Elab.async false
set_option linter.all false
set_option maxRecDepth 100000
set_option maxHeartbeats 4000000
namespace Ro
open PySem PySem.Spec PyProof.Rows L2
variable {T : Tb} {E : XK} {X : Cx} {a b c e : Expr} {es : List Expr} {f g h : EX} {fa ga fk : AX} {fb gb : BX} {pos : Pos} {st : Stmt} {sts rest : List Stmt} {s t : ES}
def codB : Int := 4294967296
def dTups : List D → Option (List (List Int))
  | [] => some []
  | .tup l :: r => (dInts l).bind fun ns => (dTups r).map (ns :: ·)
  | _ :: _ => none
def srtT (l : List (List Int)) : List (List Int) := l.mergeSort fun a b => decide (TS.code codB a ≤ TS.code codB b)
def tupD (ns : List Int) : D := .tup (ns.map D.int)
def tupOk (n : Nat) (m : List Int) : Bool := decide (m.length = n) && m.all fun z => decide (0 ≤ z ∧ z < codB)
def sortOk (l : List (List Int)) : Bool := decide (l.length < 64) && (match l with
  | [] => true
  | n :: r => decide (1 ≤ n.length) && (n :: r).all (tupOk n.length))
def bSortL (l : List (List Int)) : Option D := if sortOk l then some (.lst ((srtT l).map tupD)) else none
theorem dInts_map : ∀ ns : List Int, dInts (ns.map D.int) = some ns
  | [] => rfl
  | n :: ns => by rw [List.map_cons, dInts, dInts_map ns]; rfl
def bSorted : List D → Option D
  | [.lst l] => (dTups l).bind bSortL
  | [.tup l] => (dTups l).bind bSortL
  | _ => none
def eDctT : EX := fun _ S => .ok (.ref S.length) (S ++ [.dcT []])
def putL (l : List (List Int × D)) (k : List Int) (v : D) : List (List Int × D) :=
  if (l.any fun p => decide (p.1 = k)) = true then l.map (fun p => if p.1 = k then (p.1, v) else p) else l ++ [(k, v)]
def getL (l : List (List Int × D)) (k : List Int) : Option D := (l.find? fun p => decide (p.1 = k)).map (·.2)
theorem inl_inj {a b : List Int} : (a.map Sum.inl : List Key) = b.map Sum.inl ↔ a = b := by
  constructor
  · intro h
    induction a generalizing b with
    | nil => cases b with
      | nil => rfl
      | cons _ _ => cases h
    | cons x a ih => cases b with
      | nil => cases h
      | cons y b =>
        rw [List.map_cons, List.map_cons] at h
        injection h with h1 h2
        injection h1 with h1
        rw [h1, ih h2]
  · rintro rfl; rfl
theorem get_repT {w : Wd} {k : List Int} {d : D} : ∀ {l : List (List Int × D)} {kvs : List (List Key × V)}, kvs.map (·.1) = l.map (fun p => p.1.map Sum.inl) → Reps T w (l.map (·.2)) (kvs.map (·.2)) → getL l k = some d → ∃ v, valV kvs (k.map Sum.inl) = some v ∧ Rep T w d v := by
  intro l
  induction l with
  | nil => intro kvs h1 h2 h3; cases h3
  | cons p l ih =>
    intro kvs h1 h2 h3
    cases kvs with
    | nil => cases h1
    | cons kv kvs =>
      have h1' : kv.1 :: kvs.map (·.1) = p.1.map Sum.inl :: l.map (fun p => p.1.map Sum.inl) := h1
      injection h1' with a1 a2
      have h2' : Reps T w (p.2 :: l.map (·.2)) (kv.2 :: kvs.map (·.2)) := h2
      cases h2' with
      | cons b1 b2 =>
        unfold getL at h3
        unfold valV
        rw [List.find?_cons] at h3 ⊢
        by_cases hk : p.1 = k
        · have hk2 : kv.1 = k.map Sum.inl := by rw [a1, hk]
          rw [decide_eq_true hk] at h3
          rw [decide_eq_true hk2]
          cases h3
          exact ⟨kv.2, rfl, b1⟩
        · have hk2 : ¬ kv.1 = k.map Sum.inl := fun z => hk (inl_inj.mp (a1.symm.trans z))
          rw [decide_eq_false hk] at h3
          rw [decide_eq_false hk2]
          exact ih a2 b2 h3
theorem kV_inl (k : List Int) : (k.map Sum.inl : List Key).map kV = k.map V.int := by rw [List.map_map]; rfl
/-- d[k, ..] = v -/
def sPutT (o : EX) (ks : AX) (v : EX) : ES := fun env S => (v env S).bnd fun z S1 => (o env S1).bnd fun x S2 => (ks env S2).bnd fun ys S3 => match x, dInts ys with
  | .ref n, some k => (match S3[n]? with
    | some (.dcT l) => if l.length < LINE ∧ ys.length ≤ LINE then .ok (.nx env) (S3.set n (.dcT (putL l k z))) else .bad
    | _ => .bad)
  | _, _ => .bad
end Ro
end
section
set_option Elab.async false
set_option linter.all false
set_option maxRecDepth 100000
set_option maxHeartbeats 4000000
namespace Ro
open PySem PySem.Spec PyProof.Rows L2
variable {T : Tb} {E : XK} {X : Cx} {a b c e : Expr} {es : List Expr} {f g h : EX} {fa ga fk : AX} {fb gb : BX} {pos : Pos} {st : Stmt} {sts rest : List Stmt} {s t : ES}
def rIxT' (K : PySem.W.Frag) : R2 := fun x y H Q => ∃ (a b : Addr) (kvs : List (List Key × V)) (k : List Int) (v : V), x = .ref a ∧ y = .ref b ∧ H a = some (.dT kvs) ∧ SqT K H b (k.map V.int) ∧ valV kvs (k.map Sum.inl) = some v ∧ Q v H
theorem ix_dT (hu : X.A.units + 1 < cLine) : IxR X (rIxT' X.K) := by
  intro value slice pins s σ H x y v u Q I rx ry h hs
  obtain ⟨a, b, kvs, k, r, rfl, rfl, ha, hb, hv, q⟩ := h
  obtain rfl : v = Value.ref a := rx
  obtain rfl : u = Value.ref b := ry
  obtain ⟨its, rv, ⟨o, ho, hc, n, hd⟩, _⟩ := I.tuple hb
  rw [← kV_inl] at rv
  have key : (tupleKind (mixKind X.prog X.w)).is s.heap (k.map Sum.inl) b := ⟨o, its.toArray, n, ho, hc, hd, by simpa using items_are (P := X.prog) (w := X.w) rv⟩
  obtain ⟨z, hsy, xs, rel, dd⟩ := dt_of I.hok ha
  obtain ⟨w', hw, rw'⟩ := RelO.some_of (v := r) (o := (atKey xs (k.map Sum.inl)).map (·.2)) (by rw [← hv]; exact rel.val _)
  obtain ⟨p, hp, hp2⟩ := Option.map_eq_some_iff.mp hw
  have ty : s.TypeIs (.ref a) "dict" := by
    obtain ⟨o2, es2, ep2, h1, h2, _⟩ := dd
    exact ⟨o2, h1, h2.1⟩
  refine tail_any ty slot_dict_getitem.lookup (wpAny_getItem_heap (tupleKind_room_in1 hu) key dd hp ?_) hs
  rw [hp2]
  exact ⟨r, H, I.tok _, rw', q⟩
def idxT (x y : D) (S : Store) : Option D := match x, y with
  | .ref n, .tup m => (match S[n]? with
    | some (.dcT l) => (dInts m).bind (getL l)
    | _ => none)
  | _, _ => none
def eIdxT (a b : EX) : EX := fun env S => (a env S).bnd fun x S1 => (b env S1).bnd fun y S2 => lift (idxT x y S2) S2
theorem ie_idxT (hK : X.K = T.K) (hu : X.A.units + 1 < cLine) (ha : IE T E X a f) (hb : IE T E X b g) (hs : PlainIx b := by exact fun _ _ => rfl) : IE T E X (.Subscript a b pos) (eIdxT f g) :=
  PE.mono (pe_ix (ix_dT hu) ha hb hs) fun σ H Q q => by
    have q2 := tI_two (k := fun x y S => lift (idxT x y S) S) q
    obtain ⟨w, env, S, r, e, h⟩ := q2
    refine ⟨w, env, S, r, e, h.mono (fun d S1 h1 w1 H1 x l1 r1 p1 => ?_) fun _ _ _ x => x⟩
    obtain ⟨w2, env2, S2, r2, e2, h2⟩ := h1 w1 H1 x l1 r1 p1
    refine ⟨w2, env2, S2, r2, e2, h2.mono (fun d S1 h1 w1 H1 x l1 r1 p1 => ?_) fun _ _ _ x => x⟩
    obtain ⟨w3, d3, e3, S3, r3, p3, q3, h3⟩ := h1 w1 H1 x l1 r1 p1
    cases z : idxT d3 e3 S3 with
    | none => rw [z] at h3; exact (show False from h3).elim
    | some y =>
      rw [z] at h3
      unfold idxT at z
      split at z
      · rename_i n m
        split at z
        · rename_i l hS
          cases z2 : dInts m with
          | none => rw [z2] at z; cases z
          | some k =>
            rw [z2] at z
            cases p3 with
            | ref hn =>
              cases q3 with
              | tup q4 q5 =>
                obtain ⟨kvs, c1, c2, c3⟩ := r3.cell n _ _ hS hn
                obtain ⟨v, a1, a2⟩ := get_repT c2 c3 z
                have e5 := reps_ints q5 z2
                subst e5
                exact ⟨_, _, kvs, k, v, rfl, rfl, c1, by rw [hK]; exact sqt_sub r3 q4, a1, h3 w3 _ _ (Wd.le.refl _) r3 a2⟩
        · cases z
      · cases z
/-- any of them -/
def idxB (x y : D) (S : Store) : Option D := match x with
  | .ref n => (match y with
    | .tup m => idxT x y S
    | _ => idxM x y S)
  | _ => idxD x y
def eIdxB (a b : EX) : EX := fun env S => (a env S).bnd fun x S1 => (b env S1).bnd fun y S2 => lift (idxB x y S2) S2
theorem ie_idxB (hK : X.K = T.K) (hu : X.A.units + 1 < cLine) (ha : IE T E X a f) (hb : IE T E X b g) (hs : PlainIx b := by exact fun _ _ => rfl) : IE T E X (.Subscript a b pos) (eIdxB f g) :=
  PE.byOk (ie_idxA hK ha hb hs) (ie_idxT hK hu ha hb hs) fun env S => by
    unfold eIdxB eIdxA eIdxT
    cases z : f env S with
    | ok x S1 =>
      rw [bnd_ok, bnd_ok, bnd_ok]
      cases z2 : g env S1 with
      | ok y S2 =>
        rw [bnd_ok, bnd_ok, bnd_ok]
        cases x with
        | ref n => cases y with
          | tup m => exact .inr rfl
          | _ => exact .inl rfl
        | _ => exact .inl rfl
      | err c fs S2 => exact .inl rfl
      | bad => exact .inl rfl
    | err c fs S1 => exact .inl rfl
    | bad => exact .inl rfl
/-- sorted, also of such a dict -/
def eSorted (fa : AX) : EX := fun env S => (fa env S).bnd fun xs S1 => match xs with
  | [.ref n] => (match S1[n]? with
    | some (.dcT l) => lift (bSortL (l.map (·.1))) S1
    | _ => .bad)
  | _ => lift (bSorted xs) S1
end Ro
end
section
set_option Elab.async false
set_option linter.all false
set_option maxRecDepth 100000
set_option maxHeartbeats 4000000
namespace Ro
open PySem PySem.Spec PyProof.Rows L2
theorem callerG : RG 200 callerA := ⟨⟨rfl, by decide, by decide⟩, rfl⟩
/-- a number of at most 2 ^ 20 bits -/
def bits20 (n : Int) : Prop := Builtin.Int.intBits n ≤ 1048576
theorem funD_uniq {K : PySem.W.Frag} {x qual : Str} {params : Arguments} {body : List Stmt} {scope : Scope} {dvs : List V} {kws : List (Str × V)} {f : Addr} {fd fd' : FuncData} (h : FunD K x qual params body scope dvs kws f fd) (h' : FunD K x qual params body scope dvs kws f fd') : fd' = fd := by
  obtain ⟨_, _, _, _, _, _, _, _, _, _, _, e1, _⟩ := h.ex
  obtain ⟨_, _, _, _, _, _, _, _, _, _, _, e2, _⟩ := h'.ex
  rw [e1] at e2
  cases e2
  rfl
end Ro
end
section
set_option Elab.async false
set_option linter.all false
set_option maxRecDepth 100000
set_option maxHeartbeats 4000000
namespace Ro
open PySem
@[irreducible] def W {α : Type} (r : R α) (post : α → Store → Prop) : Prop := match r with
  | .ok a S => post a S
  | _ => False
@[simp] theorem W_ok {α : Type} (a : α) (S : Store) (post : α → Store → Prop) : W (.ok a S) post = post a S := by unfold W; rfl
@[simp] theorem W_err {α : Type} (c : String) (fs : List D) (S : Store) (post : α → Store → Prop) : W (.err c fs S : R α) post = False := by unfold W; rfl
@[simp] theorem W_bad {α : Type} (post : α → Store → Prop) : W (.bad : R α) post = False := by unfold W; rfl
theorem W.mono {α : Type} {r : R α} {p q : α → Store → Prop} (h : W r p) (k : ∀ a S, p a S → q a S) : W r q := by
  cases r with
  | ok a S => rw [W_ok] at h ⊢; exact k a S h
  | err c fs S => rw [W_err] at h; exact h.elim
  | bad => rw [W_bad] at h; exact h.elim
theorem W.bnd {α β : Type} {r : R α} {f : α → Store → R β} {q : β → Store → Prop} (h : W r fun a S => W (f a S) q) : W (r.bnd f) q := by
  cases r with
  | ok a S => rw [W_ok] at h; exact h
  | err c fs S => rw [W_err] at h; exact h.elim
  | bad => rw [W_bad] at h; exact h.elim
theorem W.ex {r : R D} {d : D} (h : W r fun x _ => x = d) : ∃ S, r = .ok d S := by
  cases r with
  | ok a S => rw [W_ok] at h; exact ⟨S, by rw [show a = d from h]⟩
  | err c fs S => rw [W_err] at h; exact h.elim
  | bad => rw [W_bad] at h; exact h.elim
/-- a loop by an invariant -/
theorem W.loop {tg : Pat} {body : ES} {I : Nat → Env → Store → Prop} {q : Ctl → Store → Prop} : ∀ {xs : List D} {k : Nat} {env : Env} {S : Store}, I k env S →
    (∀ (i : Nat) x env S, k ≤ i → xs[i - k]? = some x → I i env S → ∃ env1, tg x env = some env1 ∧ W (body env1 S) fun c S1 => match c with
      | .nx e => I (i + 1) e S1
      | .ct e => I (i + 1) e S1
      | .bk e => q (.nx e) S1
      | .rt d => q (.rt d) S1) →
    (∀ env S, I (k + xs.length) env S → q (.nx env) S) → W (loop tg body xs env S) q
  | [], k, env, S, h, _, fin => by rw [Ro.loop, W_ok]; exact fin env S h
  | x :: xs, k, env, S, h, step, fin => by
    obtain ⟨env1, e1, h1⟩ := step k x env S (Nat.le_refl _) (by simp) h
    unfold Ro.loop
    rw [e1]
    refine W.bnd (h1.mono fun c S1 hc => ?_)
    have next : ∀ e, I (k + 1) e S1 → W (Ro.loop tg body xs e S1) q := fun e he => W.loop (k := k + 1) he (fun i y env S hi hy => step i y env S (by omega) (by
      have : i - k = (i - (k + 1)) + 1 := by omega
      rw [this, List.getElem?_cons_succ]
      exact hy)) (fun env S hI => fin env S (by
      have : k + (x :: xs).length = k + 1 + xs.length := by simp; omega
      rw [this]
      exact hI))
    cases c with
    | nx e => exact next e hc
    | ct e => exact next e hc
    | bk e => rw [W_ok]; exact hc
    | rt d => rw [W_ok]; exact hc
/-- a comprehension without a test, by an invariant of what is made -/
theorem W.lc {tg : Pat} {c : BX} {el : EX} {env0 : Env} {I : Nat → List D → Store → Prop} {q : List D → Store → Prop} : ∀ {xs : List D} {k : Nat} {acc : List D} {S : Store}, I k acc S → acc.length + xs.length ≤ LINE →
    (∀ (i : Nat) x acc S, k ≤ i → xs[i - k]? = some x → I i acc S → ∃ env1, tg x env0 = some env1 ∧ W (c env1 S) fun b S1 => if b then W (el env1 S1) fun y S2 => I (i + 1) (acc ++ [y]) S2 else I (i + 1) acc S1) →
    (∀ acc S, I (k + xs.length) acc S → q acc S) → W (lcLoop tg c el env0 xs acc S) q
  | [], k, acc, S, h, _, _, fin => by rw [lcLoop, W_ok]; exact fin acc S h
  | x :: xs, k, acc, S, h, hl, step, fin => by
    obtain ⟨env1, e1, h1⟩ := step k x acc S (Nat.le_refl _) (by simp) h
    unfold lcLoop
    rw [e1]
    have next : ∀ acc' S', acc'.length ≤ acc.length + 1 → I (k + 1) acc' S' → W (lcLoop tg c el env0 xs acc' S') q := fun acc' S' hl' hI => W.lc (k := k + 1) hI (by simp at hl; omega) (fun i y a S hi hy => step i y a S (by omega) (by
      have : i - k = (i - (k + 1)) + 1 := by omega
      rw [this, List.getElem?_cons_succ]
      exact hy)) (fun a S hI => fin a S (by
      have : k + (x :: xs).length = k + 1 + xs.length := by simp; omega
      rw [this]
      exact hI))
    have nox : ∀ {α : Type} {r : R α} {p : α → Store → Prop}, W r p → W r.nox p := fun {α r p} h => by
      cases r with
      | ok a S => exact h
      | err c fs S => rw [W_err] at h; exact h.elim
      | bad => exact h
    refine W.bnd ((nox h1).mono fun b S1 hb => ?_)
    cases b with
    | false => exact next acc S1 (by omega) hb
    | true =>
      rw [if_pos rfl] at hb ⊢
      refine W.bnd ((nox hb).mono fun y S2 hy => ?_)
      rw [if_pos (by simp at hl; omega)]
      exact next (acc ++ [y]) S2 (by simp) hy
end Ro
end
section
set_option Elab.async false
set_option linter.all false
set_option maxRecDepth 100000
set_option maxHeartbeats 4000000
namespace Ro
open PySem
variable {env : Env} {S : Store}
@[simp] theorem u_eVar (i : Nat) : eVar i env S = (match env[i]? with
  | some (some d) => .ok d S
  | _ => .bad) := rfl
@[simp] theorem u_eC (d : D) : eC d env S = .ok d S := rfl
@[simp] theorem u_eOp (op : D → D → Option D) (a b : EX) : eOp op a b env S = (a env S).bnd fun x S1 => (b env S1).bnd fun y S2 => lift (op x y) S2 := rfl
@[simp] theorem u_eUn (op : D → Option D) (a : EX) : eUn op a env S = (a env S).bnd fun x S1 => lift (op x) S1 := rfl
@[simp] theorem u_aNil : aNil env S = .ok [] S := rfl
@[simp] theorem u_aCons (a : EX) (r : AX) : aCons a r env S = (a env S).bnd fun x S1 => (r env S1).bnd fun xs S2 => .ok (x :: xs) S2 := rfl
@[simp] theorem u_eFn (m : List D → List D → Store → R D) (fa fk : AX) : eFn m fa fk env S = (fa env S).bnd fun xs S1 => (fk env S1).bnd fun zs S2 => m xs zs S2 := rfl
@[simp] theorem u_callM (m : Fn) (n kn pn : Nat) (pk : List (Nat × Nat)) (dfs xs ys : List D) : callM m n kn pn pk dfs xs ys S = if xs.length = n ∧ ys.length = kn ∧ (pick pk xs dfs ys).length = pn then m (pick pk xs dfs ys) S else .bad := rfl
@[simp] theorem u_pick0 {α : Type} (us its ws : List α) : pick [] us its ws = [] := rfl
@[simp] theorem u_pick1 {α : Type} (p : Nat × Nat) (pk : List (Nat × Nat)) (us its ws : List α) : pick (p :: pk) us its ws = ((if p.1 = 0 then us else if p.1 = 1 then its else ws)[p.2]?).toList ++ pick pk us its ws := rfl
@[simp] theorem u_eTup (a : AX) : eTup a env S = (a env S).bnd fun xs S1 => if xs.length ≤ LINE then .ok (.tup xs) S1 else .bad := rfl
@[simp] theorem u_eLst (a : AX) : eLst a env S = (a env S).bnd fun xs S1 => if xs.length ≤ LINE then .ok (.lst xs) S1 else .bad := rfl
@[simp] theorem u_eLstM (a : AX) : eLstM a env S = (a env S).bnd fun xs S1 => if xs.length ≤ LINE then .ok (.ref S1.length) (S1 ++ [.lst xs]) else .bad := rfl
@[simp] theorem u_bOf (a : EX) : bOf a env S = (a env S).bnd fun x S1 => lift (truth x) S1 := rfl
@[simp] theorem u_bVal (a : EX) : bVal a env S = (a env S).bnd fun x S1 => match x with
  | .bl b => .ok b S1
  | _ => .bad := rfl
@[simp] theorem u_bAnd (a b : BX) : bAnd a b env S = (a env S).bnd fun c S1 => if c then b env S1 else .ok false S1 := rfl
@[simp] theorem u_bOr (a b : BX) : bOr a b env S = (a env S).bnd fun c S1 => if c then .ok true S1 else b env S1 := rfl
@[simp] theorem u_bNot (a : BX) : bNot a env S = (a env S).bnd fun c S1 => .ok (!c) S1 := rfl
@[simp] theorem u_eAnd (a b : EX) : eAnd a b env S = (a env S).bnd fun x S1 => match x with
  | .bl c => if c then b env S1 else .ok (.bl false) S1
  | _ => .bad := rfl
@[simp] theorem u_eOr (a b : EX) : eOr a b env S = (a env S).bnd fun x S1 => match x with
  | .bl c => if c then .ok (.bl true) S1 else b env S1
  | _ => .bad := rfl
@[simp] theorem u_eNot (a : EX) : eNot a env S = (a env S).bnd fun x S1 => match x with
  | .bl c => .ok (.bl (!c)) S1
  | _ => .bad := rfl
@[simp] theorem u_eIf (c : BX) (a b : EX) : eIf c a b env S = (c env S).bnd fun k S1 => if k then a env S1 else b env S1 := rfl
def chk {α : Type} (o : Option D) (a b : R α) : R α := match o with
  | some (.bl c) => if c then a else b
  | _ => .bad
@[simp] theorem chk_bl {α : Type} (c : Bool) (a b : R α) : chk (some (.bl c)) a b = if c then a else b := rfl
@[simp] theorem u_eChain (op op' : D → D → Option D) (a b c : EX) : eChain op op' a b c env S = (a env S).bnd fun x S1 => (b env S1).bnd fun y S2 => chk (op x y) ((c env S2).bnd fun z S3 => lift (op' y z) S3) (.ok (.bl false) S2) := by
  unfold eChain
  congr 1
  funext x S1
  congr 1
  funext y S2
  unfold chk
  split
  · rename_i h; simp [h]
  · rename_i h; simp [h]
  · rename_i h1 h2
    split
    · rename_i c h
      cases c
      · exact (h2 h).elim
      · exact (h1 h).elim
    · rfl
@[simp] theorem u_eIdxB (a b : EX) : eIdxB a b env S = (a env S).bnd fun x S1 => (b env S1).bnd fun y S2 => lift (idxB x y S2) S2 := rfl
@[simp] theorem u_oNone : oNone env S = .ok none S := rfl
@[simp] theorem u_oSome (a : EX) : oSome a env S = (a env S).bnd fun x S1 => match x with
  | .int i => .ok (some i) S1
  | _ => .bad := rfl
@[simp] theorem u_eCut (a : EX) (lo hi : OX) : eCut a lo hi env S = (a env S).bnd fun x S1 => (lo env S1).bnd fun l S2 => (hi env S2).bnd fun h S3 => lift (cutD x l h) S3 := rfl
@[simp] theorem u_eIsI (tys : List Ty) (Tt : Ty) (a : EX) : eIsI tys Tt a env S = (a env S).bnd fun x S1 => match tyD x S1 with
  | some t => if tys.contains t then .ok (.bl (subTy t Tt)) S1 else .bad
  | none => .bad := rfl
@[simp] theorem u_eAttr (cf : String → List String) (cs : List String) (f : String) (a : EX) : eAttr cf cs f a env S = (a env S).bnd fun x S1 => lift (attrD cf cs f x S1) S1 := rfl
@[simp] theorem u_eB (m : List D → Option D) (fa : AX) : eB m fa env S = (fa env S).bnd fun xs S1 => lift (m xs) S1 := rfl
@[simp] theorem u_eMeth (cf : String → List String) (c mn : String) (m : List D → List D → Store → R D) (o : EX) (fa fk : AX) : eMeth cf c mn m o fa fk env S = (o env S).bnd fun x S1 => if isInst cf c mn x S1 then (fa env S1).bnd fun xs S2 => (fk env S2).bnd fun zs S3 => m (x :: xs) zs S3 else .bad := rfl
@[simp] theorem u_eFrz (cf : String → List String) (a : EX) : eFrz cf a env S = frzM cf (a env S) := rfl
@[simp] theorem u_eLC (vs : List Nat) (it : AX) (tg : Pat) (c : BX) (el : EX) : eLC vs it tg c el env S = (it env S).bnd fun xs S1 => (lcLoop tg c el (wipeE env vs) xs [] S1).bnd fun ys S2 => .ok (.lst ys) S2 := rfl
@[simp] theorem u_bYes : bYes env S = .ok true S := rfl
@[simp] theorem u_eSorted (fa : AX) : eSorted fa env S = (fa env S).bnd fun xs S1 => match xs with
  | [.ref n] => (match S1[n]? with
    | some (.dcT l) => lift (bSortL (l.map (·.1))) S1
    | _ => .bad)
  | _ => lift (bSorted xs) S1 := rfl
@[simp] theorem u_eDctT : eDctT env S = .ok (.ref S.length) (S ++ [.dcT []]) := rfl
@[simp] theorem u_sSet (i : Nat) (e : EX) : sSet i e env S = (e env S).bnd fun d S1 => .ok (.nx (env.set i (some d))) S1 := rfl
@[simp] theorem u_sSeq (s t : ES) : sSeq s t env S = (s env S).bnd fun c S1 => match c with
  | .nx e => t e S1
  | c => .ok c S1 := rfl
@[simp] theorem u_sPass : sPass env S = .ok (.nx env) S := rfl
@[simp] theorem u_sIf (c : BX) (s t : ES) : sIf c s t env S = (c env S).bnd fun k S1 => if k then s env S1 else t env S1 := rfl
@[simp] theorem u_sRet (e : EX) : sRet e env S = (e env S).bnd fun d S1 => .ok (.rt d) S1 := rfl
@[simp] theorem u_sExpr (e : EX) : sExpr e env S = (e env S).bnd fun _ S1 => .ok (.nx env) S1 := rfl
@[simp] theorem u_sUnp (p : Pat) (e : EX) : sUnp p e env S = (e env S).bnd fun d S1 => match p d env with
  | some env' => .ok (.nx env') S1
  | none => .bad := rfl
@[simp] theorem u_sPar2 (i j : Nat) (fa : AX) : sPar2 i j fa env S = (fa env S).bnd fun xs S1 => match xs with
  | [x, y] => .ok (.nx ((env.set i (some x)).set j (some y))) S1
  | _ => .bad := rfl
@[simp] theorem u_sFor (it : AX) (tg : Pat) (body : ES) : sFor it tg body env S = (it env S).bnd fun xs S1 => loop tg body xs env S1 := rfl
@[simp] theorem u_sSetIt (o i v : EX) : sSetIt o i v env S = (v env S).bnd fun z S1 => (o env S1).bnd fun x S2 => (i env S2).bnd fun y S3 => match setM x y z S3 with
  | some S4 => .ok (.nx env) S4
  | none => .bad := rfl
@[simp] theorem u_sSetAttr (cs : List String) (f : String) (o v : EX) : sSetAttr cs f o v env S = (v env S).bnd fun y S1 => (o env S1).bnd fun x S2 => match x with
  | .ref n => match S2[n]? with
    | some (.ins c fs) => if cs.contains c && decide (fs.length < 1000) then .ok (.nx env) (S2.set n (.ins c (setF f y fs))) else .bad
    | _ => .bad
  | _ => .bad := rfl
@[simp] theorem u_sPutT (o : EX) (ks : AX) (v : EX) : sPutT o ks v env S = (v env S).bnd fun z S1 => (o env S1).bnd fun x S2 => (ks env S2).bnd fun ys S3 => match x, dInts ys with
  | .ref n, some k => (match S3[n]? with
    | some (.dcT l) => if l.length < LINE ∧ ys.length ≤ LINE then .ok (.nx env) (S3.set n (.dcT (putL l k z))) else .bad
    | _ => .bad)
  | _, _ => .bad := rfl
@[simp] theorem u_itR1 (fa : AX) : itR1 fa env S = (fa env S).bnd fun ds S1 => match ds with
  | [.int j] => if small62 j then .ok (rngL 0 j.toNat) S1 else .bad
  | _ => .bad := rfl
@[simp] theorem u_itR2 (fa : AX) : itR2 fa env S = (fa env S).bnd fun ds S1 => match ds with
  | [.int i, .int j] => if small62 i && small62 j then .ok (rngL i (j - i).toNat) S1 else .bad
  | _ => .bad := rfl
@[simp] theorem u_itAny (f : EX) : itAny f env S = (f env S).bnd fun d S1 => match d with
  | .lst l => .ok l S1
  | .tup l => .ok l S1
  | .str s => .ok (s.cps.toList.map fun c => .str ⟨#[c]⟩) S1
  | _ => .bad := rfl
@[simp] theorem u_itZip (fa : AX) : itZip fa env S = (fa env S).bnd fun ds S1 => match ds with
  | [.lst l, .lst m] => .ok (zipL l m) S1
  | [.tup l, .tup m] => .ok (zipL l m) S1
  | _ => .bad := rfl
@[simp] theorem u_fnM (n : Nat) (body : ES) (ds : List D) : fnM n body ds S = (body (ds.map some ++ List.replicate (n - ds.length) none) S).bnd fun c S1 => match c with
  | .rt d => .ok d S1
  | .nx _ => .ok .non S1
  | _ => .bad := rfl
@[simp] theorem u_pName (i : Nat) (d : D) : pName i d env = some (env.set i (some d)) := rfl
@[simp] theorem u_pTup (r : List D → Env → Option Env) (l : List D) : pTup r (.tup l) env = r l env := rfl
@[simp] theorem u_pNil : pNil [] env = some env := rfl
@[simp] theorem u_pCons (p : Pat) (r : List D → Env → Option Env) (d : D) (ds : List D) : pCons p r (d :: ds) env = (p d env).bind fun e => r ds e := rfl
@[simp] theorem o_add (i j : Int) : addD (.int i) (.int j) = some (.int (i + j)) := rfl
@[simp] theorem o_sub (i j : Int) : subD (.int i) (.int j) = some (.int (i - j)) := rfl
@[simp] theorem o_mul (i j : Int) : mulD (.int i) (.int j) = if mulOk i j then some (.int (i * j)) else none := rfl
@[simp] theorem o_fdiv (i j : Int) : fdivD (.int i) (.int j) = if 0 < j ∧ j.natAbs.log2 < 9000 then some (.int (i / j)) else none := rfl
@[simp] theorem o_mod (i j : Int) : modD (.int i) (.int j) = if 0 < j then some (.int (i % j)) else none := rfl
@[simp] theorem o_neg (i : Int) : negD (.int i) = some (.int (-i)) := rfl
@[simp] theorem o_lt (i j : Int) : ltA (.int i) (.int j) = some (.bl (decide (i < j))) := rfl
@[simp] theorem o_le (i j : Int) : leD (.int i) (.int j) = some (.bl (decide (i ≤ j))) := rfl
@[simp] theorem o_gt (i j : Int) : gtD (.int i) (.int j) = some (.bl (decide (j < i))) := rfl
@[simp] theorem o_eqi (i j : Int) : eqD (.int i) (.int j) = some (.bl (decide (i = j))) := rfl
@[simp] theorem o_nei (i j : Int) : neD (.int i) (.int j) = some (.bl (!decide (i = j))) := rfl
@[simp] theorem o_powi (i j : Int) : powD (.int i) (.int j) = if 0 ≤ j ∧ j ≤ 1000000 ∧ i.natAbs < 2 ^ 64 then some (.int (i ^ j.toNat)) else none := rfl
@[simp] theorem ix_nn (n j : Nat) (h : j < n) : pyIx n (j : Int) = some j := by
  unfold pyIx
  rw [if_pos (by omega), if_pos (by omega)]
  simp
@[simp] theorem ix_0 (n : Nat) : pyIx (n + 1) 0 = some 0 := ix_nn (n + 1) 0 (by omega)
@[simp] theorem idx_ref (n : Nat) (i : Int) : idxB (.ref n) (.int i) S = (match S[n]? with
    | some (.lst l) => atP l i
    | _ => none) := rfl
@[simp] theorem idx_lst (l : List D) (i : Int) : idxB (.lst l) (.int i) S = atP l i := rfl
@[simp] theorem idx_tup (l : List D) (i : Int) : idxB (.tup l) (.int i) S = atP l i := rfl
@[simp] theorem idx_scr (l : List Int) (i : Int) : idxB (.scr l) (.int i) S = (atP l i).map D.int := rfl
@[simp] theorem set_ref (n : Nat) (i : Int) (v : D) : setM (.ref n) (.int i) v S = (match S[n]? with
    | some (.lst l) => (pyIx l.length i).map fun j => S.set n (.lst (l.set j v))
    | _ => none) := rfl
@[simp] theorem W_bnd {α β : Type} (r : R α) (f : α → Store → R β) (q : β → Store → Prop) : W (r.bnd f) q = W r fun a S => W (f a S) q := by cases r <;> simp
@[simp] theorem W_lift {α : Type} (o : Option α) (q : α → Store → Prop) : W (lift o S) q = ∃ a, o = some a ∧ q a S := by cases o <;> simp [lift]
@[simp] theorem u_small (i : Int) : small62 i = decide (-(2 ^ 62) ≤ i ∧ i < 2 ^ 62) := rfl
@[simp] theorem rng_len (lo : Int) (n : Nat) : (rngL lo n).length = n := by simp [rngL]
theorem rng_get {lo : Int} {n i : Nat} {d : D} (h : (rngL lo n)[i]? = some d) : i < n ∧ d = .int (lo + (i : Int)) := by
  unfold rngL at h
  rw [List.getElem?_map] at h
  cases z : (List.range n)[i]? with
  | none => rw [z] at h; cases h
  | some k =>
    rw [z] at h
    obtain ⟨hl, e⟩ := List.getElem?_eq_some_iff.mp z
    rw [List.getElem_range] at e
    subst e
    cases h
    exact ⟨by simpa using hl, rfl⟩
@[simp] theorem at_0 (d : D) (l : List D) : atP (d :: l) 0 = some d := by simp [atP]
@[simp] theorem at_1 (d e : D) (l : List D) : atP (d :: e :: l) 1 = some e := by
  have : pyIx (d :: e :: l).length 1 = some 1 := ix_nn _ 1 (by simp)
  unfold atP
  rw [this]
  rfl
@[simp] theorem ix_1 (n : Nat) : pyIx (n + 1 + 1) 1 = some 1 := ix_nn (n + 2) 1 (by omega)
@[simp high] theorem W_liftIf {α : Type} (c : Prop) [Decidable c] (a : α) (q : α → Store → Prop) : W (lift (if c then some a else none) S) q = (c ∧ q a S) := by
  by_cases h : c <;> simp [h, lift]
@[simp] theorem log_7 : Nat.log2 7 < 9000 := by decide
@[simp] theorem log_2 : Nat.log2 2 < 9000 := by decide
@[simp] theorem LINE_eq : LINE = 16777216 := rfl
@[simp] theorem pyEq_str (a b : Str) : pyEq (.str a) (.str b) = decide (a = b) := by rw [pyEq]
@[simp] theorem pyEq_int (a b : Int) : pyEq (.int a) (.int b) = decide (a = b) := by rw [pyEq]
@[simp] theorem pyEq_tup (a b : List D) : pyEq (.tup a) (.tup b) = pyEqs a b := by rw [pyEq]
@[simp] theorem pyEq_lst (a b : List D) : pyEq (.lst a) (.lst b) = pyEqs a b := by rw [pyEq]
@[simp] theorem pyEqs_nil : pyEqs [] [] = true := by rw [pyEqs]
@[simp] theorem pyEqs_cons (x y : D) (l m : List D) : pyEqs (x :: l) (y :: m) = (pyEq x y && pyEqs l m) := by rw [pyEqs]
@[simp] theorem pyEqs_nc (y : D) (m : List D) : pyEqs [] (y :: m) = false := by rw [pyEqs] <;> simp
@[simp] theorem pyEqs_cn (x : D) (l : List D) : pyEqs (x :: l) [] = false := by rw [pyEqs] <;> simp
@[simp] theorem inL_nil (x : D) : inL x [] = false := rfl
@[simp] theorem inL_cons (x y : D) (l : List D) : inL x (y :: l) = (pyEq y x || inL x l) := rfl
@[simp] theorem pl_str (n : Nat) (a : Str) : plN n (.str a) = true := by cases n <;> rfl
@[simp] theorem pl_int (n : Nat) (a : Int) : plN n (.int a) = true := by cases n <;> rfl
@[simp] theorem pl_bl (n : Nat) (a : Bool) : plN n (.bl a) = true := by cases n <;> rfl
@[simp] theorem pl_non (n : Nat) : plN n .non = true := by cases n <;> rfl
@[simp] theorem pl_tup (n : Nat) (l : List D) : plN (n + 1) (.tup l) = l.all (plN n) := rfl
@[simp] theorem pl_lst (n : Nat) (l : List D) : plN (n + 1) (.lst l) = l.all (plN n) := rfl
@[simp] theorem pl_D (d : D) : plD d = plN 8 d := rfl
end Ro
end
section
set_option Elab.async false
set_option linter.all false
set_option maxRecDepth 100000
set_option maxHeartbeats 4000000
namespace Ro
open PySem
def b__law_box : ES :=
  (sSeq (sSet 2 (eOp addD (eOp mulD (eC (.int 7919)) (eVar 1)) (eC (.int 13))))
  (sSeq (sIf (bVal (eOp ltA (eVar 1) (eB bLenA (aCons (eVar 0) aNil)))) (sSet 2 (eIdxB (eVar 0) (eVar 1))) sPass)
  (sSeq (sIf (bVal (eOp eqD (eOp modD (eVar 2) (eC (.int 2))) (eC (.int 0)))) (sRet (eLstM (aCons (eOp fdivD (eVar 2) (eC (.int 2))) (aCons (eOp modD (eB bAbs (aCons (eVar 2) aNil)) (eC (.int 2147483647))) aNil)))) sPass)
  (sSeq (sSet 3 (eC (.int 0)))
  (sSeq (sFor (itR1 (aCons (eC (.int 16)) aNil)) (pName 4) (sSeq (sSet 5 (eOp modD (eOp addD (eOp addD (eOp mulD (eOp modD (eVar 2) (eC (.int 2147483647))) (eC (.int 48271))) (eOp mulD (eC (.int 7919)) (eVar 4))) (eC (.int 1))) (eC (.int 2147483647))))
  (sSeq (sSet 5 (eOp modD (eOp mulD (eVar 5) (eVar 5)) (eC (.int 2147483629))))
  (sSet 3 (eOp addD (eOp mulD (eVar 3) (eC (.int 2147483647))) (eOp modD (eOp mulD (eVar 5) (eOp addD (eVar 5) (eC (.int 13)))) (eC (.int 2147483647))))))))
  (sRet (eLstM (aCons (eVar 3) (aCons (eOp modD (eB bAbs (aCons (eVar 2) aNil)) (eC (.int 2147483647))) aNil)))))))))
def m__law_box : Fn := fnM 6 b__law_box
def b__law_more : ES :=
  (sSeq (sSet 1 (eC (.int 0)))
  (sSeq (sFor (itR1 (aCons (eC (.int 12)) aNil)) (pName 2) (sSeq (sSetIt (eVar 0) (eC (.int 1)) (eOp modD (eOp addD (eOp mulD (eIdxB (eVar 0) (eC (.int 1))) (eC (.int 48271))) (eC (.int 30269))) (eC (.int 2147483647))))
  (sSet 1 (eOp addD (eOp mulD (eVar 1) (eC (.int 65521))) (eOp modD (eOp fdivD (eIdxB (eVar 0) (eC (.int 1))) (eC (.int 7))) (eC (.int 65521)))))))
  (sRet (eVar 1))))
def m__law_more : Fn := fnM 3 b__law_more
def b__law_take : ES :=
  (sSeq (sIf (bVal (eChain leD ltA (eC (.int 0)) (eIdxB (eVar 0) (eC (.int 0))) (eVar 1))) (sSetIt (eVar 0) (eC (.int 0)) (eOp addD (eIdxB (eVar 0) (eC (.int 0))) (eOp mulD (eVar 1) (eFn (callM m__law_more 1 0 1 [(0, 0)] []) (aCons (eVar 0) aNil) aNil)))) sPass)
  (sSeq (sUnp (pTup (pCons (pName 2) (pCons (pName 3) pNil))) (eB bDivmod (aCons (eIdxB (eVar 0) (eC (.int 0))) (aCons (eVar 1) aNil))))
  (sSeq (sSetIt (eVar 0) (eC (.int 0)) (eVar 2))
  (sRet (eVar 3)))))
def m__law_take : Fn := fnM 4 b__law_take
theorem mulOk_lt {i j : Int} {n m : Nat} (h1 : i.natAbs < 2 ^ n) (h2 : j.natAbs < 2 ^ m) (h : n + m < 1000000) (hn : 0 < n := by decide) (hm : 0 < m := by decide) : mulOk i j = true := by
  have key : ∀ {a k : Nat}, 0 < k → a < 2 ^ k → a.log2 < k := fun {a k} hk ha => by
    by_cases z : a = 0
    · subst z; simpa using hk
    · exact (Nat.log2_lt z).mpr ha
  unfold mulOk
  exact decide_eq_true (by have := key hn h1; have := key hm h2; omega)
/-- a box of digits stands at b -/
def Bx (S : Store) (b : Nat) : Prop := ∃ x y : Int, S[b]? = some (.lst [.int x, .int y]) ∧ 0 ≤ y ∧ y < 2147483647
/-- .. and was drawn from, nothing else was turned -/
def Bs (S : Store) (b : Nat) (S' : Store) : Prop := ∃ x y : Int, 0 ≤ y ∧ y < 2147483647 ∧ S' = S.set b (.lst [.int x, .int y])
theorem Bx.lt {S : Store} {b : Nat} (h : Bx S b) : b < S.length := by
  obtain ⟨x, y, h, _⟩ := h
  exact (List.getElem?_eq_some_iff.mp h).1
theorem Bs.bx {S S' : Store} {b : Nat} (h : Bs S b S') (hb : b < S.length) : Bx S' b := by
  obtain ⟨x, y, h1, h2, rfl⟩ := h
  exact ⟨x, y, by rw [List.getElem?_set]; simp [hb], h1, h2⟩
theorem Bs.trans {S S' S'' : Store} {b : Nat} (h : Bs S b S') (h' : Bs S' b S'') : Bs S b S'' := by
  obtain ⟨x, y, h1, h2, rfl⟩ := h
  obtain ⟨x', y', h3, h4, rfl⟩ := h'
  exact ⟨x', y', h3, h4, by rw [List.set_set]⟩
theorem Bs.len {S S' : Store} {b : Nat} (h : Bs S b S') : S'.length = S.length := by
  obtain ⟨x, y, h1, h2, rfl⟩ := h
  rw [List.length_set]
theorem Bs.other {S S' : Store} {b c : Nat} (h : Bs S b S') (hc : c ≠ b) : S'[c]? = S[c]? := by
  obtain ⟨x, y, h1, h2, rfl⟩ := h
  rw [List.getElem?_set_ne (Ne.symm hc)]
theorem more_ok {S : Store} {b : Nat} {x y : Int} (hS : S[b]? = some (.lst [.int x, .int y])) (hy : 0 ≤ y ∧ y < 2147483647) :
    W (m__law_more [.ref b] S) fun d S' => ∃ i y' : Int, d = .int i ∧ 0 ≤ i ∧ i < 2 ^ 192 ∧ 0 ≤ y' ∧ y' < 2147483647 ∧ S' = S.set b (.lst [.int x, .int y']) := by
  have hb : b < S.length := (List.getElem?_eq_some_iff.mp hS).1
  unfold m__law_more b__law_more
  simp
  refine W.loop (I := fun i env S' => ∃ (num y' : Int) (z : Option D), env = [some (.ref b), some (.int num), z] ∧ 0 ≤ num ∧ num < 2 ^ (16 * i) ∧ 0 ≤ y' ∧ y' < 2147483647 ∧ S' = S.set b (.lst [.int x, .int y'])) (k := 0)
    ⟨0, y, none, rfl, by omega, by decide, hy.1, hy.2, by apply List.ext_getElem?; intro j; by_cases h : b = j <;> simp [List.getElem?_set, h, hb, ← hS] <;> simp [← h, hb, hS]⟩ (fun i d env S' hi hd hI => ?_) (fun env S' hI => ?_)
  · obtain ⟨num, y', z, rfl, h1, h2, h3, h4, rfl⟩ := hI
    obtain ⟨hi12, _⟩ := rng_get hd
    refine ⟨_, rfl, ?_⟩
    have e1 : mulOk y' 48271 = true := mulOk_lt (n := 32) (m := 16) (by omega) (by decide) (by decide)
    have hpow : (2 : Int) ^ (16 * i) ≤ 2 ^ 192 := by
      have : (2 : Nat) ^ (16 * i) ≤ 2 ^ 192 := Nat.pow_le_pow_right (by decide) (by simp at hi12; omega)
      exact_mod_cast this
    have e2 : mulOk num 65521 = true := mulOk_lt (n := 193) (m := 16) (by
      have h : num < 2 ^ 192 := Int.lt_of_lt_of_le h2 hpow
      have : num.natAbs < 2 ^ 192 := by omega
      omega) (by decide) (by decide)
    simp [List.getElem?_set, hb, e1, e2]
    have e3 : (2 : Int) ^ (16 * (i + 1)) = 2 ^ (16 * i) * 65536 := by rw [Nat.mul_add, Int.pow_add]; rfl
    rw [e3]
    generalize (2 : Int) ^ (16 * i) = P at h2
    exact ⟨by omega, by omega, _, by omega, by omega, rfl⟩
  · obtain ⟨num, y', z, rfl, h1, h2, h3, h4, rfl⟩ := hI
    simp at h2
    simp
    exact ⟨h1, h2, y', h3, h4, rfl⟩
theorem set_same {S : Store} {b : Nat} {c : Cell} (h : S[b]? = some c) : S.set b c = S := by
  obtain ⟨h1, h2⟩ := List.getElem?_eq_some_iff.mp h
  rw [← h2]
  exact List.set_getElem_self h1
theorem take_ok {S : Store} {b : Nat} {n : Int} (hB : Bx S b) (hn : 0 < n ∧ n < 1152921504606846976) : W (m__law_take [.ref b, .int n] S) fun d S' => (∃ i : Int, d = .int i ∧ 0 ≤ i ∧ i < n) ∧ Bs S b S' := by
  obtain ⟨x, y, hS, hy1, hy2⟩ := hB
  have hb : b < S.length := (List.getElem?_eq_some_iff.mp hS).1
  have hd : divOk n = true := decide_eq_true hn
  unfold m__law_take b__law_take
  have md : ∀ z : Int, 0 ≤ z % n ∧ z % n < n := fun z => ⟨Int.emod_nonneg _ (by omega), Int.emod_lt_of_pos _ hn.1⟩
  by_cases c1 : 0 ≤ x
  · by_cases c2 : x < n
    · simp [hS, c1, c2]
      refine (more_ok hS ⟨hy1, hy2⟩).mono ?_
      rintro _ _ ⟨i, y', rfl, i1, i2, k1, k2, rfl⟩
      have e : mulOk n i = true := mulOk_lt (n := 61) (m := 193) (by omega) (by omega) (by decide)
      simp [e, hb, bDivmod, hd]
      exact ⟨md _, _, y', k1, k2, rfl⟩
    · simp [hS, c1, c2, bDivmod, hd]
      exact ⟨md _, _, y, hy1, hy2, rfl⟩
  · simp [hS, c1, bDivmod, hd]
    exact ⟨md _, _, y, hy1, hy2, rfl⟩
def boxTail : ES :=
  (sSeq (sIf (bVal (eOp eqD (eOp modD (eVar 2) (eC (.int 2))) (eC (.int 0)))) (sRet (eLstM (aCons (eOp fdivD (eVar 2) (eC (.int 2))) (aCons (eOp modD (eB bAbs (aCons (eVar 2) aNil)) (eC (.int 2147483647))) aNil)))) sPass)
  (sSeq (sSet 3 (eC (.int 0)))
  (sSeq (sFor (itR1 (aCons (eC (.int 16)) aNil)) (pName 4) (sSeq (sSet 5 (eOp modD (eOp addD (eOp addD (eOp mulD (eOp modD (eVar 2) (eC (.int 2147483647))) (eC (.int 48271))) (eOp mulD (eC (.int 7919)) (eVar 4))) (eC (.int 1))) (eC (.int 2147483647))))
  (sSeq (sSet 5 (eOp modD (eOp mulD (eVar 5) (eVar 5)) (eC (.int 2147483629))))
  (sSet 3 (eOp addD (eOp mulD (eVar 3) (eC (.int 2147483647))) (eOp modD (eOp mulD (eVar 5) (eOp addD (eVar 5) (eC (.int 13)))) (eC (.int 2147483647))))))))
  (sRet (eLstM (aCons (eVar 3) (aCons (eOp modD (eB bAbs (aCons (eVar 2) aNil)) (eC (.int 2147483647))) aNil)))))))
/-- a fresh box of the script -/
theorem box_ok {S : Store} {ns : List Int} {k : Nat} (hl : ns.length ≤ 63) (hk : k < 63) : W (m__law_box [.scr ns, .int k] S) fun d S' => ∃ x y : Int, d = .ref S.length ∧ S' = S ++ [.lst [.int x, .int y]] ∧ 0 ≤ y ∧ y < 2147483647 := by
  have eb : b__law_box = sSeq (sSet 2 (eOp addD (eOp mulD (eC (.int 7919)) (eVar 1)) (eC (.int 13)))) (sSeq (sIf (bVal (eOp ltA (eVar 1) (eB bLenA (aCons (eVar 0) aNil)))) (sSet 2 (eIdxB (eVar 0) (eVar 1))) sPass) boxTail) := rfl
  unfold m__law_box
  rw [eb]
  have e0 : mulOk 7919 k = true := mulOk_lt (n := 13) (m := 7) (by decide) (by omega) (by decide)
  have key : ∀ h : Int, W (boxTail [some (.scr ns), some (.int k), some (.int h), none, none, none] S) (fun c S' => ∃ x y : Int, c = .rt (.ref S.length) ∧ S' = S ++ [.lst [.int x, .int y]] ∧ 0 ≤ y ∧ y < 2147483647) := by
    intro h
    unfold boxTail
    have ab : ∀ z : Int, 0 ≤ z % 2147483647 ∧ z % 2147483647 < 2147483647 := fun z => ⟨by omega, by omega⟩
    by_cases c : h % 2 = 0
    · simp [c, bAbs]
      exact ⟨_, _, ⟨rfl, rfl⟩, (ab _).1, (ab _).2⟩
    · simp [c]
      refine W.loop (I := fun i env S' => ∃ (num : Int) (z w : Option D), env = [some (.scr ns), some (.int k), some (.int h), some (.int num), z, w] ∧ 0 ≤ num ∧ num < 2 ^ (31 * i) ∧ S' = S) (k := 0)
        ⟨0, none, none, rfl, by omega, by decide, rfl⟩ (fun i d env S' hi hd hI => ?_) (fun env S' hI => ?_)
      · obtain ⟨num, z, w, rfl, h1, h2, rfl⟩ := hI
        obtain ⟨hi16, rfl⟩ := rng_get hd
        refine ⟨_, rfl, ?_⟩
        have hpow : (2 : Int) ^ (31 * i) ≤ 2 ^ 496 := by
          have : (2 : Nat) ^ (31 * i) ≤ 2 ^ 496 := Nat.pow_le_pow_right (by decide) (by simp at hi16; omega)
          exact_mod_cast this
        have e2 : mulOk num 2147483647 = true := mulOk_lt (n := 497) (m := 31) (by
          have h : num < 2 ^ 496 := Int.lt_of_lt_of_le h2 hpow
          have : num.natAbs < 2 ^ 496 := by omega
          omega) (by decide) (by decide)
        have e3 : ∀ z : Int, mulOk (z % 2147483647) 48271 = true := fun z => mulOk_lt (n := 31) (m := 16) (by omega) (by decide) (by decide)
        have e4 : mulOk 7919 i = true := mulOk_lt (n := 13) (m := 5) (by decide) (by simp at hi16; omega) (by decide)
        have e5 : ∀ z : Int, mulOk (z % 2147483647) (z % 2147483647) = true := fun z => mulOk_lt (n := 31) (m := 31) (by omega) (by omega) (by decide)
        have e6 : ∀ z : Int, mulOk (z % 2147483629) (z % 2147483629 + 13) = true := fun z => mulOk_lt (n := 32) (m := 32) (by omega) (by omega) (by decide)
        simp [e2, e3, e4, e5, e6]
        have e7 : (2 : Int) ^ (31 * (i + 1)) = 2 ^ (31 * i) * 2147483648 := by rw [Nat.mul_add, Int.pow_add]; rfl
        rw [e7]
        generalize (2 : Int) ^ (31 * i) = P at h2
        exact ⟨by omega, by omega⟩
      · obtain ⟨num, z, w, rfl, h1, h2, rfl⟩ := hI
        simp [bAbs]
        exact ⟨_, _, ⟨rfl, rfl⟩, (ab _).1, (ab _).2⟩
  by_cases c : k < ns.length
  · have hix : atP ns (k : Int) = some ns[k] := by
      unfold atP
      rw [ix_nn _ _ c]
      simp [c]
    simp only [u_fnM, W_bnd]
    simp [e0, bLenA, bLen, lenD, c, hix]
    refine ((key ns[k])).mono ?_
    rintro _ _ ⟨x, y, rfl, rfl, h1, h2⟩
    simp
    exact ⟨_, _, ⟨rfl, rfl⟩, h1, h2⟩
  · simp only [u_fnM, W_bnd]
    simp [e0, bLenA, bLen, lenD, c]
    refine ((key (7919 * k + 13))).mono ?_
    rintro _ _ ⟨x, y, rfl, rfl, h1, h2⟩
    simp
    exact ⟨_, _, ⟨rfl, rfl⟩, h1, h2⟩
end Ro
end
section
set_option Elab.async false
set_option linter.all false
set_option maxRecDepth 100000
set_option maxHeartbeats 4000000
namespace Ro
open PySem PySem.Spec PyProof.Rows L2
variable {T : Tb} {E : XK} {X : Cx} {a b c e : Expr} {es : List Expr} {f g h : EX} {fa ga fk : AX} {fb gb : BX} {pos : Pos} {st : Stmt} {sts rest : List Stmt} {s t : ES}
theorem ie_fnF {k n kn pn : Nat} {d : He.DefD} {x : Str} {p : Pos} {kws : List Keyword} {ps ks : List Str} {m : Fn} {pk : List (Nat × Nat)} {dfs : List D} (F : OkF T X.prog X.w X.mg X.base k d ps m) (hK : X.K = T.K) (hr : RG k X.A) (hg : Gl X x) (hm : X.mg x = some (.ref (He.fAd T.K d.at_)))
    (hb : ∀ fd, FunD T.K d.name d.qual d.params d.body d.scope (d.dvs T.K) [] (He.fAd T.K d.at_) fd → KBD T fd ps n ks pk dfs) (tk : Takes X fun c d _ H => E c d H) (ha : AK T E X es kws pos ks fa fk) (hdb : (x == ("__debug__" : Str)) = false := by decide +kernel) (h2 : ks.length = kn := by rfl) (h3 : ps.length = pn := by rfl) :
    IE T E X (.Call (.Name x p) es kws pos) (eFn (callM m n kn pn pk dfs) fa fk) := by
  subst h2 h3
  exact ie_fn F hK hr hg hm hb tk ha hdb
theorem ie_newF {k n n' kn pn : Nat} {cn : String} {d : He.DefD} {p : Pos} {kws : List Keyword} {ps ks : List Str} {m : Fn} {pk : List (Nat × Nat)} {dfs : List D} (F : OkF T X.prog X.w X.mg X.base k d ps m) (M : Mk T.K (He.ga T.K (cn : Str)) (He.fAd T.K d.at_)) (hK : X.K = T.K) (hr : RG (k + 1) X.A) (hg : Gl X (cn : Str)) (hm : X.mg (cn : Str) = some (.ref (He.ga T.K (cn : Str))))
    (hb : ∀ fd, FunD T.K d.name d.qual d.params d.body d.scope (d.dvs T.K) [] (He.fAd T.K d.at_) fd → KBD T fd ps n' ks pk dfs) (tk : Takes X fun c d _ H => E c d H) (ha : AK T E X es kws pos ks fa fk) (h1 : n' = n + 1) (hdb : ((cn : Str) == ("__debug__" : Str)) = false := by decide +kernel) (h2 : ks.length = kn := by rfl) (h3 : ps.length = pn := by rfl) :
    IE T E X (.Call (.Name (cn : Str) p) es kws pos) (eFn (newM cn (callM m n' kn pn pk dfs)) fa fk) := by
  subst h1 h2 h3
  exact ie_new F M hK hr hg hm hb tk ha hdb
theorem ie_methF {cf : String → List String} {cn mn : String} {k n n' kn pn : Nat} {d : He.DefD} {apos : Pos} {pl : Sem Bool} {kws : List Keyword} {ps ks : List Str} {m : Fn} {pk : List (Nat × Nat)} {dfs : List D} (hcf : T.cf = cf) (F : OkF T X.prog X.w X.mg X.base k d ps m) (hK : X.K = T.K) (hr : RG k X.A)
    (hc : Cls T.K (He.ga T.K (cn : Str))) (hm : Meth T.K (He.ga T.K (cn : Str)) (mn : Str) (He.fAd T.K d.at_))
    (hb : ∀ fd, FunD T.K d.name d.qual d.params d.body d.scope (d.dvs T.K) [] (He.fAd T.K d.at_) fd → KBD T fd ps n' ks pk dfs) (tk : Takes X fun c d _ H => E c d H) (ho : IE T E X a f) (ha : AK T E X es kws pos ks fa fk) (h1 : n' = n + 1)
    (ht : eval (.Call (.Attribute a (mn : Str) apos) es kws pos) X.env = (do
      let ov ← eval a X.env
      standAt apos.atName
      let (f, first) ← holding [ov] (getMethod ov (mn : Str) pl)
      callWith pos f first (backTo pos (starEach es X.env)) (backToKw pos (keywordEach kws X.env))) := by rfl) (h2 : ks.length = kn := by rfl) (h3 : ps.length = pn := by rfl) :
    IE T E X (.Call (.Attribute a (mn : Str) apos) es kws pos) (eMeth cf cn mn (callM m n' kn pn pk dfs) f fa fk) := by
  subst h1 h2 h3
  exact ie_meth hcf F hK hr hc hm hb tk ho ha ht
end Ro
end
section
set_option Elab.async false
set_option linter.all false
set_option maxRecDepth 100000
set_option maxHeartbeats 4000000
namespace Ro
open PySem PySem.Spec PyProof.Rows L2
mutual
def noThk : D → Bool
  | .non => true
  | .bl _ => true
  | .int _ => true
  | .str _ => true
  | .tup l => noThks l
  | .lst l => noThks l
  | .dct l => noThkK l
  | .obj _ l => noThks l
  | .scr _ => true
  | .ref _ => true
  | .fn _ => true
  | .thk _ _ => false
def noThks : List D → Bool
  | [] => true
  | d :: l => noThk d && noThks l
def noThkK : List (D × D) → Bool
  | [] => true
  | (_, d) :: l => noThk d && noThkK l
end
def Tb.at (T : Tb) (x : Option XC) : Tb := { T with xc := x }
mutual
theorem Rep.noThk {T : Tb} {w : Wd} (hx : T.xc = none) : ∀ {d : D} {v : V}, Rep T w d v → noThk d = true
  | _, _, .non => rfl
  | _, _, .bl _ => rfl
  | _, _, .int _ => rfl
  | _, _, .str _ => rfl
  | _, _, .tup _ r => by rw [Ro.noThk]; exact r.noThk hx
  | _, _, .scr _ => rfl
  | _, _, .lst _ r => by rw [Ro.noThk]; exact r.noThk hx
  | _, _, .dct _ r => by rw [Ro.noThk]; exact r.noThk hx
  | _, _, .obj _ _ r => by rw [Ro.noThk]; exact r.noThk hx
  | _, _, .ref _ => rfl
  | _, _, .fn _ => rfl
  | _, _, .xc0 h _ => by rw [hx] at h; cases h
  | _, _, .xc1 h _ _ _ _ => by rw [hx] at h; cases h
theorem Reps.noThk {T : Tb} {w : Wd} (hx : T.xc = none) : ∀ {l : List D} {vs : List V}, Reps T w l vs → noThks l = true
  | _, _, .nil => rfl
  | _, _, .cons q r => by rw [noThks, q.noThk hx, r.noThk hx]; rfl
theorem RepK.noThk {T : Tb} {w : Wd} (hx : T.xc = none) : ∀ {l : List (D × D)} {vs : List (Key × V)}, RepK T w l vs → noThkK l = true
  | _, _, .nil => rfl
  | _, _, .int q r => by rw [noThkK, q.noThk hx, r.noThk hx]; rfl
  | _, _, .str q r => by rw [noThkK, q.noThk hx, r.noThk hx]; rfl
end
mutual
theorem Rep.at {T : Tb} {w : Wd} {x y : Option XC} : ∀ {d : D} {v : V}, Ro.noThk d = true → Rep (T.at x) w d v → Rep (T.at y) w d v
  | _, _, _, .non => .non
  | _, _, _, .bl b => .bl b
  | _, _, _, .int i => .int i
  | _, _, _, .str s => .str s
  | _, _, h, .tup q r => .tup q (Reps.at (by rw [Ro.noThk] at h; exact h) r)
  | _, _, _, .scr q => .scr q
  | _, _, h, .lst q r => .lst q (Reps.at (by rw [Ro.noThk] at h; exact h) r)
  | _, _, h, .dct q r => .dct q (RepK.at (by rw [Ro.noThk] at h; exact h) r)
  | _, _, h, .obj q n r => .obj q n (Reps.at (by rw [Ro.noThk] at h; exact h) r)
  | _, _, _, .ref q => .ref q
  | _, _, _, .fn z => .fn z
  | _, _, h, .xc0 _ _ => by rw [Ro.noThk] at h; cases h
  | _, _, h, .xc1 _ _ _ _ _ => by rw [Ro.noThk] at h; cases h
theorem Reps.at {T : Tb} {w : Wd} {x y : Option XC} : ∀ {l : List D} {vs : List V}, noThks l = true → Reps (T.at x) w l vs → Reps (T.at y) w l vs
  | _, _, _, .nil => .nil
  | _, _, h, .cons q r => by
    rw [noThks, Bool.and_eq_true] at h
    exact .cons (Rep.at h.1 q) (Reps.at h.2 r)
theorem RepK.at {T : Tb} {w : Wd} {x y : Option XC} : ∀ {l : List (D × D)} {vs : List (Key × V)}, noThkK l = true → RepK (T.at x) w l vs → RepK (T.at y) w l vs
  | _, _, _, .nil => .nil
  | _, _, h, .int q r => by
    rw [noThkK, Bool.and_eq_true] at h
    exact .int (Rep.at h.1 q) (RepK.at h.2 r)
  | _, _, h, .str q r => by
    rw [noThkK, Bool.and_eq_true] at h
    exact .str (Rep.at h.1 q) (RepK.at h.2 r)
end
def noThkC : Cell → Bool
  | .dead => true
  | .lst l => noThks l
  | .dct l => noThkK l
  | .ins _ fs => noThks (fs.map (·.2))
  | .dcT l => noThks (l.map (·.2))
theorem CellR.noThk {T : Tb} {w : Wd} {H : Hp} {a : Addr} (hx : T.xc = none) : ∀ {c : Cell}, CellR T w H a c → noThkC c = true
  | .dead, _ => rfl
  | .lst _, ⟨_, _, r⟩ => r.noThk hx
  | .dct _, ⟨_, _, r⟩ => r.noThk hx
  | .ins _ _, ⟨_, _, _, _, r⟩ => r.noThk hx
  | .dcT _, ⟨_, _, _, r⟩ => r.noThk hx
theorem CellR.at {T : Tb} {w : Wd} {H : Hp} {a : Addr} {x y : Option XC} : ∀ {c : Cell}, noThkC c = true → CellR (T.at x) w H a c → CellR (T.at y) w H a c
  | .dead, _, _ => trivial
  | .lst _, h, ⟨vs, e, r⟩ => ⟨vs, e, r.at h⟩
  | .dct _, h, ⟨vs, e, r⟩ => ⟨vs, e, r.at h⟩
  | .ins _ _, h, ⟨dx, gs, e, n, r⟩ => ⟨dx, gs, e, n, r.at h⟩
  | .dcT _, h, ⟨vs, e, n, r⟩ => ⟨vs, e, n, r.at h⟩
/-- a store and hidden lists that hold no exception in hand -/
def Clean (S : Store) (hid : List (Addr × List D)) : Prop := (∀ c ∈ S, noThkC c = true) ∧ ∀ p ∈ hid, noThks p.2 = true
theorem WR.clean {T : Tb} {w : Wd} {S : Store} {H : Hp} (hx : T.xc = none) (r : WR T w S H) : Clean S w.hid := by
  refine ⟨fun c hc => ?_, fun p hp => ?_⟩
  · obtain ⟨n, hn, e⟩ := List.mem_iff_getElem.mp hc
    have h1 : S[n]? = some c := by rw [List.getElem?_eq_getElem hn, e]
    have hl : n < w.am.length := by rw [r.len]; exact hn
    exact (r.cell n c w.am[n] h1 (List.getElem?_eq_getElem hl)).noThk hx
  · obtain ⟨_, _, vs, _, z⟩ := r.hd p hp
    exact z.noThk hx
theorem WR.at {T : Tb} {w : Wd} {S : Store} {H : Hp} {x y : Option XC} (k : Clean S w.hid) (r : WR (T.at x) w S H) : WR (T.at y) w S H :=
  ⟨r.sub, r.len, r.nd, r.has, r.out, fun n c a h1 h2 => (r.cell n c a h1 h2).at (k.1 c (List.mem_of_getElem? h1)), r.tabs, r.hn, fun p hp => (r.hd p hp).imp id fun z => ⟨z.1, z.2.elim fun vs z => ⟨vs, z.1, z.2.at (k.2 p hp)⟩⟩, r.nt⟩
theorem ER.at {T : Tb} {w : Wd} {env : Env} {σ : St} {x y : Option XC} (k : ∀ d, some d ∈ env → Ro.noThk d = true) (r : ER (T.at x) w env σ) : ER (T.at y) w env σ := ⟨r.1, fun i d e => by
  obtain ⟨v, h1, h2⟩ := r.2 i d e
  exact ⟨v, h1, h2.at (k d (List.mem_of_getElem? e))⟩⟩
/-- all but the tables of code objects stay -/
theorem WR.growN {T : Tb} {w : Wd} {S : Store} {H H' : Hp} (r : WR T w S H) (k : LamX.ExtN H H') (t : LamX.Tabs T.tabs H') : WR T w S H' := by
  have kt : ∀ {a : Addr} {u : HO}, NoTab u → H a = some u → H' a = some u := fun {a u} n e => k a u e n.1
  refine ⟨fun a u e => k a u (r.sub a u e) fun ps z => r.nt a ps (by rw [e, z]), r.len, r.nd, fun a ha => ?_, r.out, fun n c a h1 h2 => ?_, t, r.hn, fun p hp => ?_, r.nt⟩
  · obtain ⟨u, e, nt⟩ := r.has a ha
    exact ⟨u, k a u e nt, nt⟩
  · have h := r.cell n c a h1 h2
    cases c with
    | dead => trivial
    | lst l => obtain ⟨vs, e, q⟩ := h; exact ⟨vs, kt noTab_lst e, q⟩
    | dct l => obtain ⟨vs, e, q⟩ := h; exact ⟨vs, kt noTab_dK e, q⟩
    | dcT l => obtain ⟨vs, e, q⟩ := h; exact ⟨vs, kt noTab_dT e, q⟩
    | ins c fs => obtain ⟨dx, gs, e, q⟩ := h; exact ⟨dx, gs, kt noTab_ins e, q⟩
  · obtain ⟨z1, z2, vs, z3, z4⟩ := r.hd p hp
    exact ⟨z1, z2, vs, kt noTab_lst z3, z4⟩
end Ro
end
section
set_option Elab.async false
set_option linter.all false
set_option maxRecDepth 100000
set_option maxHeartbeats 4000000
namespace Ro
open PySem PySem.Spec PyProof.Rows L2 L2H
variable {T : Tb} {E : XK} {X : Cx} {a b c e : Expr} {es : List Expr} {f g h : EX} {fa ga fk : AX} {pos : Pos}
structure RGH (k : Nat) (A : Around) : Prop where
  rm : RoomH k A
  gd : A.guards = some []
theorem RGH.mono {j k : Nat} {A : Around} (r : RGH k A) (h : j ≤ k) : RGH j A := ⟨r.rm.mono h, r.gd⟩
theorem RGH.deeper {k : Nat} {A : Around} (r : RGH (k + 1) A) (env : PySem.Env) : RGH k (A.deeper env) := ⟨r.rm.deeper env, r.gd⟩
theorem roomH_units {k : Nat} {A : Around} (r : RoomH k A) : A.units + 64 < cLine := by have := r.un; omega
theorem RGH.hu {k : Nat} {A : Around} (r : RGH k A) : A.units + 64 < cLine := roomH_units r.rm
/-- what is known of the exception in hand: its object -/
structure XHand (T : Tb) (z : XC) (p : Addr × Obj) : Prop where
  at_ : p.1 = z.a
  zc : Zc (.ref (He.ga T.K (z.c : Str))) z.dx p.2
  fl : ∃ vs, p.2.data = .fields vs
structure FnP (P : Program) (w : World) (T : Tb) (mg : Str → Option Value) (base : Heap) (k : Nat) (fp : Addr) (fd : FuncData) (ps : List Str) (cn : String) (m : Fn) : Prop where
  run : ∀ (A : Around) (below : List PySem.Env) (s : Shared) (H : Hp) (ar : Args) (Q : VK) (p : Addr × Obj) (z : XC) (fs : List D) (w0 : Wd) (S : Store), RGH k A → PinOk below H s p → XHand T z p → z.c = cn → Env0 P w T.K mg base A below s H → BindsTo s fd ar (ps.zip [.ref p.1]) →
    WR (T.at (some z)) w0 S H → Rep (T.at (some z)) w0 (.thk 0 fs) (.ref z.a) → RP (m [.thk 0 fs] S) (Pk (T.at (some z)) w0 Q) (XW (T.at (some z)) w0 E00) → codeAny (model P w) A (.call (.ref fp) ar) (CR (L2.CX P w) below P w H s Q E00) s
/-- the context of such a def's body -/
abbrev cxP (P : Program) (w : World) (K : PySem.W.Frag) (mg : Str → Option Value) (base : Heap) (N : List Str) (qual : Str) (scope : Scope) (f : Addr) (cd : Value) (A : Around) (outer : List PySem.Env) (s : Shared) (H : Hp) (p : Addr × Obj) : Cx :=
  cxH (L2.CX P w) P w K mg base N qual scope f cd A outer s H E00 p
structure OkP (T : Tb) (P : Program) (w : World) (mg : Str → Option Value) (base : Heap) (k : Nat) (d : He.DefD) (ps : List Str) (cn : String) (m : Fn) : Prop where
  ex : ∃ fd, FunD T.K d.name d.qual d.params d.body d.scope (d.dvs T.K) [] (He.fAd T.K d.at_) fd ∧ FnP P w T mg base k (He.fAd T.K d.at_) fd ps cn m
theorem OkP.mk' {P : Program} {w : World} {mg : Str → Option Value} {base : Heap} {k : Nat} {d : He.DefD} {x : Str} {N : List Str} {body : ES} {fd : FuncData} {cn : String}
    (F : FunD T.K d.name d.qual d.params d.body d.scope (d.dvs T.K) [] (He.fAd T.K d.at_) fd) (Sc : FnScope N [x] d.scope)
    (h : ∀ (cdv : Value) (A : Around) (outer : List PySem.Env) (s : Shared) (H : Hp) (p : Addr × Obj) (z : XC), XHand T z p → z.c = cn → RGH k (A.deeper (envOfC d.qual d.scope s.heap.objs.size (He.fAd T.K d.at_) cdv)) →
      ISs (T.at (some z)) E00 (cxP P w T.K mg base N d.qual d.scope (He.fAd T.K d.at_) cdv A outer s H p) d.body body) : OkP T P w mg base (k + 1) d [x] cn (fnM N.length body) := by
  refine ⟨fd, F, ?_⟩
  obtain ⟨oc, od, dV, kV, doc, pm, an, cdv, ct, osl, rfl, lk, hcd, _, _⟩ := F.ex
  constructor
  intro A below s H ar Q p z fs w0 S hr hp hx hcn env0 hbd wr hz hm
  have inK : T.K.In s.heap := env0.mod.kin.keeps fun b o q => (env0.bs b o q).1
  have noLim : s.heap.NoLimit := env0.mod.nolimit.keeps fun b o q => (env0.bs b o q).1
  have kinds : ∀ z ∈ [x].zip [Value.ref p.1], d.scope.names.lookup z.1 = some .local ∨ (d.scope.names.lookup z.1 = some .cell ∧ ((cellsFrom (s.heap.objs.size + 1) d.scope.names []).lookup z.1).isSome = true) := by
    rintro ⟨n, v⟩ hz
    rcases Sc.par n (List.of_mem_zip hz).1 with k1 | k1
    · exact Or.inl k1
    · exact Or.inr ⟨k1, PySem.W.cellsFrom_some _ _ _ (Or.inl k1)⟩
  refine codeAny_call_function hr.rm.depth (inK _ _ lk) rfl Sc.co Sc.gen rfl (PySem.W.codeRec_of inK hcd) (hbd _ _ _ _ ?_)
  refine wpAny_newFunctionEnv_cells Sc.kind kinds fun en hen st hx2 => ?_
  subst hen
  have rv : Vals [V.ref p.1] [Value.ref p.1] := .cons rfl .nil
  have J0 : Inv (cxP P w T.K mg base N d.qual d.scope (He.fAd T.K d.at_) cdv A below s H p) [] (L2.start N [V.ref p.1]) H st := inv_startH Sc hp env0 rfl rv hx2
  have ends : tIs (T.at (some z)) E00 body { nx := fun _ H' => Q .non H', rt := Q } (L2.start N [V.ref p.1]) H := by
    have px : Reps (T.at (some z)) w0 [.thk 0 fs] [V.ref p.1] := by
      rw [hx.at_]
      exact .cons hz .nil
    refine ⟨w0, _, S, wr, er_start px, (RP.bnd hm).mono (fun c S1 h1 => ?_) fun _ _ _ z => z⟩
    cases c with
    | rt d => exact h1
    | nx e => exact fun w' H' σ' l r' q' => h1 w' H' .non l r' .non
    | bk e => exact (show False from h1).elim
    | ct e => exact (show False from h1).elim
  refine ⟨noLim.keeps hx2.toInCall.keep, codeAny_func (wpAny_mono ((h cdv A below s H p z hx hcn (hr.deeper _)).run [] st (L2.start N [V.ref p.1]) H _ J0 ends) (fun fl st' hs => ?_) fun e st' hs => hs)⟩
  cases fl with
  | ret u =>
    obtain ⟨v, _, H', J, r1, q⟩ := hs
    exact ⟨v, H', J.os, J.bare, J.base, J.hok, r1, q⟩
  | next =>
    obtain ⟨_, H', J, q⟩ := hs
    exact ⟨V.non, H', J.os, J.bare, J.base, J.hok, rfl, q⟩
  | brk => exact hs.elim fun _ z => z.elim fun _ z => z.2.elim
  | cont => exact hs.elim fun _ z => z.elim fun _ z => z.2.elim
/-- the value is the exception in hand -/
def isHand : D → Bool
  | .thk 0 _ => true
  | _ => false
theorem hand_rep {w : Wd} {z : XC} {d : D} {x : V} (h : isHand d = true) (r : Rep (T.at (some z)) w d x) : ∃ fs, d = .thk 0 fs ∧ x = .ref z.a := by
  unfold isHand at h
  split at h
  · cases r with
    | xc0 q1 q2 => cases q1; exact ⟨_, rfl, rfl⟩
    | xc1 q1 q2 q3 q4 q5 => cases q1; exact ⟨_, rfl, rfl⟩
  · cases h
theorem hand_inv {w : Wd} {z : XC} {fs : List D} {v : V} (r : Rep (T.at (some z)) w (.thk 0 fs) v) : v = .ref z.a ∧ ((z.dx = none ∧ fs = []) ∨ ∃ dd gs, z.dx = some dd ∧ w.G dd = some (.xd gs) ∧ (∀ f ∈ T.cf z.c, ∃ v, gs.lookup (Str.ofString f) = some v) ∧ Reps (T.at (some z)) w fs ((T.cf z.c).map fun f : String => (gs.lookup (Str.ofString f)).getD .non)) := by
  cases r with
  | xc0 q1 q2 => cases q1; exact ⟨rfl, .inl ⟨q2, rfl⟩⟩
  | xc1 q1 q2 q3 q4 q5 => cases q1; exact ⟨rfl, .inr ⟨_, _, q2, q3, q4, q5⟩⟩
/-- a call that hands it on -/
def eFnP (m : Fn) (f : EX) : EX := fun env S => (f env S).bnd fun x S1 => if isHand x then m [x] S1 else .bad
theorem ie_fnP {k : Nat} {d : He.DefD} {x y : Str} {q : Pos} {p : Addr × Obj} {z : XC} {cn : String} {m : Fn} (hp : p ∈ X.pn) (hx : XHand T z p) (hcn : z.c = cn) (F : OkP T X.prog X.w X.mg X.base k d [y] cn m) (hK : X.K = T.K) (hr : RGH k X.A) (hg : Gl X x) (hm : X.mg x = some (.ref (He.fAd T.K d.at_)))
    (hb : ∀ fd, FunD T.K d.name d.qual d.params d.body d.scope (d.dvs T.K) [] (He.fAd T.K d.at_) fd → L2.Binds T.K fd [y] []) (tk : Takes X fun c d _ H => E00 c d H) (ha : IE (T.at (some z)) E00 X a f) (hdb : (x == ("__debug__" : Str)) = false := by decide +kernel)
    (he : starEach [a] X.env = (false, eval a X.env) :: starEach [] X.env := by rfl) (hpl : (backTo pos (starEach [] X.env)).any (·.1) = false := by rfl) :
    IE (T.at (some z)) E00 X (.Call (.Name x q) [a] [] pos) (eFnP m f) := by
  obtain ⟨fd, FD, FO⟩ := F.ex
  refine ⟨fun pins s σ H Q I h => ?_⟩
  obtain ⟨w, env, S, r, e, qq⟩ := h
  refine wpAny_Call_Name_kw (ld_glob I hg hm ?_ hdb)
  have hone : PA X [a] (tIa (T.at (some z)) E00 (aCons f aNil)) := ia_cons ha ia_nil he
  refine PySem.W.callWith_K (h₀ := X.base) I.ok.mod.kin (by rw [hK]; exact FD.kp) (thn (hone.run pos pins s σ H (fun vs H1 => ∃ w1 S1 fs, w.le w1 ∧ vs = [.ref z.a] ∧ WR (T.at (some z)) w1 S1 H1 ∧ Rep (T.at (some z)) w1 (.thk 0 fs) (.ref z.a) ∧ RP (m [.thk 0 fs] S1) (Pk (T.at (some z)) w1 Q) (XW (T.at (some z)) w1 E00)) I ⟨w, env, S, r, e, ?_⟩) fun us s1 ⟨vs, H1, I1, rv, w1, S1, fs, l1, ev, r1, z1, q1⟩ => ⟨I1.kIn, ?_⟩) he hpl
  · show RP ((f env S).bnd fun x S1 => (aNil env S1).bnd fun xs S2 => .ok (x :: xs) S2) _ _
    have qq : RP ((f env S).bnd fun x S1 => if isHand x then m [x] S1 else .bad) (Pk (T.at (some z)) w Q) (XW (T.at (some z)) w E00) := qq
    cases zz : f env S with
    | ok x S1 =>
      rw [zz] at qq
      rw [bnd_ok] at qq ⊢
      show ∀ w' H' vs, w.le w' → WR (T.at (some z)) w' S1 H' → Reps (T.at (some z)) w' [x] vs → _
      intro w' H' vs l r' rx
      by_cases hh : isHand x = true
      · rw [if_pos hh] at qq
        cases rx with
        | cons q1 q2 =>
          cases q2
          obtain ⟨fs, rfl, rfl⟩ := hand_rep hh q1
          exact ⟨w', S1, fs, l, rfl, r', q1, qq.mono (fun d S' q w2 H2 v l2 => q w2 H2 v (l.trans l2)) fun _ _ _ x => x.le l⟩
      · rw [if_neg hh] at qq
        exact qq.elim
    | err c fs S1 => rw [zz] at qq; exact qq
    | bad => rw [zz] at qq; exact qq.elim
  · subst ev
    have rv' := rv
    cases rv' with
    | cons ru rn =>
      cases rn
      rename_i u us'
      obtain rfl : u = Value.ref z.a := ru
      have P1 := I1.pin p (List.mem_append_left _ hp)
      have hpin : PinOk X.stack H1 s1 p := ⟨P1.1, P1.2.1, fun hm => (List.mem_cons.mp (I1.stkSub p.1 hm)).elim P1.2.2.1 P1.2.2.2.1, P1.2.2.2.2⟩
      have bt := hb fd FD s1 [.ref z.a] (by rw [← hK]; exact I1.kIn) rfl
      have env0 : Env0 X.prog X.w T.K X.mg X.base X.A X.stack s1 H1 := by rw [← hK]; exact I1.env0
      refine wpAny_call (codeAny_mono (FO.run X.A X.stack s1 H1 ⟨[.ref z.a], []⟩ Q p z fs w1 S1 hr hpin hx hcn env0 (by rw [hx.at_]; exact bt) r1 z1 q1) fun r s' hq => ?_)
      cases r with
      | error e => exact passes_call tk (fun _ _ _ _ h => h) pins σ H1 s1 e s' I1 hq
      | ok fl =>
        cases fl with
        | ret u => exact I1.after hq
        | next => exact False.elim hq
        | brk => exact False.elim hq
        | cont => exact False.elim hq
/-- isinstance(e, c) where the class says b -/
def eIsX (b : Bool) (f : EX) : EX := fun env S => (f env S).bnd fun x S1 => if isHand x then .ok (.bl b) S1 else .bad
def rIsX (T : Tb) (K : PySem.W.Frag) (z : XC) (cv : Value) (b : Bool) : List V → Hp → VK → Prop := fun xs H Q => ∃ (c : V) (w : Wd) (S : Store) (fs : List D), xs = [.ref z.a, c] ∧ (∀ u, RelV c u → u = cv) ∧ WR (T.at (some z)) w S H ∧ Rep (T.at (some z)) w (.thk 0 fs) (.ref z.a) ∧ Q (.bl b) H
theorem call_isX {p : Addr × Obj} {z : XC} {cv : Value} {b : Bool} (hp : p ∈ X.pn) (hx : XHand T z p) (hK : X.K = T.K) (C : ExC T.K (He.ga T.K (z.c : Str))) (hk : PySem.W.kitOne T.K (.ref (He.ga T.K (z.c : Str))) cv = some b) : CallR X (.builtin "isinstance") (rIsX T X.K z cv b) := by
  intro pins s σ H xs us Q I r h
  obtain ⟨c, w, S, fs, rfl, hcv, wr, hz, q⟩ := h
  cases r with
  | cons rx rr =>
    cases rr with
    | cons rt rr =>
      cases rr
      cases rx
      have ec := hcv _ rt
      subst ec
      obtain ⟨hget, _⟩ := I.pin p (List.mem_append_left _ hp)
      obtain ⟨vs, hv⟩ := hx.fl
      obtain ⟨hz1, hz2⟩ := hx.zc
      have J : ∃ od, PySem.W.InstAt s.heap z.a p.2 (He.ga T.K (z.c : Str)) od := by
        rw [hx.at_] at hget
        have nc : PySem.W.notCls p.2 = true := by unfold PySem.W.notCls; rw [hv] <;> rfl
        cases hd : z.dx with
        | none => exact ⟨none, hget, hz1, nc, by rw [hz2, hd]; trivial⟩
        | some dd =>
          rcases (hand_inv hz).2 with ⟨q2, _⟩ | ⟨d2, gs, q2, q3, _⟩
          · rw [hd] at q2; cases q2
          · rw [hd] at q2
            cases q2
            obtain ⟨o, ho⟩ := objOk_get (I.hok _ _ (wr.sub _ _ q3))
            exact ⟨some o, hget, hz1, nc, by rw [hz2, hd]; exact ho⟩
      obtain ⟨od, J⟩ := J
      obtain ⟨gt, hgt⟩ := C.gt
      exact PySem.W.kia_one (PySem.W.kitx_exc (od := od) C.cl C.ga hgt C.sb C.ca C.sp C.tk C.mr) (by rw [← hK]; exact I.kIn) J hk (fun y => nomatch y) fun tk => ⟨.bl b, H, I.kept (t' := tk) fun _ _ y => y, rfl, q⟩
theorem ie_isX {q : Pos} {p : Addr × Obj} {z : XC} {Tt : Ty} {k : Bool} (hp : p ∈ X.pn) (hx : XHand T z p) (hK : X.K = T.K) (C : ExC T.K (He.ga T.K (z.c : Str))) (hk : PySem.W.kitOne T.K (.ref (He.ga T.K (z.c : Str))) (tyV' T.K Tt) = some k) (hg : Gl X "isinstance") (hn : X.mg "isinstance" = none)
    (ha : IE (T.at (some z)) E00 X a f) (hb : IsTyE T X b Tt) (he : starEach (a :: [b]) X.env = (false, eval a X.env) :: starEach [b] X.env := by rfl) (hpl : (backTo pos (starEach [b] X.env)).any (·.1) = false := by rfl) (he2 : starEach [b] X.env = (false, eval b X.env) :: starEach [] X.env := by rfl) :
    IE (T.at (some z)) E00 X (.Call (.Name "isinstance" q) [a, b] [] pos) (eIsX k f) :=
  PE.mono (pe_callB (call_isX hp hx hK C hk) hg hn (by decide +kernel) (pa_cons ha (pa_cons hb pa_nil he2) he) (by decide +kernel) (by decide +kernel) he hpl) fun σ H Q ⟨w, env, S, r, e, qq⟩ => ⟨w, env, S, r, e, (RP.bnd qq).mono (fun d S1 h1 w1 H1 x l1 r1 p1 => by
    by_cases hh : isHand d = true
    · rw [if_pos hh] at h1
      obtain ⟨fs, rfl, rfl⟩ := hand_rep hh p1
      refine ⟨_, w1, S1, fs, rfl, ?_, r1, p1, h1 w1 H1 _ l1 r1 (.bl _)⟩
      cases Tt with
      | b n => exact fun u hu => hu
      | o c => exact fun u hu => hu
    · rw [if_neg hh] at h1
      exact (show False from h1).elim) fun _ _ _ x => x⟩
end Ro
end
section
set_option Elab.async false
set_option linter.all false
set_option maxRecDepth 100000
set_option maxHeartbeats 4000000
namespace Ro
open PySem PySem.Spec PyProof.Rows L2
variable {T : Tb} {E : XK} {X : Cx} {a b c e : Expr} {es : List Expr} {f g h : EX} {fa ga fk : AX} {pos : Pos}
theorem toPys_map : ∀ l : List D, toPys l = l.map toPy
  | [] => rfl
  | x :: l => by rw [List.map_cons, ← toPys_map l]; rfl
/-- data that the lists' methods look at -/
def shpL (l : List D) (y : D) : Bool := l.all (plN 8) && (plN 8 y && (SeqAt.shaped (.list (toPys l)) && SeqAt.shaped (toPy y)))
def idxOfD (x y : D) : Option D := match x with
  | .lst l => if shpL l y then (l.findIdx? fun z => pyEq z y).map fun j => .int (j : Nat) else none
  | _ => none
def cntD (x y : D) : Option D := match x with
  | .lst l => if shpL l y then some (.int (l.countP fun z => pyEq z y : Nat)) else none
  | _ => none
/-- a method's promise by what it does to values -/
def rMD (T : Tb) (op : D → D → Option D) : V → List V → Hp → VK → Prop := fun x xs H Q => ∃ w d e r S y, xs = [y] ∧ WR T w S H ∧ Rep T w d x ∧ Rep T w e y ∧ op d e = some r ∧ ∀ w' H' z, w.le w' → WR T w' S H' → Rep T w' r z → Q z H'
theorem eqv_at {l : List D} {y : D} (h1 : l.all (plN 8) = true) (h2 : plN 8 y = true) {m : Nat} {z : PyData} (h : (toPys l)[m]? = some z) : ∃ d, l[m]? = some d ∧ PyData.eqv z (toPy y) = pyEq d y := by
  rw [toPys_map, List.getElem?_map] at h
  cases e : l[m]? with
  | none => rw [e] at h; cases h
  | some d =>
    rw [e] at h
    cases h
    exact ⟨d, rfl, eqv_py 8 d y (List.all_eq_true.mp h1 d (List.mem_of_getElem? e)) h2⟩
theorem mt_idxD (hK : X.K = T.K) (hu : X.A.units + 65 < cLine) : MtR X "list.index" (rMD T idxOfD) := fun pins s σ H x xs v us Q I rx rxs h => by
  obtain ⟨w, d, e, r, S, y, rfl, wr, p1, p2, hop, q⟩ := h
  unfold idxOfD at hop
  split at hop
  · rename_i l
    split at hop
    · rename_i hs
      unfold shpL at hs
      simp only [Bool.and_eq_true] at hs
      obtain ⟨h1, h2, h3, h4⟩ := hs
      cases hj : l.findIdx? fun z => pyEq z e with
      | none => rw [hj] at hop; cases hop
      | some j =>
        rw [hj] at hop
        cases hop
        obtain ⟨hlt, e1, e2⟩ := List.findIdx?_eq_some_iff_getElem.mp hj
        have hD : Dp X.K H x (.list (toPys l)) := by rw [hK]; exact dp_of wr 9 (.lst l) x h1 p1
        have hE : Dp X.K H y (toPy e) := by rw [hK]; exact dp_of wr 8 e y h2 p2
        cases p1 with
        | lst q1 q2 =>
          have hg : (toPys l)[j]? = some (toPy l[j]) := by rw [toPys_map, List.getElem?_map, List.getElem?_eq_getElem hlt]; rfl
          refine mt_indexD hu pins s σ H _ _ v us Q I rx rxs ⟨_, y, toPy e, toPys l, j, toPy l[j], rfl, rfl, hD, hE, h3, h4, hg, ?_, fun m z' hm hz => ?_, q w H _ (Wd.le.refl _) wr (.int _)⟩
          · rw [eqv_py 8 _ e (List.all_eq_true.mp h1 _ (List.getElem_mem hlt)) h2]
            exact e1
          · obtain ⟨d', k1, k2⟩ := eqv_at h1 h2 hz
            rw [k2]
            have := e2 m hm
            obtain ⟨_, k3⟩ := List.getElem?_eq_some_iff.mp k1
            rw [← k3]
            simpa using this
    · cases hop
  · cases hop
theorem mt_cntD (hK : X.K = T.K) (hu : X.A.units + 65 < cLine) : MtR X "list.count" (rMD T cntD) := fun pins s σ H x xs v us Q I rx rxs h => by
  obtain ⟨w, d, e, r, S, y, rfl, wr, p1, p2, hop, q⟩ := h
  unfold cntD at hop
  split at hop
  · rename_i l
    split at hop
    · rename_i hs
      unfold shpL at hs
      simp only [Bool.and_eq_true] at hs
      obtain ⟨h1, h2, h3, h4⟩ := hs
      cases hop
      have hE : Dp X.K H y (toPy e) := by rw [hK]; exact dp_of wr 8 e y h2 p2
      cases p1 with
      | @lst _ a vs q1 q2 =>
        cases rx
        cases rxs with
        | cons ry rt =>
          rename_i uy ut
          cases rt
          have hA : DpAll X.K H vs (toPys l) := by rw [hK]; exact dpAll_of wr 8 l vs h1 q2
          obtain ⟨bs, r1⟩ := Dp.reads I (toPy e) y uy hE ry
          have hxs : PyData.canLayAll0 (toPys l) = true := SeqAt.canLay_of_shaped h3
          obtain ⟨its, rv, ⟨⟨cls, dd, data, sls⟩, n, ho, hc, hdn, hdt⟩, hlen⟩ := I.list (show SqL X.K H a vs from .inl (.inl (wr.sub _ _ q1)))
          simp only at hc hdt
          subst hc hdt
          obtain ⟨as, k4⟩ := Dp.readsAll I (toPys l) _ its hA rv
          have hroom : X.A.units + 1 + min (PyData.depthAll (toPys l)) (toPy e).depth < cLine := room_in_shaped h4 hu
          have hmap : its.map (SeqAt.readOf s.heap) = toPys l := SeqAt.readsAll_map (toPys l) its as hxs k4
          have hcnt : its.toArray.toList.countP (fun u => PyData.eqv (SeqAt.readOf s.heap u) (toPy e)) = l.countP fun z => pyEq z e := by
            have e1 : its.countP (fun u => PyData.eqv (SeqAt.readOf s.heap u) (toPy e)) = (its.map (SeqAt.readOf s.heap)).countP fun z => PyData.eqv z (toPy e) := by rw [List.countP_map]; rfl
            show its.countP _ = _
            rw [e1, hmap, toPys_map, List.countP_map]
            refine List.countP_congr fun d hd => ?_
            show PyData.eqv (toPy d) (toPy e) = true ↔ _
            rw [eqv_py 8 d e (List.all_eq_true.mp h1 d hd) h2]
          refine call_meets PySem.F.slot_list_count ⟨_, ho, rfl⟩ PySem.F.entry_list_count (PySem.F.args_list_count_2 _ _)
            (SeqAt.list_countAt a its.toArray n dd sls uy fun u => PyData.eqv (SeqAt.readOf s.heap u) (toPy e)) ⟨ho, SeqAt.items_eqAt (vs := its.toArray) (show ReadsAll s.heap its.toArray.toList (toPys l) as from k4) r1 hxs (SeqAt.canLay_of_shaped h4) hroom, ?_⟩
          refine ⟨.int (l.countP fun z => pyEq z e : Nat), H, I.tok _, ⟨s.toks, ?_⟩, q w H _ (Wd.le.refl _) wr (.int _)⟩
          rw [hcnt]
    · cases hop
  · cases hop
/-- o.m(x) by values -/
def eM1 (tn : String) (op : D → D → Option D) (a b : EX) : EX := fun env S => (a env S).bnd fun x S1 => if tyD x S1 = some (.b tn) then (b env S1).bnd fun y S2 => lift (op x y) S2 else .bad
theorem ie_index {apos : Pos} (hK : X.K = T.K) (hu : X.A.units + 65 < cLine) (ho : IE T E X a f) (hb : IE T E X b g) (hbase : attributeBase a "index" X.env (eval a X.env) = eval a X.env := by rfl)
    (hfew : ((backTo pos (starEach [b] X.env)).all (fun x => !x.1) && (backToKw pos (keywordEach [] X.env)).all (fun x => x.1.isSome)
      && decide (([b]).length + ([] : List Keyword).length + (if ([] : List Keyword).isEmpty then 0 else 1) < 30)) = true := by rfl)
    (hline : (apos.endLine == pos.line) = true := by rfl) (hs : starEach [b] X.env = (false, eval b X.env) :: starEach [] X.env := by rfl) (hpl : (backTo pos (starEach [] X.env)).any (·.1) = false := by rfl) :
    IE T E X (.Call (.Attribute a "index" apos) [b] [] pos) (eM1 "list" idxOfD f g) :=
  PE.mono (pe_bm PySem.F.plainAttrs_list PySem.F.slot_list_index PySem.F.type_list_index (mt_idxD hK hu) ho (pa_cons hb pa_nil hs) hbase hfew hline hs hpl) fun σ H Q ⟨w, env, S, r, e, q⟩ => ⟨w, env, S, r, e, (RP.bnd q).mono (fun d S1 h1 w1 H1 x l1 r1 p1 => by
    by_cases ht : tyD d S1 = some (.b "list")
    · rw [if_pos ht] at h1
      refine ⟨by rw [hK]; exact tyV_list r1 p1 ht, w1, env, S1, r1, e.mono l1, (RP.bnd h1).mono (fun y S2 h2 w2 H2 yv l2 r2 p2 => ?_) fun _ _ _ x => x.le l1⟩
      cases z : idxOfD d y with
      | none => rw [z] at h2; exact (show False from h2).elim
      | some v =>
        rw [z] at h2
        exact ⟨w2, d, y, v, S2, yv, rfl, r2, p1.mono l2, p2, z, fun w3 H3 u l3 => h2 w3 H3 u ((l1.trans l2).trans l3)⟩
    · rw [if_neg ht] at h1
      exact (show False from h1).elim) fun _ _ _ x => x⟩
theorem ie_count {apos : Pos} (hK : X.K = T.K) (hu : X.A.units + 65 < cLine) (ho : IE T E X a f) (hb : IE T E X b g) (hbase : attributeBase a "count" X.env (eval a X.env) = eval a X.env := by rfl)
    (hfew : ((backTo pos (starEach [b] X.env)).all (fun x => !x.1) && (backToKw pos (keywordEach [] X.env)).all (fun x => x.1.isSome)
      && decide (([b]).length + ([] : List Keyword).length + (if ([] : List Keyword).isEmpty then 0 else 1) < 30)) = true := by rfl)
    (hline : (apos.endLine == pos.line) = true := by rfl) (hs : starEach [b] X.env = (false, eval b X.env) :: starEach [] X.env := by rfl) (hpl : (backTo pos (starEach [] X.env)).any (·.1) = false := by rfl) :
    IE T E X (.Call (.Attribute a "count" apos) [b] [] pos) (eM1 "list" cntD f g) :=
  PE.mono (pe_bm PySem.F.plainAttrs_list PySem.F.slot_list_count PySem.F.type_list_count (mt_cntD hK hu) ho (pa_cons hb pa_nil hs) hbase hfew hline hs hpl) fun σ H Q ⟨w, env, S, r, e, q⟩ => ⟨w, env, S, r, e, (RP.bnd q).mono (fun d S1 h1 w1 H1 x l1 r1 p1 => by
    by_cases ht : tyD d S1 = some (.b "list")
    · rw [if_pos ht] at h1
      refine ⟨by rw [hK]; exact tyV_list r1 p1 ht, w1, env, S1, r1, e.mono l1, (RP.bnd h1).mono (fun y S2 h2 w2 H2 yv l2 r2 p2 => ?_) fun _ _ _ x => x.le l1⟩
      cases z : cntD d y with
      | none => rw [z] at h2; exact (show False from h2).elim
      | some v =>
        rw [z] at h2
        exact ⟨w2, d, y, v, S2, yv, rfl, r2, p1.mono l2, p2, z, fun w3 H3 u l3 => h2 w3 H3 u ((l1.trans l2).trans l3)⟩
    · rw [if_neg ht] at h1
      exact (show False from h1).elim) fun _ _ _ x => x⟩
end Ro
end
section
set_option Elab.async false
set_option linter.all false
set_option maxRecDepth 100000
set_option maxHeartbeats 4000000
namespace Ro
open PySem PySem.Spec PyProof.Rows L2
/-- the ends of a clause's suite: the name goes -/
def offN (i : Nat) (D : Ends) : Ends := { nx := fun σ' H' => D.nx (σ'.set i none) H', rt := D.rt, bk := fun σ' H' => D.bk (σ'.set i none) H', ct := fun σ' H' => D.ct (σ'.set i none) H' }
/-- what the clauses wish, the one after the other -/
def wAll (K : PySem.W.Frag) (i : Nat) (Wout : WX) (D : Ends) : List (Value × (Addr → Value → Option Addr → TS)) → WX
  | [] => Wout
  | (c, ts) :: r => fun cls d σ H => ∃ b, PySem.W.exmOne K cls c = some b ∧ (b = true → ∀ a, H a = none → ts a cls d (offN i D) (σ.set i (some (.ref a))) H) ∧ (b = false → wAll K i Wout D r cls d σ H)
inductive HdA (X : Cx) (n : Str) : List ExceptHandler → List (Value × (Addr → Value → Option Addr → TS)) → Prop
  | nil : HdA X n [] []
  | cons {x : Str} {c : Value} {ts : Addr → Value → Option Addr → TS} {b₀ : Stmt} {suite : List Stmt} {np pos' : Pos} {hds : List ExceptHandler} {l : List (Value × (Addr → Value → Option Addr → TS))} (hc : Names X x c)
      (hsu : ∀ (a : Addr) (oe : Obj) (cls : Value) (d : Option Addr) (pn : List (Addr × Obj)), Zc cls d oe → (∃ vs, oe.data = .fields vs) → PSs (X.suite a ((a, oe) :: pn)) (b₀ :: suite) (ts a cls d)) (r : HdA X n hds l) :
      HdA X n (.ExceptHandler (some (.Name x np)) (some n) (b₀ :: suite) pos' :: hds) ((c, ts) :: l)
section
variable {X : Cx} {n : Str} {i : Nat} {body : List Stmt} {h₀ : ExceptHandler} {hds : List ExceptHandler} {l : List (Value × (Addr → Value → Option Addr → TS))} {pos : Pos} {tb : WX → TS} {Wout : WX}
theorem ps_try_all (hst : X.stack = X.env :: X.outer) (hfm : X.env.frame = some X.env.locals) (hN : X.N.Nodup) (hi : X.N[i]? = some n) (hln : X.env.kindOf n = some .local) (tk : Takes X Wout)
    (hb : ∀ (W : WX) (pn : List (Addr × Obj)) (xe : Value → Shared → Prop), Takes (X.tr pn xe) W → PassesOwn (model X.prog X.w) X.A X.env xe → PSs (X.tr pn xe) body (tb W))
    (hh : HdA X n (h₀ :: hds) l) : PS X (.Try body (h₀ :: hds) [] [] pos) (fun D σ H => tb (wAll X.K i Wout D l) D σ H) := by
  constructor
  intro pins s σ H D I h
  have okX := I.ok
  have frames : X.A.frames = some (X.env :: X.outer) := by rw [okX.frames, hst]
  have locN : Loc X.env.scope n := Or.inl hln
  apply wpAny_Try_except
  refine wpAny_mono ((hb (wAll X.K i Wout D l) (X.pn ++ pins) (fun e s1 => wpAny (model X.prog X.w) X.A (noteFrame e X.env) (fun _ s2 => wpAny (model X.prog X.w) X.A (setFlight e none) (fun _ s3 =>
    wpAny (model X.prog X.w) X.A (handleBy e X.env (h₀ :: hds)) (SP X pins D) X.xe s3) X.xe s2) X.xe s1) (fun u s' caught => ?_) PassesOwn.looking).run [] s σ H D (I.toTry _) h) (fun f s1 ended => ?_) (fun e s1 he => he)
  · -- caught
    obtain ⟨a, B, sI, pins', σ', H', cls, d, rfl, J', nb, up, sky, na, os, ag, wish⟩ := caught
    have J : Inv X pins σ' H' sI := J'.ofTry okX
    have sky1 : Sky B (X.env :: X.outer) a (Zc cls d) X.env.locals s'.heap := by rw [← hst]; exact sky
    show wpAny (model X.prog X.w) X.A (noteFrame (.ref a) X.env) _ _ _
    refine Sky.land Zc.steady frames hfm sky1 fun h3 fl3 up3 => ?_
    have J3 : Inv X pins σ' H' { s' with heap := h3 } := J.landed nb fl3.1 (up.trans up3) os ag
    obtain ⟨oe3, vs3, he3, hz3, hd3⟩ := fl3.there
    have apart : ∀ {h : Heap} {o : Obj} {vs : Array Value}, h.FunFrames B (X.env :: X.outer) → h.get? a = some o → o.data = .fields vs → a ∉ frs (X.env :: X.outer) := by
      intro h o vs ff e dd hm
      obtain ⟨_, o', e', hnf⟩ := ff.mem hm
      rw [e] at e'
      cases e'
      exact hnf _ dd
    have nfr := apart fl3.2.2.1 he3 hd3
    have neL : a ≠ X.env.locals := fun y => nfr (List.mem_filterMap.mpr ⟨X.env, List.mem_cons_self, by rw [hfm, y]⟩)
    have notF : a ∉ X.fs := by
      intro hm
      obtain ⟨e, he, q⟩ := List.mem_filterMap.mp hm
      exact nfr (List.mem_filterMap.mpr ⟨e, List.mem_cons_of_mem _ he, q⟩)
    have S3 := J3.suite he3 hd3 na neL notF
    have run : ∀ {hs : List ExceptHandler} {m : List (Value × (Addr → Value → Option Addr → TS))}, HdA X n hs m → wAll X.K i Wout D m cls d σ' H' →
        wpAny (model X.prog X.w) X.A (handleBy (.ref a) X.env hs) (SP X pins D) X.xe { s' with heap := h3 } := by
      intro hs m hk
      induction hk with
      | nil =>
        intro ww
        apply wpAny_handleBy_nil
        obtain ⟨k1, k2, k3, oe, vs, T', oT, ts', he, hz, hd, h1, hr⟩ := id fl3
        unfold PySem.passOn
        refine wpAny_bind (wpAny_field he hd h1 ?_)
        rw [if_neg (show ¬ ((Value.ref T' == Value.none) = true) from by simp)]
        have last : wpAny (model X.prog X.w) X.A (setFlight (.ref a) X.env.frame) (fun _ s4 => wpAny (model X.prog X.w) X.A (throw (.ref a) : Sem Flow) (SP X pins D) X.xe s4) X.xe { s' with heap := h3 } := by
          rw [hfm]
          refine HandSPX.setFlight_upZ fl3 fun h4 hh4 up4 => wpAny_throw (tk _ _ ?_)
          exact ⟨a, B, sI, pins, σ', H', cls, d, rfl, J, nb, (up.trans up3).trans up4, Or.inr (Or.inr (by rw [hst]; exact hh4)), na, os, ag, ww⟩
        first
          | exact wpAny_bind (wpAny_pure (wpAny_bind last))
          | exact wpAny_bind last
      | @cons x c ts b₀ suite np pos' hds2 l2 hc hsu r ih =>
        intro ww
        obtain ⟨b, hb1, hyes, hno⟩ := ww
        refine wpAny_handleBy_cons (codeAny_handlers_test ?_) (by intro q; cases q)
        have LT : PySem.W.Looks (model X.prog X.w) h3 (typeOf (.ref a)) cls := fun A Q E s k q => wpAny_typeOf_ref (k _ _ he3) (by rw [hz3.1]; exact q)
        have LM := PySem.W.exm_one (M := model X.prog X.w) (J3.kIn) LT hb1
        have asked : ∀ {Q : Value → Shared → Prop} {E : Value → Shared → Prop}, Q c { s' with heap := h3 } → wpAny (model X.prog X.w) (X.A.mark (some (.ref a))) (eval (.Name x np) X.env) Q E { s' with heap := h3 } := by
          intro Q E q
          obtain ⟨hg, hdbg, hm | ⟨hm, hv, hnn⟩⟩ := hc
          · exact ld_glob (X := X.suite a ((a, oe3) :: (X.pn ++ pins))) S3 hg hm q hdbg
          · exact ld_blt (X := X.suite a ((a, oe3) :: (X.pn ++ pins))) S3 hg hm hv q hnn hdbg
        refine asked (LM.here ?_)
        cases b with
        | true =>
          apply codeAny_handlers_suite_as
          refine HandSPX.lands_againZ fl3 fun h4 fl4 up4 => ?_
          have J4 : Inv X pins σ' H' { s' with heap := h4 } := J.landed nb fl4.1 ((up.trans up3).trans up4) os ag
          obtain ⟨oe4, vs4, he4, hz4, hd4⟩ := fl4.there
          have S4 := J4.suite he4 hd4 na neL notF
          refine store_ok (X := X.suite a ((a, oe4) :: (X.pn ++ pins))) (v := .ref a) S4 hN hi locN rfl (fun s5 S5 => ?_) (Or.inr hln)
          refine wpAny_mono ((hsu a oe4 cls d (X.pn ++ pins) hz4 ⟨_, hd4⟩).run [] s5 _ H' _ S5 (hyes rfl a na)) (fun f s6 q6 => ?_) (fun _ _ y => y.elim)
          have off : ∀ {σ6 : L2.St} {H6 : Hp} {Q : Shared → Prop}, Inv (X.suite a ((a, oe4) :: (X.pn ++ pins))) [] σ6 H6 s6 → (∀ s7, Inv X pins (σ6.set i none) H6 s7 → Q s7) →
              wpAny (model X.prog X.w) X.A (do bindName X.env n .none; unbindBehindTheSuite X.env n pos') (fun _ s7 => Q s7) X.xe s6 := by
            intro σ6 H6 Q S6 hq
            exact gone_ok (S6.unsuite okX) hN hi hln hq
          cases f with
          | next =>
            obtain ⟨_, _, S6, q7⟩ := q6
            exact off S6 fun s7 J7 => ⟨_, _, J7, q7⟩
          | brk =>
            obtain ⟨_, _, S6, q7⟩ := q6
            exact off S6 fun s7 J7 => ⟨_, _, J7, q7⟩
          | cont =>
            obtain ⟨_, _, S6, q7⟩ := q6
            exact off S6 fun s7 J7 => ⟨_, _, J7, q7⟩
          | ret u =>
            obtain ⟨_, _, _, S6, r6, q7⟩ := q6
            exact off S6 fun s7 J7 => ⟨_, _, _, J7, r6, q7⟩
        | false =>
          show wpAny _ X.A (handleBy (.ref a) X.env hds2) _ _ _
          exact ih (hno rfl)
    exact run hh wish
  · cases f with
    | next =>
      obtain ⟨_, _, J', q⟩ := ended
      exact wpAny_execs_nil ⟨_, _, J'.ofTry okX, q⟩
    | brk =>
      obtain ⟨_, _, J', q⟩ := ended
      exact ⟨_, _, J'.ofTry okX, q⟩
    | cont =>
      obtain ⟨_, _, J', q⟩ := ended
      exact ⟨_, _, J'.ofTry okX, q⟩
    | ret u =>
      obtain ⟨_, _, _, J', r, q⟩ := ended
      exact ⟨_, _, _, J'.ofTry okX, r, q⟩
end
end Ro
end
section
set_option Elab.async false
set_option linter.all false
set_option maxRecDepth 100000
set_option maxHeartbeats 4000000
namespace Ro
open PySem PySem.Spec PyProof.Rows L2 LamX
section
variable {X : Cx} {pins : List (Addr × Obj)} {σ : L2.St} {H HZ : Hp} {s s1 : Shared}
/-- a() in the def that was handed the lambda -/
theorem act_of {Eg : XK} {Ng : List Str} {qg : Str} {sg : Scope} {g f c' : Addr} {cdg pm ctv : Value} {params : Arguments} {body : Expr} {scope : Scope} {k i : Nat} {a : Str} {pn : List (Addr × Obj)} {xe : Value → Shared → Prop} {W : WX} {E : XK} {tb : TE} {p1 p2 : Pos}
    (I : Inv X pins σ H s) (L : LamS X.env.scope scope) (hf : s.heap.get? f = some (PySem.W.kla_obj "<lambda>" (X.env.qual ++ "<lambda>") params body scope (cloFrom X.env.cells scope.names []) pm c' ctv)) (hfn : H f = none) (hfr : f ∉ frs X.stack)
    (hbind : bindArgs (PySem.W.kla_fn "<lambda>" (X.env.qual ++ "<lambda>") params body scope (cloFrom X.env.cells scope.names []) pm (.ref c') ctv) ⟨[], []⟩ = pure [])
    (tk : Takes ((cxOf (L2.CX X.prog X.w) X.prog X.w X.K X.mg X.base Ng qg sg g cdg X.A X.stack s H Eg).tr pn xe) W) (hW : ∀ cls d σ' H', E cls d H' → W cls d σ' H') (hr : RG (k + 1) (X.A.deeper (envOfC qg sg s.heap.objs.size g cdg)))
    (hbody : ∀ (A : Around) (outer : List PySem.Env) (s : Shared) (H : Hp), RG k (A.deeper (lamEnv X scope s.heap.objs.size f c')) → PE (lamCx X A outer s H E scope f c') body tb)
    (hN : Ng[i]? = some a) (hv : Vis sg a) (hd : (a == ("__debug__" : Str)) = false) (hcd : (a == ("__classdict__" : Str)) = false) :
    PE ((cxOf (L2.CX X.prog X.w) X.prog X.w X.K X.mg X.base Ng qg sg g cdg X.A X.stack s H Eg).tr pn xe) (.Call (.Name a p1) [] [] p2)
      (fun σZ HZ Q => σZ[i]? = some (some (.ref f)) ∧ HZ c' = some (CodeO c' (X.env.qual ++ "<lambda>")) ∧ tb σ HZ Q) := by
  constructor
  intro pinsZ sZ σZ HZ Q IZ ⟨hs, hc, ht⟩
  refine wpAny_Call_Name_kw (thn ((pe_var (pos := p1) (i := i) hN hv hd hcd).run pinsZ sZ σZ HZ (fun v H1 => v = .ref f ∧ H1 = HZ) IZ ⟨.ref f, hs, rfl, rfl⟩) fun u s1 ⟨v, H1, I1, r1, q1⟩ => ?_)
  obtain ⟨rfl, rfl⟩ := q1
  obtain rfl : u = Value.ref f := r1
  have still : s1.heap.get? f = some (PySem.W.kla_obj "<lambda>" (X.env.qual ++ "<lambda>") params body scope (cloFrom X.env.cells scope.names []) pm c' ctv) := I1.base.keep f _ hf hfn hfr (fun y => nomatch (show f ∈ ([] : List Addr) from y))
  refine PySem.W.callWith_F0 ⟨_, _, _, _, still⟩ ?_
  have kept : Un (frs X.stack) [] H H1 s.heap s1.heap := I1.base
  obtain ⟨⟨oc, vs, t, hoc, hdc, hvc⟩, _, _⟩ := I1.hok c' _ hc
  have ran : codeAny (model X.prog X.w) (X.A.deeper (envOfC qg sg s.heap.objs.size g cdg)) (.call (.ref f) ⟨[], []⟩) (CR (L2.CX X.prog X.w) (envOfC qg sg s.heap.objs.size g cdg :: X.stack) X.prog X.w H1 s1 Q E) s1 := by
    refine PySem.W.kla_callFunE hr.rm.depth still rfl L.co L.gen rfl ⟨c', oc, vs, t, rfl, hoc, hdc, hvc⟩ ?_
    rw [hbind]
    refine wpAny_pure (wpAny_newFunctionEnv (fun y hy => (L.own y hy).2) (fun y hy => absurd hy (by simp)) (fun h1 hns hsb => ⟨I1.nolimit.fresh _ hsb, ?_⟩) L.kind)
    show codeAny _ _ (.expr body (lamEnv X scope s1.heap.objs.size f c')) _ _
    have grow : ∀ b o, s1.heap.get? b = some o → h1.get? b = some o := fun b o e => hsb.extBut b o (Nat.ne_of_lt (Heap.lt_size e)) (Heap.get?_push_of_some _ e)
    have J : Inv (lamCx X (X.A.deeper (envOfC qg sg s.heap.objs.size g cdg)) (envOfC qg sg s.heap.objs.size g cdg :: X.stack) s1 H1 E scope f c') [] σ H1 { s1 with heap := h1, toks := s1.toks + ([] : List (Str × Value)).length } :=
      lam_start2 I L I1.env0 hr.rm.hd kept hns grow
    refine PySem.W.kla_codeExpr (wpAny_mono ((hbody _ _ s1 H1 (hr.deeper _)).run [] _ _ H1 Q J ht) (fun v s' hq => ?_) fun e s' hq => hq)
    obtain ⟨w', H', J', rv, q⟩ := hq
    exact ⟨w', H', J'.os, J'.bare, J'.base, J'.hok, rv, q⟩
  have out : Passes (L2.CX X.prog X.w) ((cxOf (L2.CX X.prog X.w) X.prog X.w X.K X.mg X.base Ng qg sg g cdg X.A X.stack s H Eg).tr pn xe) E := passes_call tk hW
  refine wpAny_call (codeAny_mono ran fun r s' hq => ?_)
  match r, hq with
  | .error e, hq => exact out pinsZ σZ H1 s1 e s' I1 hq
  | .ok (.ret u), hq => exact I1.after hq
end
/-- a def that calls what it is handed: TT is what it makes of the lambda's reading -/
def Makes (X : Cx) (k : Nat) (Ng : List Str) (qg : Str) (sg : Scope) (g : Addr) (cdg : Value) (bg : List Stmt) (a : Str) (TT : (XK → Hp → VK → Prop) → Hp → VK → Prop) : Prop :=
  ∀ (f c' : Addr) (s : Shared) (H : Hp) (Q : VK) (q : Str) (tl : XK → Hp → VK → Prop), RG k (X.A.deeper (envOfC qg sg s.heap.objs.size g cdg)) →
    (∀ (W : WX) (pn : List (Addr × Obj)) (xe : Value → Shared → Prop) (E : XK) (p1 p2 : Pos), Takes ((cxOf (L2.CX X.prog X.w) X.prog X.w X.K X.mg X.base Ng qg sg g cdg X.A X.stack s H E00).tr pn xe) W → (∀ cls d σ' H', E cls d H' → W cls d σ' H') →
      PE ((cxOf (L2.CX X.prog X.w) X.prog X.w X.K X.mg X.base Ng qg sg g cdg X.A X.stack s H E00).tr pn xe) (.Call (.Name a p1) [] [] p2) (fun σZ HZ Q => σZ[0]? = some (some (.ref f)) ∧ HZ c' = some (CodeO c' q) ∧ tl E HZ Q)) →
    H c' = some (CodeO c' q) → TT tl H Q →
    ∃ t, PSs (cxOf (L2.CX X.prog X.w) X.prog X.w X.K X.mg X.base Ng qg sg g cdg X.A X.stack s H E00) bg t ∧ t { nx := fun _ H' => Q .non H', rt := Q } (L2.start Ng [.ref f]) H
section
variable {X : Cx}
/-- x(lambda: body) -/
theorem lam_call {Ts : List (Addr × Str)} {TT : (XK → Hp → VK → Prop) → Hp → VK → Prop} {x a qg : Str} {g c P : Addr} {k : Nat} {pg : Arguments} {bg : List Stmt} {sg : Scope} {dV kV doc pm cdv ct oc : Value} {an od : Option Addr} {osl : Array (Option Value)} {Ng : List Str}
    {params : Arguments} {body : Expr} {scope : Scope} {t : XK → TE} {p lpos pos : Pos} (hg : Gl X x) (hm : X.mg x = some (.ref g)) (hk : PySem.W.keepIn X.K (.ref g) = true)
    (lk : X.K.lookup g = some ⟨oc, od, .func (PySem.W.fnOf x qg pg bg sg dV kV doc pm an cdv ct), osl⟩) (hcg : PySem.W.codeIn X.K cdv qg = true) (hb : L2.Binds X.K (PySem.W.fnOf x qg pg bg sg dV kV doc pm an cdv ct) [a] []) (Sg : FnScope Ng [a] sg) (hNg : Ng[0]? = some a) (hva : Vis sg a)
    (hG : Makes X (k + 1) Ng qg sg g cdv bg a TT)
    (TB : TabB X.base X.mg c P) (hcode : X.env.code = .ref c) (hmT : (P, X.env.qual ++ "<lambda>") ∈ Ts) (hu : ∀ p ∈ Ts, p.1 = P → p.2 = X.env.qual ++ "<lambda>") (hr : RG (k + 2) X.A) (L : LamS X.env.scope scope) (hdef : defaultsOf params X.env = ([], []))
    (hbind : ∀ (q : Str) (cl : List (Str × Addr)) (pm cv ctv : Value), bindArgs (PySem.W.kla_fn "<lambda>" q params body scope cl pm cv ctv) ⟨[], []⟩ = pure [])
    (hbody : ∀ (A : Around) (outer : List PySem.Env) (s : Shared) (H : Hp) (E : XK) (f c' : Addr), RG k (A.deeper (lamEnv X scope s.heap.objs.size f c')) → PE (lamCx X A outer s H E scope f c') body (t E))
    (hx : Takes X fun _ _ _ _ => False) (hdb : (x == ("__debug__" : Str)) = false) (hd : (a == ("__debug__" : Str)) = false) (hcd : (a == ("__classdict__" : Str)) = false) :
    PE X (.Call (.Name x p) [.Lambda params body scope lpos] [] pos) (tLam Ts TT t) := by
  constructor
  intro pins s σ H Q I ⟨hT, h⟩
  refine wpAny_Call_Name_kw (ld_glob I hg hm ?_ hdb)
  refine PySem.W.callWith_K (h₀ := X.base) I.ok.mod.kin hk ?_ (by rfl) (by rfl)
  show wpAny _ _ (spliced ((false, eval (.Lambda params body scope lpos) X.env) :: backTo pos (starEach [] X.env))) _ _ s
  refine Calls.spliced_cons (lam_make2 I TB hcode hmT hu hT hdef (L.has I.ok) fun f c' pm' ctv H1 s' I1 eN T1 hf hfn hfr hco => ?_)
  refine Calls.spliced_nil ⟨I1.kIn, ?_⟩
  have ran : codeAny (model X.prog X.w) X.A (.call (.ref g) ⟨[.ref f], []⟩) (CR (L2.CX X.prog X.w) X.stack X.prog X.w H1 s' Q E00) s' := by
    refine run_ofS (CX := L2.CX X.prog X.w) (N := Ng) (ps := [a]) (us := [.ref f]) (vs := [.ref f]) lk hcg Sg hr.rm I1.env0 (hb s' [.ref f] I1.kIn rfl) (.cons rfl .nil) rfl fun _ => ?_
    exact hG f c' s' H1 Q (X.env.qual ++ "<lambda>") (fun E H' Q' => t E σ H' Q') (hr.deeper _) (fun W pn xe E p1 p2 tk hW => act_of (i := 0) I1 L hf hfn hfr (hbind _ _ _ _ _) tk hW (hr.deeper _) (fun A outer s H hr2 => hbody A outer s H E f c' hr2) hNg hva hd hcd) hco (h H1 eN T1)
  refine wpAny_call (codeAny_mono ran fun r s2 hq => ?_)
  match r, hq with
  | .error e, hq => exact passes_call hx (fun _ _ _ _ h => h) pins σ H1 s' e s2 I1 hq
  | .ok (.ret u), hq => exact I1.after hq
end
end Ro
end
section
set_option Elab.async false
set_option linter.all false
set_option maxRecDepth 100000
set_option maxHeartbeats 4000000
namespace Ro
open PySem PySem.Spec PyProof.Rows L2 LamX
variable {T : Tb} {E : XK} {X : Cx}
theorem lookup_none_ok {w : Wd} {S : Store} {H : Hp} {dd : Addr} {gs : List (Str × V)} (r : WR T w S H) (hd : H dd = some (.xd gs)) : ∃ w', w.le w' ∧ WR T w' S H ∧ w'.G dd = some (.xd gs) := by
  cases z : w.G dd with
  | some o =>
    have e := r.sub _ _ z
    rw [hd] at e
    cases e
    exact ⟨w, Wd.le.refl _, r, z⟩
  | none =>
    have l : w.le ⟨upd w.G dd (.xd gs), w.am, w.hid⟩ := ⟨⟨fun b u e => by show upd w.G dd (.xd gs) b = some u; rw [upd_ne (ne_of_none e z)]; exact e, [], by simp⟩, rfl⟩
    refine ⟨_, l, ⟨fun b u e => ?_, r.len, r.nd, r.has, fun m c1 b h1 h2 h3 => ?_, fun m c1 b h1 h2 => (r.cell m c1 b h1 h2).keep l.tosb fun _ e => e, r.tabs, r.hn, fun q hq => ?_, fun b ps e => ?_⟩, upd_same⟩
    · have e : upd w.G dd (.xd gs) b = some u := e
      by_cases h : b = dd
      · subst h
        rw [upd_same] at e
        rw [← e]
        exact hd
      · rw [upd_ne h] at e
        exact r.sub _ _ e
    · show upd w.G dd (.xd gs) b = none
      rw [upd_ne (fun y => ?_)]
      · exact r.out m c1 b h1 h2 h3
      · subst y
        have hc := r.cell m c1 _ h1 h2
        cases c1 with
        | dead => exact h3 rfl
        | lst l => obtain ⟨_, k1, _⟩ := hc; rw [hd] at k1; cases k1
        | dct l => obtain ⟨_, k1, _⟩ := hc; rw [hd] at k1; cases k1
        | ins c fs => obtain ⟨_, _, k1, _⟩ := hc; rw [hd] at k1; cases k1
        | dcT l => obtain ⟨_, k1, _⟩ := hc; rw [hd] at k1; cases k1
    · obtain ⟨y1, y2, us, y3, y4⟩ := r.hd q hq
      refine ⟨?_, y2, us, y3, y4.mono l⟩
      show upd w.G dd (.xd gs) q.1 = none
      rw [upd_ne (fun y => by rw [y, hd] at y3; cases y3)]
      exact y1
    · have e : upd w.G dd (.xd gs) b = some (.tbl ps) := e
      by_cases h : b = dd
      · rw [h, upd_same] at e
        cases e
      · rw [upd_ne h] at e
        exact r.nt b ps e
/-- what a clause's suite makes of the exception, by its class -/
def tsX (T : Tb) (sx : String → ES) (cns : List String) (a : Addr) (cls : Value) (d : Option Addr) : TS := fun D σ H => ∃ cn ∈ cns, cls = .ref (He.ga T.K (cn : Str)) ∧ tIs (T.at (some ⟨a, d, cn⟩)) E00 (sx cn) D σ H
theorem suite_of {sts : List Stmt} {sx : String → ES} {cns : List String} {a : Addr} {oe : Obj} {cls : Value} {d : Option Addr} {pn : List (Addr × Obj)} (hz : Zc cls d oe) (hf : ∃ vs, oe.data = .fields vs)
    (h : ∀ cn ∈ cns, ∀ (z : XC) (p : Addr × Obj), XHand T z p → z.c = cn → ISs (T.at (some z)) E00 (X.suite z.a (p :: pn)) sts (sx cn)) : PSs (X.suite a ((a, oe) :: pn)) sts (tsX T sx cns a cls d) := by
  refine ⟨fun pins s σ H D I q => ?_⟩
  obtain ⟨cn, hcn, rfl, q⟩ := q
  exact (h cn hcn ⟨a, d, cn⟩ (a, oe) ⟨rfl, hz, hf⟩ rfl).run pins s σ H D I q
/-- the clause that takes an exception of the class cls -/
def pickF (K : PySem.W.Frag) (cls : Value) : List (Value × (String → ES)) → Option (String → ES)
  | [] => none
  | (c, sx) :: r => match PySem.W.exmOne K cls c with
    | some true => some sx
    | some false => pickF K cls r
    | none => none
def clsL (T : Tb) (cns : List String) (cl : List (Value × (String → ES))) : List (Value × (Addr → Value → Option Addr → TS)) := cl.map fun p => (p.1, tsX T p.2 cns)
theorem wAll_pick {cns : List String} {cn : String} (hcn : cn ∈ cns) {i : Nat} {Wout : WX} {D : Ends} {d : Option Addr} {σ : St} {H : Hp} {sx : String → ES} :
    ∀ {cl : List (Value × (String → ES))}, pickF T.K (.ref (He.ga T.K (cn : Str))) cl = some sx → (∀ a, H a = none → tIs (T.at (some ⟨a, d, cn⟩)) E00 (sx cn) (offN i D) (σ.set i (some (.ref a))) H) → wAll T.K i Wout D (clsL T cns cl) (.ref (He.ga T.K (cn : Str))) d σ H
  | [], h, _ => by cases h
  | (c, sy) :: r, h, k => by
    unfold pickF at h
    show ∃ b, _
    split at h
    · rename_i e
      cases h
      exact ⟨true, e, (fun _ a ha => ⟨cn, hcn, rfl, k a ha⟩), fun z => by cases z⟩
    · rename_i e
      exact ⟨false, e, (fun z => by cases z), fun _ => wAll_pick hcn h k⟩
    · cases h
theorem takes_len {W : WX} (tk : Takes X W) : Takes X fun c d σ H => σ.length = X.N.length → W c d σ H := fun u s' ⟨a, B, sI, pins, σ, H, cls, d, e, I, nb, up, sky, na, os, ag, w⟩ =>
  tk u s' ⟨a, B, sI, pins, σ, H, cls, d, e, I, nb, up, sky, na, os, ag, w I.len⟩
/-- what is wished of an exception: the suites say what hp says -/
def EchS (T : Tb) (hp : String → List D → Option D) (cns : List String) (Q : VK) : XK := fun cls d H' => ∃ cn ∈ cns, ∃ (w : Wd) (fs : List D) (r : D) (S' : Store), cls = .ref (He.ga T.K (cn : Str)) ∧ WR T w S' H' ∧ XRep T w H' cn fs cls d ∧ hp cn fs = some r ∧
  ∀ w2 H2 v, w.le w2 → WR T w2 S' H2 → Rep T w2 r v → Q v H2
def TTsaid (T : Tb) (hp : String → List D → Option D) (cns : List String) (told : Str) : (XK → Hp → VK → Prop) → Hp → VK → Prop := fun tl H Q => tl (EchS T hp cns Q) H fun v H' => 2 ≤ sizeLine ∧ ∀ p, H' p = none → Q (.ref p) (upd H' p (.tup [.str told, v]))
theorem said_makes (hK : X.K = T.K) (hx0 : T.xc = none) {k i j0 kk : Nat} {Ng : List Str} {qg a e told : Str} {sg : Scope} {g : Addr} {cdg : Value} {p0 p1 p2 p3 p4 p5 : Pos} {h₀ : ExceptHandler} {hds : List ExceptHandler} {cns : List String} {cl : List (Value × (String → ES))} {hp : String → List D → Option D}
    (hN : Ng.Nodup) (hi : Ng[i]? = some e) (hi0 : 0 < i) (hln : (envOfC qg sg 0 g cdg).kindOf e = some .local)
    (hh : ∀ (s : Shared) (H : Hp), RG k (X.A.deeper (envOfC qg sg s.heap.objs.size g cdg)) → HdA (cxOf (L2.CX X.prog X.w) X.prog X.w X.K X.mg X.base Ng qg sg g cdg X.A X.stack s H E00) e (h₀ :: hds) (clsL T cns cl))
    (hnt : ∀ cn fs r, hp cn fs = some r → noThks fs = true → noThk r = true)
    (hpk : ∀ cn ∈ cns, ∃ sx, pickF T.K (.ref (He.ga T.K (cn : Str))) cl = some sx ∧ ∀ fs r S, hp cn fs = some r → sx cn ((List.replicate Ng.length none).set i (some (.thk 0 fs))) S = .ok (.rt r) S) :
    Makes X k Ng qg sg g cdg [.Try [.Return (some (.Tuple [.Constant (.str told) j0 p0, .Call (.Name a p1) [] [] p2] kk p3)) p4] (h₀ :: hds) [] [] p5] a (TTsaid T hp cns told) := by
  intro f c' s H Q q tl hr act hc h
  have h0 : (L2.start Ng [V.ref f])[0]? = some (some (V.ref f)) := rfl
  refine ⟨_, pss_one (ps_try_all (X := cxOf (L2.CX X.prog X.w) X.prog X.w X.K X.mg X.base Ng qg sg g cdg X.A X.stack s H E00) (i := i) (Wout := fun _ _ _ _ => False)
    (tb := fun W D σ H => ∃ Ech : XK, (∀ cls d σ' H', σ'.length = Ng.length → Ech cls d H' → W cls d σ' H') ∧ σ[0]? = some (some (.ref f)) ∧ H c' = some (CodeO c' q) ∧ tl Ech H fun v H' => 2 ≤ sizeLine ∧ ∀ p, H' p = none → D.rt (.ref p) (upd H' p (.tup [.str told, v])))
    rfl rfl hN hi hln LamX.takes0 (fun W pn xe tk _ => ?_) (hh s H hr)), ?_⟩
  · constructor
    intro pins s' σ H D I ⟨Ech, hW, h1, h2, h3⟩
    have hp := act _ pn xe Ech p1 p2 (takes_len tk) fun cls d σ' H' q hl => hW cls d σ' H' hl q
    exact (pss_one (ps_ret (pos := p4) (pe_tup (x1 := kk) (pos := p3) (pa_cons (pe_str (x := told) (j := j0) (pos := p0)) (pa_cons hp pa_nil))))).run pins s' σ H D I ⟨h1, h2, h3⟩
  · refine ⟨EchS T hp cns Q, fun cls d σ' H' hσ hE => ?_, h0, hc, ?_⟩
    · obtain ⟨cn, hcn, w, fs, r, S', rfl, wr, xr, hr, hq⟩ := hE
      obtain ⟨sx, hs1, hs2⟩ := hpk cn hcn
      show wAll X.K i _ _ (clsL T cns cl) _ d σ' H'
      rw [hK]
      refine wAll_pick hcn hs1 fun b hb => ?_
      have hfs : noThks fs = true := by
        rcases xr.2 with ⟨rfl, _⟩ | ⟨_, _, _, _, _, q⟩
        · rfl
        · exact q.noThk hx0
      have cl0 := wr.clean hx0
      have T0 : T = T.at none := by
        cases T
        cases hx0
        rfl
      obtain ⟨w2, l2, wr2, hz⟩ : ∃ w2, w.le w2 ∧ WR T w2 S' H' ∧ Rep (T.at (some ⟨b, d, cn⟩)) w2 (.thk 0 fs) (.ref b) := by
        rcases xr.2 with ⟨rfl, rfl⟩ | ⟨dd, gs, rfl, q1, q2, q3⟩
        · exact ⟨w, Wd.le.refl _, wr, .xc0 (z := ⟨b, none, cn⟩) rfl rfl⟩
        · obtain ⟨w2, l2, wr2, hg⟩ := lookup_none_ok wr q1
          refine ⟨w2, l2, wr2, .xc1 (z := ⟨b, some dd, cn⟩) rfl rfl hg q2 ?_⟩
          have q4 := q3.mono l2
          rw [T0] at q4
          exact q4.at hfs
      have cl2 : Clean S' w2.hid := by rw [l2.hid]; exact cl0
      have wr3 : WR (T.at (some ⟨b, d, cn⟩)) w2 S' H' := by
        rw [T0] at wr2
        exact wr2.at cl2
      have er : ER (T.at (some ⟨b, d, cn⟩)) w2 ((List.replicate Ng.length none).set i (some (.thk 0 fs))) (σ'.set i (some (.ref b))) := by
        have base : ER (T.at (some ⟨b, d, cn⟩)) w2 (List.replicate Ng.length none) σ' := ⟨by rw [List.length_replicate]; exact hσ.symm, fun j y e => by
          rw [List.getElem?_replicate] at e
          split at e <;> cases e⟩
        exact base.set hz i
      refine ⟨w2, _, S', wr3, er, ?_⟩
      rw [hs2 fs r S' hr]
      show ∀ w' H' v, w2.le w' → WR (T.at (some ⟨b, d, cn⟩)) w' S' H' → Rep (T.at (some ⟨b, d, cn⟩)) w' r v → Q v H'
      intro w' H2 v l3 wr4 pr
      have cl4 : Clean S' w'.hid := by rw [l3.hid]; exact cl2
      refine hq w' H2 v (l2.trans l3) ?_ ?_
      · rw [T0]
        exact wr4.at cl4
      · rw [T0]
        exact pr.at (hnt cn fs r hr hfs)
    · exact h
end Ro
end
section
set_option Elab.async false
set_option linter.all false
set_option maxRecDepth 100000
set_option maxHeartbeats 4000000
namespace Ro
open PySem PySem.Spec PyProof.Rows L2 LamX
variable {T : Tb} {E : XK} {X : Cx}
def eSaid (told : Str) (hp : String → List D → Option D) (m : EX) : EX := fun env S => match m env S with
  | .ok d S1 => .ok (.tup [.str told, d]) S1
  | .err c fs S1 => lift (hp c fs) S1
  | .bad => .bad
theorem said_read {told : Str} {hp : String → List D → Option D} {cns : List String} (hcn : ∀ c fs r, hp c fs = some r → c ∈ cns) {m : EX} {σ : St} {H : Hp} {Q : VK} (q : tI T E (eSaid told hp m) σ H Q) : tLam T.tabs (TTsaid T hp cns told) (fun E' => tI T E' m) σ H Q := by
  obtain ⟨w, env, S, r, e, q⟩ := q
  refine ⟨r.tabs, fun H1 eN T1 => ?_⟩
  refine ⟨w, env, S, r.growN eN T1, e, ?_⟩
  unfold eSaid at q
  cases z : m env S with
  | ok d S1 =>
    rw [z] at q
    have q : ∀ w' H' v, w.le w' → WR T w' S1 H' → Rep T w' (.tup [.str told, d]) v → Q v H' := q
    show ∀ w' H' v, w.le w' → WR T w' S1 H' → Rep T w' d v → _
    intro w' H' v l r' p
    refine ⟨by rw [sizeLine_eq]; omega, fun pa hpa => ?_⟩
    obtain ⟨l2, r2⟩ := r'.new hpa (.tup [.str told, v])
    exact q _ _ _ (l.trans l2) r2 (.tup (.inl (.inl upd_same)) (.cons (.str told) (.cons (p.mono l2) .nil)))
  | err c fs S1 =>
    rw [z] at q
    have q : RP (lift (hp c fs) S1) (fun d S' => ∀ w' H' v, w.le w' → WR T w' S' H' → Rep T w' d v → Q v H') (XW T w E) := q
    cases y : hp c fs with
    | none => rw [y] at q; exact (show False from q).elim
    | some d =>
      rw [y] at q
      have q : ∀ w' H' v, w.le w' → WR T w' S1 H' → Rep T w' d v → Q v H' := q
      show ∀ w' H' cls dx, w.le w' → WR T w' S1 H' → XRep T w' H' c fs cls dx → EchS T hp cns Q cls dx H'
      intro w' H' cls dx l r' x
      exact ⟨c, hcn c fs d y, w', fs, d, S1, x.1, r', x, y, fun w2 H2 v l2 => q w2 H2 v (l.trans l2)⟩
  | bad => rw [z] at q; exact (show False from q).elim
theorem OkF.mkL {P : Program} {w : World} {mg : Str → Option Value} {base : Heap} {k : Nat} {d : He.DefD} {ps N : List Str} {body : ES} {fd : FuncData}
    (F : FunD T.K d.name d.qual d.params d.body d.scope (d.dvs T.K) [] (He.fAd T.K d.at_) fd) (Sc : FnScope N ps d.scope)
    (h : ∀ (cdv : Value) (A : Around) (outer : List PySem.Env) (s : Shared) (H : Hp) (E : XK), cdv = .ref (He.codeOf T.K d.at_) → RG k (A.deeper (envOfC d.qual d.scope s.heap.objs.size (He.fAd T.K d.at_) cdv)) →
      ISs T E (cxOf (L2.CX P w) P w T.K mg base N d.qual d.scope (He.fAd T.K d.at_) cdv A outer s H E) d.body body) : OkF T P w mg base (k + 1) d ps (fnM N.length body) := by
  refine ⟨fd, F, ?_⟩
  obtain ⟨oc, od, dV, kV, doc, pm, an, cdv, ct, osl, rfl, lk, hcd, _, _⟩ := F.ex
  obtain ⟨c, hc⟩ := He.codeIn_ref hcd
  have ec : cdv = .ref (He.codeOf T.K d.at_) := by
    rw [He.codeOf_eq lk (show (PySem.W.fnOf d.name d.qual d.params d.body d.scope dV kV doc pm an cdv ct).code = .ref c from hc)]
    exact hc
  refine fnG_of lk hcd Sc (fun vs H Q E h => h.1) fun A outer s H vs Q E hr hsp => ⟨_, h cdv A outer s H E ec hr, ?_⟩
  obtain ⟨hl, w0, ds, S, r, q, hm⟩ := hsp
  refine ⟨w0, _, S, r, er_start q, (RP.bnd hm).mono (fun c S1 h1 => ?_) fun _ _ _ x => x⟩
  cases c with
  | rt d => exact h1
  | nx e => exact fun w' H' σ' l r' q' => h1 w' H' .non l r' .non
  | bk e => exact (show False from h1).elim
  | ct e => exact (show False from h1).elim
/-- the tables of the code objects of the defs tf -/
def TabsB (K : PySem.W.Frag) (mg : Str → Option Value) (base : Heap) (tf : List He.Defn) : Prop := ∀ p ∈ tf, TabB base mg (He.cT K p).1 (He.cT K p).2
theorem TabsB.at_ {K : PySem.W.Frag} {mg : Str → Option Value} {base : Heap} {tf : List He.Defn} (h : TabsB K mg base tf) (p : He.Defn) (hp : p ∈ tf := by decide +kernel) : TabB base mg (He.codeOf K p) (He.tabOf K (He.codeOf K p)) := h p hp
theorem ie_said {x a e told : Str} {k i j0 kk : Nat} {d : He.DefD} {Ng : List Str} {h₀ : ExceptHandler} {hds : List ExceptHandler} {params : Arguments} {body : Expr} {scope : Scope} {p lpos pos p0 p1 p2 p3 p4 p5 : Pos} {cns : List String} {cl : List (Value × (String → ES))} {hp : String → List D → Option D} {m : EX} {c P : Addr}
    (hK : X.K = T.K) (hx0 : T.xc = none) (hg : Gl X x) (hm : X.mg x = some (.ref (He.fAd T.K d.at_))) (hFd : ∃ fd, FunD T.K d.name d.qual d.params d.body d.scope (d.dvs T.K) [] (He.fAd T.K d.at_) fd) (hnm : d.name = x) (hdv : d.dvs T.K = [])
    (hbd : d.body = [.Try [.Return (some (.Tuple [.Constant (.str told) j0 p0, .Call (.Name a p1) [] [] p2] kk p3)) p4] (h₀ :: hds) [] [] p5])
    (hbi : ∀ fd, FunD T.K d.name d.qual d.params d.body d.scope (d.dvs T.K) [] (He.fAd T.K d.at_) fd → L2.Binds T.K fd [a] []) (Sg : FnScope Ng [a] d.scope) (hNg : Ng[0]? = some a) (hva : Vis d.scope a)
    (hN : Ng.Nodup) (hi : Ng[i]? = some e) (hi0 : 0 < i) (hln : d.scope.names.lookup e = some .local)
    (hh : ∀ (cdv : Value) (s : Shared) (H : Hp), RG (k + 1) (X.A.deeper (envOfC d.qual d.scope s.heap.objs.size (He.fAd T.K d.at_) cdv)) → HdA (cxOf (L2.CX X.prog X.w) X.prog X.w X.K X.mg X.base Ng d.qual d.scope (He.fAd T.K d.at_) cdv X.A X.stack s H E00) e (h₀ :: hds) (clsL T cns cl))
    (hnt : ∀ cn fs r, hp cn fs = some r → noThks fs = true → noThk r = true) (hcn : ∀ c fs r, hp c fs = some r → c ∈ cns)
    (hpk : ∀ cn ∈ cns, ∃ sx, pickF T.K (.ref (He.ga T.K (cn : Str))) cl = some sx ∧ ∀ fs r S, hp cn fs = some r → sx cn ((List.replicate Ng.length none).set i (some (.thk 0 fs))) S = .ok (.rt r) S)
    (TB : TabB X.base X.mg c P) (hcode : X.env.code = .ref c) (hmT : (P, X.env.qual ++ "<lambda>") ∈ T.tabs) (hu : ∀ p ∈ T.tabs, p.1 = P → p.2 = X.env.qual ++ "<lambda>") (hr : RG (k + 2) X.A) (L : LamS X.env.scope scope) (hdef : defaultsOf params X.env = ([], []))
    (hbind : ∀ (q : Str) (cl : List (Str × Addr)) (pm cv ctv : Value), bindArgs (PySem.W.kla_fn "<lambda>" q params body scope cl pm cv ctv) ⟨[], []⟩ = pure [])
    (hbody : ∀ (A : Around) (outer : List PySem.Env) (s : Shared) (H : Hp) (E' : XK) (f c' : Addr), RG k (A.deeper (lamEnv X scope s.heap.objs.size f c')) → IE T E' (lamCx X A outer s H E' scope f c') body m)
    (hdb : (x == ("__debug__" : Str)) = false := by decide +kernel) (hd : (a == ("__debug__" : Str)) = false := by decide +kernel) (hcd : (a == ("__classdict__" : Str)) = false := by decide +kernel) :
    IE T E X (.Call (.Name x p) [.Lambda params body scope lpos] [] pos) (eSaid told hp m) := by
  obtain ⟨fd, FD⟩ := hFd
  have B := hbi fd FD
  have kp := FD.kp
  obtain ⟨oc, od, dV, kV, doc, pm, an, cdv, ct, osl, rfl, lk, hcdv, _, _⟩ := FD.ex
  have lk' := lk
  rw [hnm] at lk' B
  have kp2 : PySem.W.keepIn X.K (.ref (He.fAd T.K d.at_)) = true := by rw [hK]; exact kp
  have lk2 := lk'
  rw [← show X.K.lookup (He.fAd T.K d.at_) = T.K.lookup (He.fAd T.K d.at_) from by rw [hK]] at lk2
  have B2 : L2.Binds X.K (PySem.W.fnOf x d.qual d.params d.body d.scope dV kV doc pm an cdv ct) [a] [] := by rw [hK]; exact B
  have cd2 : PySem.W.codeIn X.K cdv d.qual = true := by rw [hK]; exact hcdv
  refine PE.mono (lam_call (qg := d.qual) (bg := d.body) (TT := TTsaid T hp cns told) (t := fun E' => tI T E' m) hg hm kp2 lk2 cd2 B2 Sg hNg hva ?_ TB hcode hmT hu hr L hdef hbind hbody LamX.takes0 hdb hd hcd) fun σ H Q q => said_read hcn q
  rw [hbd]
  exact said_makes hK hx0 hN hi hi0 hln (hh cdv) hnt hpk
end Ro
end
section
set_option Elab.async false
set_option linter.all false
set_option maxRecDepth 100000
set_option maxHeartbeats 4000000
namespace Ro
open PySem PySem.Spec PyProof.Rows L2 LamX
variable {T : Tb} {E : XK} {X : Cx}
theorem is_raise0 {c : String} {m : Str} {j : Nat} {p p2 p3 pos : Pos} (hK : X.K = T.K) (hc : X.calm = true) (tk : Takes X fun c d _ H => E c d H) (hf : (He.Fa.exc (c : Str)).ok T.K = true) (hg : Gl X (c : Str)) (hm : X.mg (c : Str) = some (.ref (He.ga T.K (c : Str)))) (hdb : ((c : Str) == ("__debug__" : Str)) = false := by decide +kernel) :
    IS T E X (.Raise (some (.Call (.Name (c : Str) p) [.Constant (.str m) j p2] [] p3)) none pos) (sRaise c aNil) := by
  obtain ⟨e1, e2, e3, e4⟩ := He.exc_ok hf
  rw [← hK] at e1 e2 e3 e4
  refine PS.mono (ps_raise hc tk (pmk_own PySem.F.excBase_ValueError e1 (by rw [hK]; exact hm) e2 (raises_own e3 e4) hg hdb)) fun D σ H ⟨w, env, S, r, e, q⟩ => ?_
  have q : XW T w E c [] S := q
  rw [hK]
  exact q w H _ none (Wd.le.refl _) r ⟨rfl, .inl ⟨rfl, rfl⟩⟩
theorem names_of {c : String} (hg : Gl X (c : Str)) (hm : X.mg (c : Str) = some (.ref (He.ga T.K (c : Str)))) (hdb : ((c : Str) == ("__debug__" : Str)) = false := by decide +kernel) : Names X (c : Str) (.ref (He.ga T.K (c : Str))) := ⟨hg, hdb, .inl hm⟩
/-- the law's own names of what is refused -/
def refD : String → List D → Option D
  | "NoRates", [] => some (.tup [.str "rates"])
  | "NoSpot", [] => some (.tup [.str "spot"])
  | "NoShare", [] => some (.tup [.str "share"])
  | "NoBook", [] => some (.tup [.str "book"])
  | "NoPlace", [] => some (.tup [.str "place"])
  | "Absent", [] => some (.tup [.str "absent"])
  | "Nothing", [] => some (.tup [.str "nothing"])
  | "NoTable", [] => some (.tup [.str "table"])
  | "NoLine", [] => some (.tup [.str "line"])
  | "NoSpending", [p] => some (.tup [.str "spending", p])
  | "NoRule", [p] => some (.tup [.str "rule", p])
  | "NoJourney", [p] => some (.tup [.str "journey", p])
  | "NoText", [r] => some (.tup [.str "text", r])
  | "TooMany", [m, n] => some (.tup [.str "many", m, n])
  | "NoRate", [m, d] => some (.tup [.str "rate", m, d])
  | "NoDay", [d] => some (.tup [.str "day", d])
  | "NoName", [n] => some (.tup [.str "name", n])
  | "NoHeads", [h] => some (.tup [.str "heads", h])
  | _, _ => none
/-- .. of some classes alone -/
def refL (cns : List String) : String → List D → Option D := fun c fs => if c ∈ cns then refD c fs else none
theorem refD_nt {c : String} {fs : List D} {r : D} (h : refD c fs = some r) (hf : noThks fs = true) : noThk r = true := by
  unfold refD at h
  split at h <;> first | cases h | skip
  all_goals simp_all [noThk, noThks]
theorem refL_nt {cns : List String} (c : String) (fs : List D) (r : D) (h : refL cns c fs = some r) (hf : noThks fs = true) : noThk r = true := by
  unfold refL at h
  split at h
  · exact refD_nt h hf
  · cases h
theorem refL_in {cns : List String} (c : String) (fs : List D) (r : D) (h : refL cns c fs = some r) : c ∈ cns := by
  unfold refL at h
  split at h
  · assumption
  · cases h
end Ro
end
section
set_option Elab.async false
set_option linter.all false
set_option maxRecDepth 100000
set_option maxHeartbeats 4000000
namespace Ro
open PySem PySem.Spec PyProof.Rows L2 LamX
/-- the tables' rows that T tells -/
def tabsOf (K : PySem.W.Frag) (tf : List (He.Defn × String)) : List (Addr × Str) := tf.map fun p => ((He.cT K p.1).2, (p.2 : Str) ++ ("<lambda>" : Str))
/-- what is known of the tables at the heap h -/
structure TabF (K : PySem.W.Frag) (tf : List (He.Defn × String)) (h : Heap) : Prop where
  hd : ∀ p ∈ tf, PySem.W.codeHdIn K (He.cT K p.1).1 (He.cT K p.1).2 = true
  out : ∀ p ∈ tf, K.lookup (He.cT K p.1).2 = none
  emp : ∀ p ∈ tf, h.get? (He.cT K p.1).2 = some { cls := .none, data := .fields #[] }
/-- the law's promise at the heap behind the top, tables told -/
theorem lawGT {P : Program} {w : World} {T : Tb} {mg mb : Str → Option Value} {k : Nat} {fa a : Addr} {fd : FuncData} {x : Str} {m : Fn} {st : Shared} {vs : List Value} {ns : List Int} {tf : List (He.Defn × String)} (hT : T.tabs = tabsOf T.K tf)
    (inK : T.K.In st.heap) (hns : st.heap.Ns mainGlobals mg) (hbt : st.heap.Ns builtinsNs mb) (boot : ∀ x : Str, x ≠ "__name__" → mb x = bootBuiltins x) (lim : st.heap.NoLimit) (gens : st.gens = #[]) (tF : TabF T.K tf st.heap)
    (hbm : ∃ (bm : Addr) (ob : Obj), mg "__builtins__" = some (.ref bm) ∧ bm ≠ builtinsNs ∧ st.heap.get? bm = some ob ∧ ob.cls = .type "module" ∧ ob.dict = some builtinsNs ∧ ob.data = .plain)
    (ha : st.heap.get? a = some { cls := .type "list", data := .seq vs.toArray }) (hi : IntsAre vs ns) (hl : ns.length ≤ sizeLine) (hr : RG k callerA)
    (F : ∀ base : Heap, T.K.In base → base.Ns mainGlobals mg → TabsB T.K mg base (tf.map (·.1)) → FnG P w T.K mg base k fa fd [x] (spI T 1 m)) (bind : ∀ (s : Shared) (u : Value), BindsTo s fd ⟨[u], []⟩ [(x, u)])
    (hm : ∃ S, m [.scr ns] [] = .ok (.bl true) S) :
    codeAny (model P w) callerA (.call (.ref fa) ⟨[.ref a], []⟩) (fun r s' => r = .ok (.ret (.bool true)) ∧ OldK st.heap s'.heap ∧ s'.os = st.os ∧ AllBare s'.gens) st := by
  have rv := vals_ints hi
  have lv := hi.length
  let tl : List Addr := tf.map fun p => (He.cT T.K p.1).2
  have tMem : ∀ {b : Addr}, b ∈ tl → ∃ p ∈ tf, (He.cT T.K p.1).2 = b := fun {b} hb => by
    obtain ⟨p, hp, e⟩ := List.mem_map.mp hb
    exact ⟨p, hp, e⟩
  have tAt : ∀ {b : Addr}, b ∈ tl → st.heap.get? b = some { cls := .none, data := .fields #[] } := fun {b} hb => by
    obtain ⟨p, hp, rfl⟩ := tMem hb
    exact tF.emp p hp
  have aNot : a ∉ tl := fun z => by
    have q := tAt z
    rw [ha] at q
    exact nomatch (congrArg Obj.data (Option.some.inj q) : Data.seq vs.toArray _ = Data.fields #[])
  have from_ : ∀ Hs : Hp, Only Hs → SqL T.K Hs a (ns.map V.int) → HOk P w Hs st.heap → (∀ b, Hs b ≠ none → b = a) → (Hs a ≠ none → T.K.lookup a = none) →
      codeAny (model P w) callerA (.call (.ref fa) ⟨[.ref a], []⟩) (fun r s' => r = .ok (.ret (.bool true)) ∧ OldK st.heap s'.heap ∧ s'.os = st.os ∧ AllBare s'.gens) st := by
    intro Hs only sq okS sole away
    have hno : ∀ {b : Addr}, b ≠ a → Hs b = none := fun {b} hb => by
      cases z : Hs b with
      | none => rfl
      | some u => exact absurd (sole b (by rw [z]; simp)) hb
    obtain ⟨H, hH⟩ : ∃ H : Hp, H = fun b => if b ∈ tl then some (.tbl #[]) else Hs b := ⟨_, rfl⟩
    have inT : ∀ {b : Addr}, b ∈ tl → H b = some (.tbl #[]) := fun {b} hb => by rw [hH]; exact if_pos hb
    have offT : ∀ {b : Addr}, b ∉ tl → H b = Hs b := fun {b} hb => by rw [hH]; exact if_neg hb
    have up : ∀ {b : Addr} {u : HO}, Hs b = some u → H b = some u := fun {b u} e => by
      rw [offT fun z => ?_]
      · exact e
      · have : b = a := sole b (by rw [e]; simp)
        exact aNot (this ▸ z)
    have ok : HOk P w H st.heap := fun b u e => by
      by_cases hb : b ∈ tl
      · rw [inT hb] at e
        cases e
        exact tAt hb
      · rw [offT hb] at e
        exact (okS b u e).stay (fun _ _ _ q => q) (fun _ q => up q) fun _ _ q => up q
    have untr : ∀ {b : Addr}, b ≠ a → b ∉ tl → H b = none := fun {b} h1 h2 => by rw [offT h2]; exact hno h1
    have free_ : ∀ {b : Addr} {o : Obj}, st.heap.get? b = some o → (∀ vs n, o.data ≠ .seq vs n) → o.data ≠ .fields #[] → H b = none := fun {b o} e h1 h2 => by
      refine untr (fun z => ?_) fun z => ?_
      · rw [z, ha] at e
        cases e
        exact h1 _ _ rfl
      · rw [tAt z] at e
        cases e
        exact h2 rfl
    have nsB : ∀ {b : Addr} {f : Str → Option Value}, st.heap.Ns b f → (hidT st.heap H).Ns b f := fun {b f} ⟨o, es, ep, e, d, r⟩ => ⟨o, es, ep, hidT_get e (free_ e (fun vs n z => by rw [d] at z; cases z) fun z => by rw [d] at z; cases z), d, r⟩
    have inB : T.K.In (hidT st.heap H) := fun b o e => hidT_get (inK b o e) (by
      by_cases ht : b ∈ tl
      · obtain ⟨p, hp, rfl⟩ := tMem ht
        rw [tF.out p hp] at e
        cases e
      · rw [offT ht]
        by_cases hb : b = a
        · subst hb
          cases z : Hs b with
          | none => rfl
          | some u => rw [away (by rw [z]; simp)] at e; cases e
        · exact hno hb)
    have md : Mod T.K mg (hidT st.heap H) := ⟨inB, nsB hns, ⟨mb, nsB hbt, boot⟩, let ⟨mc, h1, h2⟩ := lim; ⟨mc, nsB h1, h2⟩⟩
    have TBs : TabsB T.K mg (hidT st.heap H) (tf.map (·.1)) := fun q hq => by
      obtain ⟨p, hp, rfl⟩ := List.mem_map.mp hq
      have hat := tF.emp p hp
      have g1 : mainGlobals ≠ (He.cT T.K p.1).2 := fun z => by
        obtain ⟨o, es, ep, e, d, _⟩ := hns
        rw [z, hat] at e
        cases e
        cases d
      refine NdefX.tabB_of_K inB (tF.hd p hp) ?_ g1
      obtain ⟨bm, ob, b1, b2, b3, b4, b5, b6⟩ := hbm
      refine ⟨bm, ob, b1, b2, fun z => ?_, fun z => ?_, hidT_get b3 (free_ b3 (fun vs n z => by rw [b6] at z; cases z) fun z => by rw [b6] at z; cases z), b4, b5, b6⟩
      · obtain ⟨o, es, ep, e, d, _⟩ := hns
        rw [z, e] at b3
        cases b3
        rw [d] at b6
        cases b6
      · rw [z, hat] at b3
        cases b3
        cases b6
    have env0 : Env0 P w T.K mg (hidT st.heap H) callerA [] st H := ⟨rfl, md, fun b o e => of_hidT e, Nat.le_of_eq (hidT_size _ _), trivial, fun b hb => (by cases hb), ok, .of_eq gens⟩
    obtain ⟨S, hS⟩ := hm
    have wr : WR T ⟨Hs, [], []⟩ [] H := by
      refine ⟨fun _ _ h => up h, rfl, List.nodup_nil, ?_, ?_, ?_, ?_, List.nodup_nil, ?_, fun b ps e => ?_⟩
      · intro b hb; cases hb
      · intro n c b h; simp at h
      · intro n c b h; simp at h
      · rw [hT]
        intro p hp
        obtain ⟨q, hq, rfl⟩ := List.mem_map.mp hp
        exact TabS.nil (inT (List.mem_map.mpr ⟨q, hq, rfl⟩))
      · intro p hp; cases hp
      · rcases only b with z | ⟨_, _, z⟩
        · rw [show Hs b = _ from e] at z; cases z
        · rw [show Hs b = _ from e] at z; cases z
    have sp : spI T 1 m [.ref a] H (fun v _ => v = .bl true) (fun _ _ _ => False) := ⟨rfl, ⟨Hs, [], []⟩, [.scr ns], [], wr, .cons (.scr sq) .nil, by
      rw [hS]
      intro w' H' v _ _ p
      cases p
      rfl⟩
    refine codeAny_mono ((F _ inB (nsB hns) TBs).run callerA [] st H ⟨[.ref a], []⟩ [.ref a] [.ref a] _ _ hr env0 (bind st (.ref a)) (.cons rfl .nil) sp) fun r s' h => ?_
    match r, h with
    | .error e, h =>
      obtain ⟨_, _, _, _, _, _, _, _, _, _, _, _, z⟩ := h
      exact z.elim
    | .ok (.ret u), h =>
      obtain ⟨v, H', os, bare, un, ok', r', q⟩ := h
      have q : v = .bl true := q
      subst q
      obtain rfl : u = Value.bool true := r'
      have key : ∀ b o, b ∉ tl → st.heap.get? b = some o → s'.heap.get? b = some o := fun b o nb e => by
        rcases only b with z | ⟨ob, xs, z⟩
        · exact un.keep b o e (by rw [offT nb]; exact z) (by intro y; cases y) (by simp)
        · have z2 := un.frzs b ob _ (up z)
          obtain ⟨e1, _⟩ := okS b _ z
          obtain ⟨e2, _⟩ := ok' b _ z2
          rw [e] at e1
          cases e1
          exact e2
      have grown : ∀ b, b ∈ tl → ∃ more : Array Value, s'.heap.get? b = some { cls := .none, data := .fields more } := fun b hb => by
        obtain ⟨more, z⟩ := un.tbls b #[] (inT hb)
        exact ⟨_, ok' b _ z⟩
      refine ⟨rfl, ⟨fun b o e => ?_, fun b o e => ?_⟩, os, bare⟩
      · by_cases hb : b ∈ tl
        · obtain ⟨more, hmo⟩ := grown b hb
          obtain ⟨p, hp, rfl⟩ := tMem hb
          rw [tF.emp p hp] at e
          cases e
          exact .inr (.inl ⟨((PySem.W.codeHd_of_K inK (tF.hd p hp)).tab (tF.emp p hp)).isCodeTable, rfl, #[], more, rfl, by rw [Array.empty_append]; exact hmo⟩)
        · exact .inl (key b o hb e)
      · by_cases hb : b ∈ tl
        · obtain ⟨more, hmo⟩ := grown b hb
          exact ⟨_, hmo⟩
        · exact ⟨o, key b o hb e⟩
  cases hk : T.K.lookup a with
  | some o =>
    have e := inK a o hk
    rw [ha] at e
    cases e
    exact from_ (fun _ => none) (fun _ => .inl rfl) (.inr ⟨_, vs.toArray, _, hk, rfl, rfl, rfl, by rw [List.size_toArray, lv]; exact hl, by simpa using rv⟩) (fun b u z => (by cases z)) (fun b z => absurd rfl z) fun z => absurd rfl z
  | none =>
    have hyes : ∀ {u : HO}, (fun b => if b = a then some u else none) a = some u := fun {u} => if_pos rfl
    have hno : ∀ {u : HO} {b : Addr}, b ≠ a → (fun b => if b = a then some u else none) b = none := fun {u b} hb => if_neg hb
    refine from_ (fun b => if b = a then some (.frz { cls := .type "list", data := .seq vs.toArray } (.lst (ns.map V.int))) else none) (fun b => ?_) (.inl (.inr ⟨_, hyes⟩)) (fun b u z => ?_) (fun b z => ?_) fun _ => hk
    · by_cases hb : b = a
      · subst hb; exact .inr ⟨_, _, hyes⟩
      · exact .inl (hno hb)
    · by_cases hb : b = a
      · subst hb
        have z := hyes.symm.trans z
        cases z
        exact ⟨ha, by rw [List.length_map]; exact hl, vs, _, rv, ha⟩
      · have z := (hno hb).symm.trans z
        cases z
    · by_cases hb : b = a
      · exact hb
      · exact absurd (hno hb) z
theorem walkGT {l : PySem.W.OpenLaw} {n k : Nat} {q : Program} {loose : List Str} {XP : (Str → Option Value) → Heap → Prop} {YP : World → Heap → Prop} {d : DefRec} {x : Str} {m : Fn} (hn : l.most = some n) (hn2 : n ≤ sizeLine) (hdf : d.params.defaults = []) (hk : k ≤ 200)
    (F : ∀ (w : World) (mg : Str → Option Value) (fa : Addr) (h : Heap), YP w h → h.Ns mainGlobals mg → mg d.name = some (.ref fa) →
      ∃ (T : Tb) (fd : FuncData) (tf : List (He.Defn × String)), T.tabs = tabsOf T.K tf ∧ T.K.In h ∧ TabF T.K tf h ∧ (∀ (s : Shared) (u : Value), BindsTo s fd ⟨[u], []⟩ [(x, u)]) ∧
        ∀ base : Heap, T.K.In base → base.Ns mainGlobals mg → TabsB T.K mg base (tf.map (·.1)) → FnG l.prog w T.K mg base k fa fd [x] (spI T 1 m))
    (hm : ∀ ns : List Int, ns.length ≤ n → (∀ z ∈ ns, bits20 z) → ∃ S, m [.scr ns] [] = .ok (.bl true) S) :
    PySem.W.WalkO q loose XP YP l.row.toRowW d [] (fun f vs => PySem.call f vs) := by
  refine Att.attach_callB hn hdf fun w s₀ st mg mb fa o pm cd doc a vs ns G Y ho hd hcd hmg hobj hints hlen hbits hg => ?_
  obtain ⟨T, fd, tf, hT, inK, tF, hb, hF⟩ := F w mg fa _ Y G.T.g hmg
  exact lawGT hT inK G.T.g G.T.b G.T.builtins G.T.nolimit hg tF G.T.bmain hobj hints (Nat.le_trans hlen hn2) (callerG.mono hk) hF hb (hm ns hlen hbits)
theorem obM_eq {n : Nat} {L : Lw} {ts : List He.Tab} {g : Addr → Option Obj} {s : Shared} (h : ∀ a, g a = s.heap.get? a) : obM n L ts g = (hookM n L ts).obs s := He.obsX_eq h
theorem says_fx {T : Tb} {L : Lw} {ts : List He.Tab} {w : World} {h : Heap} {mg : Str → Option Value} (X : T.K.In h) (G : h.Ns mainGlobals mg) (c : He.SaysX [] L.defs ts (L.tf.map (·.1)) L.ok w h T.K) : Fx T mg L ∧ TabF T.K L.tf h := by
  have e : He.obsD [] L.defs T.K = He.valD L.defs := c.t.d
  have e2 : (L.defs.map fun d => He.fnW T.K d.at_) = L.defs.map He.DefD.val := congrArg (fun z : He.AlD => z.2) e
  refine ⟨fx_of X G (show (L.ok T.K, L.defs.map fun d => He.fnW T.K d.at_) = _ by rw [c.more, e2]), ⟨fun p hp => c.hd p.1 (List.mem_map_of_mem hp), fun p hp => c.out p.1 (List.mem_map_of_mem hp), fun p hp => c.empty p.1 (List.mem_map_of_mem hp)⟩⟩
/-- a def's table, told by its place -/
theorem tab_in {K : PySem.W.Frag} {tf : List (He.Defn × String)} (p : He.Defn) (q : String) (h : (p, q) ∈ tf := by decide +kernel) : (He.tabOf K (He.codeOf K p), (q : Str) ++ ("<lambda>" : Str)) ∈ tabsOf K tf := List.mem_map.mpr ⟨(p, q), h, rfl⟩
theorem tab_one {K : PySem.W.Frag} {tf : List (He.Defn × String)} (hn : (tf.map fun p => (He.cT K p.1).2).Nodup) (p : He.Defn) (q : String) (h : (p, q) ∈ tf := by decide +kernel) : ∀ r ∈ tabsOf K tf, r.1 = He.tabOf K (He.codeOf K p) → r.2 = (q : Str) ++ ("<lambda>" : Str) := by
  intro r hr e
  obtain ⟨s, hs, rfl⟩ := List.mem_map.mp hr
  have key : s = (p, q) := by
    obtain ⟨i, hi, e1⟩ := List.mem_iff_getElem.mp hs
    obtain ⟨j, hj, e2⟩ := List.mem_iff_getElem.mp h
    have e : (He.cT K s.1).2 = (He.cT K p).2 := e
    have li : i < (tf.map fun p => (He.cT K p.1).2).length := by simpa using hi
    have lj : j < (tf.map fun p => (He.cT K p.1).2).length := by simpa using hj
    have : i = j := (List.getElem_inj (h₀ := li) (h₁ := lj) hn).mp (by
      rw [List.getElem_map, List.getElem_map, e1, e2]
      exact e)
    subst this
    rw [← e1, e2]
  rw [key]
end Ro
end
section
set_option Elab.async false
set_option linter.all false
set_option maxRecDepth 100000
set_option maxHeartbeats 4000000
namespace Ro
open PySem PySem.Spec PyProof.Rows L2 LamX
variable {T : Tb} {E : XK} {X : Cx}
theorem tk_lam {X : Cx} {A : Around} {outer : List PySem.Env} {s : Shared} {H : Hp} {E : XK} {scope : Scope} {f c' : Addr} : Takes (lamCx X A outer s H E scope f c') (fun c d _ H => E c d H) := takes_of rfl rfl rfl rfl
theorem RG.mark {k : Nat} {A : Around} (r : RG k A) (v : Option Value) : RGH k (A.mark v) := ⟨⟨r.rm.dp, r.rm.un⟩, r.gd⟩
theorem RGH.hu0 {k : Nat} {A : Around} (r : RGH k A) : A.units < cLine := by have := r.hu; omega
theorem RGH.hu1 {k : Nat} {A : Around} (r : RGH k A) : A.units + 1 < cLine := by have := r.hu; omega
theorem RGH.hu65 {k : Nat} {A : Around} (r : RGH k A) : A.units + 65 < cLine := by have := r.rm.un; omega
theorem hu65 {k : Nat} {A : Around} (r : RG k A) : A.units + 65 < cLine := by have := r.rm.un; omega
end Ro
end
section
set_option Elab.async false
set_option linter.all false
set_option maxRecDepth 100000
set_option maxHeartbeats 4000000
namespace PySem
namespace RoXb
open Builtin Builtin.ObjectAttr
/-- own classes, then the built-in class and what is above it -/
def Tail (bt l : List Value) : Prop := ∃ cs : List Addr, l = cs.map Value.ref ++ bt
structure XB (bt : List Value) (B newId initId : String) : Prop where
  F : ExcBaseFacts B newId initId bt
  pass : ∀ self : Value, refuseLoop self "__setattr__" bt = pure ()
  obj : bt.contains (.type "object") = true
  ne : bt.isEmpty = false
  hand : W.handedIn (.builtin initId) = true
section
variable {bt l : List Value} {B newId initId : String}
theorem Tail.has (h : Tail bt l) (X : String) : l.contains (.type X) = bt.contains (.type X) := by
  obtain ⟨cs, rfl⟩ := h
  induction cs with
  | nil => rfl
  | cons c cs ih =>
    show (Value.ref c :: (cs.map Value.ref ++ bt)).contains (.type X) = _
    rw [List.contains_cons, ih]
    rfl
theorem Tail.cons (h : Tail bt l) (C : Addr) : Tail bt (.ref C :: l) := by
  obtain ⟨cs, rfl⟩ := h
  exact ⟨C :: cs, rfl⟩
end
end RoXb
end PySem
namespace Ro
open PySem PySem.Spec PyProof.Rows L2 PySem.RoXb
/-- what the written part says of such a class -/
structure XCl (K : PySem.W.Frag) (C : Addr) (bt : List Value) (newId : String) : Prop where
  cls : ∃ nm q N bs bm sn sub ab col dd k0 k1 k2 k3 k5, K.lookup C = some (excClassObj nm q C N bs bm true sn sub ab col dd k0 k1 k2 k3 k5 newId) ∧ Tail bt bm
  sa : PySem.W.findIn K (.ref C) "__setattr__" = some (some (.builtin "object.__setattr__"))
  exC : PySem.W.subIn K (.ref C) (.type "BaseException") = some true
  tyC : PySem.W.typeIn K (.ref C) = some (.type "type")
  kC : PySem.W.keepIn K (.ref C) = true
end Ro
end
section
set_option Elab.async false
set_option linter.all false
set_option maxRecDepth 100000
set_option maxHeartbeats 4000000
namespace Ro
open PySem PySem.Spec PyProof.Rows L2 PySem.RoXb
def spX (C : Addr) (flds : List Str) : Sp := fun vs H Q _ => vs.length = flds.length + 1 ∧ ∃ a ws, vs = .ref a :: ws ∧ H a = some (exo a C none) ∧
  ∀ d H', H d = none → d ≠ a → H' a = some (exo a C (some d)) → H' d = some (exd d (flds.zip ws).reverse) → (∀ b, b ≠ a → b ≠ d → H' b = H b) → Q .non H'
structure InitOk (T : Tb) (P : Program) (w : World) (mg : Str → Option Value) (base : Heap) (k : Nat) (d : He.DefD) (ps : List Str) (c : String) (flds : List Str) (bt : List Value) (B newId initId : String) : Prop where
  ex : ∃ fd, FunD T.K d.name d.qual d.params d.body d.scope (d.dvs T.K) [] (He.fAd T.K d.at_) fd ∧ FnG P w T.K mg base k (He.fAd T.K d.at_) fd ps (spX (He.ga T.K (c : Str)) flds)
  xb : XB bt B newId initId
  xc : XCl T.K (He.ga T.K (c : Str)) bt newId
theorem InitOk.mono {T : Tb} {P : Program} {w : World} {mg : Str → Option Value} {base : Heap} {j k : Nat} {d : He.DefD} {ps : List Str} {c : String} {flds : List Str} {bt : List Value} {B newId initId : String} (F : InitOk T P w mg base j d ps c flds bt B newId initId) (h : j ≤ k) : InitOk T P w mg base k d ps c flds bt B newId initId := by
  obtain ⟨fd, F1, F2⟩ := F.ex
  exact ⟨⟨fd, F1, F2.mono h⟩, F.xb, F.xc⟩
end Ro
end
section
set_option Elab.async false
set_option linter.all false
set_option maxRecDepth 100000
set_option maxHeartbeats 4000000
namespace Ro
open PySem PySem.Spec PyProof.Rows L2 PySem.RoXb
def eXf (cf : String → List String) (cn fn : String) (f : EX) : EX := fun env S => (f env S).bnd fun x S1 => match x with
  | .thk 0 fs => lift (((cf cn).zip fs).lookup fn) S1
  | _ => .bad
theorem zip_look {w : Wd} {T : Tb} {fn : String} {d : D} {gs : List (Str × V)} : ∀ {ns : List String} {fs : List D}, (ns.zip fs).lookup fn = some d → (∀ f ∈ ns, ∃ v, gs.lookup (Str.ofString f) = some v) → Reps T w fs (ns.map fun f : String => (gs.lookup (Str.ofString f)).getD .non) → fn ∈ ns ∧ ∃ v, gs.lookup (Str.ofString fn) = some v ∧ Rep T w d v
  | [], fs, h, _, _ => by cases fs <;> cases h
  | n :: ns, [], h, _, _ => by cases h
  | n :: ns, x :: fs, h, ex, r => by
    cases r with
    | cons q r =>
      have h : (match fn == n with | true => some x | false => (ns.zip fs).lookup fn) = some d := h
      cases e : fn == n with
      | true =>
        rw [e] at h
        cases h
        obtain rfl : fn = n := by simpa using e
        obtain ⟨v, hv⟩ := ex fn (by simp)
        refine ⟨by simp, v, hv, ?_⟩
        have q : Rep T w d ((gs.lookup (Str.ofString fn)).getD .non) := q
        rw [hv] at q
        exact q
      | false =>
        rw [e] at h
        obtain ⟨h1, h2⟩ := zip_look h (fun f hf => ex f (by simp [hf])) r
        exact ⟨by simp [h1], h2⟩
theorem look_in {fn : String} {d : D} : ∀ {ns : List String} {fs : List D}, (ns.zip fs).lookup fn = some d → fn ∈ ns
  | [], fs, h => by cases fs <;> cases h
  | n :: ns, [], h => by cases h
  | n :: ns, x :: fs, h => by
    have h : (match fn == n with | true => some x | false => (ns.zip fs).lookup fn) = some d := h
    cases e : fn == n with
    | true => simp at e; simp [e]
    | false =>
      rw [e] at h
      simp [look_in h]
theorem ie_xf {T : Tb} {X : Cx} {cf : String → List String} {fn cn : String} {p : Addr × Obj} {z : XC} {pn : List (Addr × Obj)} {a : Expr} {f : EX} {pos : Pos} (hx : XHand T z p) (hz : z.c = cn) (hcf : T.cf = cf) (hK : X.K = T.K)
    (hf : fn ∈ cf cn → XfC T.K (He.ga T.K (cn : Str)) ∧ PySem.W.findIn T.K (.ref (He.ga T.K (cn : Str))) (fn : Str) = some none) (ha : IE (T.at (some z)) E00 (X.suite z.a (p :: pn)) a f)
    (hb : attributeBase a (fn : Str) X.env (eval a X.env) = eval a X.env := by rfl) :
    IE (T.at (some z)) E00 (X.suite z.a (p :: pn)) (.Attribute a (fn : Str) pos) (eXf cf cn fn f) := by
  refine ⟨fun pins s σ H Q I h => ?_⟩
  obtain ⟨w, env, S, r, e, q⟩ := h
  by_cases hm : fn ∈ cf cn
  · obtain ⟨h1, h2⟩ := hf hm
    obtain ⟨pa, po⟩ := p
    obtain rfl : pa = z.a := hx.at_
    rw [← hz] at h1 h2
    have h3 : XfC X.K (He.ga T.K (z.c : Str)) := by rw [hK]; exact h1
    have h4 : PySem.W.findIn X.K (.ref (He.ga T.K (z.c : Str))) (fn : Str) = some none := by rw [hK]; exact h2
    refine (pe_xf (d := z.dx) (cls := .ref (He.ga T.K (z.c : Str))) h3 h4 hx.zc hx.fl ha hb).run pins s σ H Q I ⟨w, env, S, r, e, (RP.bnd q).mono (fun d S1 k1 w1 H1 x l1 r1 p1 => ?_) fun _ _ _ x => x⟩
    split at k1
    · rename_i fs
      obtain ⟨hv, hc⟩ := hand_inv p1
      subst hv
      refine ⟨rfl, rfl, ?_⟩
      cases y : ((cf cn).zip fs).lookup fn with
      | none => rw [y] at k1; exact (show False from k1).elim
      | some d =>
        rw [y] at k1
        rcases hc with ⟨_, rfl⟩ | ⟨dd, gs, c1, c2, c3, c4⟩
        · rw [List.zip_nil_right] at y
          cases y
        · have ecf : T.cf z.c = cf cn := by rw [hcf, hz]
          rw [ecf] at c3 c4
          obtain ⟨_, v, g1, g2⟩ := zip_look y c3 c4
          exact ⟨dd, gs, v, c1, r1.sub _ _ c2, g1, k1 w1 H1 v l1 r1 g2⟩
    · exact (show False from k1).elim
  · refine attr_of hb (thn (ha.run pins s σ H (fun _ _ => False) I ⟨w, env, S, r, e, (RP.bnd q).mono (fun d S1 k1 w1 H1 x l1 r1 p1 => ?_) fun _ _ _ x => x⟩) fun u s1 ⟨v, H1, I1, rv, hh⟩ => hh.elim)
    split at k1
    · rename_i fs
      cases y : ((cf cn).zip fs).lookup fn with
      | none => rw [y] at k1; exact (show False from k1).elim
      | some d =>
        exact hm (look_in y)
    · exact (show False from k1).elim
end Ro
end
section
set_option Elab.async false
set_option linter.all false
set_option maxRecDepth 100000
set_option maxHeartbeats 4000000
namespace Ro
open PySem PySem.Spec PyProof.Rows L2 PySem.RoXb
/-- as many as asked -/
def aChk (n : Nat) (fa : AX) : AX := fun env S => (fa env S).bnd fun ds S1 => if ds.length = n ∧ ds.length ≤ 1000 then .ok ds S1 else .bad
end Ro
end
section
set_option Elab.async false
set_option linter.all false
set_option maxRecDepth 100000
set_option maxHeartbeats 4000000
namespace Ro
open PySem PySem.Spec PyProof.Rows L2
section
variable {X : Cx} {T : Tb} {E : XK} {a b : Expr} {f g : EX} {pos : Pos}
def seeD (d : D) (S : Store) : D := match d with
  | .ref n => match S[n]? with
    | some (.lst l) => .lst l
    | _ => d
  | _ => d
theorem dp_see {w : Wd} {S : Store} {H : Hp} (r : WR T w S H) {d : D} {x : V} (h : plN 8 (seeD d S) = true) (q : Rep T w d x) : Dp T.K H x (toPy (seeD d S)) := by
  cases d with
  | ref n =>
    cases q with
    | ref hn =>
    unfold seeD at h ⊢
    dsimp only at h ⊢
    cases z : S[n]? with
    | none => rw [z] at h; simp [plN] at h
    | some c =>
      rw [z] at h
      cases c with
      | lst l =>
        obtain ⟨vs, h1, h2⟩ := r.cell n _ _ z hn
        exact .lst (.inl (.inl h1)) (dpAll_of r 7 l vs h h2)
      | _ => simp [plN] at h
  | _ => exact dp_of r 8 _ x h q
end
end Ro
end
section
set_option Elab.async false
set_option linter.all false
set_option maxRecDepth 100000
set_option maxHeartbeats 4000000
namespace Ro
open PySem PySem.Spec PyProof.Rows L2
variable {T : Tb} {E : XK} {X : Cx} {a b : Expr} {f g : EX} {pos : Pos}
def inSD (x y : D) : Option D := match x, y with
  | .str s, .str z => (match s.cps.toList with
    | [c] => some (.bl (decide (c ∈ z.cps.toList)))
    | _ => none)
  | _, _ => none
theorem str_one {s : Str} {c : Nat} (h : s.cps.toList = [c]) : s = ⟨#[c]⟩ := by
  obtain ⟨cps⟩ := s
  have e : cps = [c].toArray := by rw [← h]
  rw [e]
theorem oi_inS : OpR X (compareOp .In) (rOp T inSD) := fun pins s σ H x y v u Q I rx ry q => by
  obtain ⟨w, d, e, r, S, h1, h2, h3, h4, h5⟩ := q
  unfold inSD at h4
  split at h4
  · split at h4
    · rename_i c hc
      cases h4
      cases h2; cases h3
      have es := str_one hc
      subst es
      exact op_in_sign pins s σ H _ _ v u Q I rx ry ⟨c, _, rfl, rfl, h5 w H _ (Wd.le.refl _) h1 (.bl _)⟩
    · cases h4
  · cases h4
theorem ie_gstr {x z : Str} (hg : Gl X x) (hm : ∃ t, X.mg x = some (.str z t)) (hd : (x == ("__debug__" : Str)) = false := by decide +kernel) : IE T E X (.Name x pos) (eC (.str z)) := by
  obtain ⟨t, e⟩ := hm
  exact ie_glob (v := .str z) hg e ⟨t, rfl⟩ (fun _ => .str z) hd
def DictsK (K : PySem.W.Frag) (w : World) (l : List String) : Prop := ∀ x ∈ l, ∃ es n, KDict K w (He.ga K (x : Str)) es n
theorem isStr_is {v : Value} {x : Str} (h : v.isStr x = true) : ∃ t, v = .str x t := by
  rw [PySem.W.isStr_of] at h
  exact Value.isStrOf_shape h
theorem isStr_str (y z : Str) (t : Tok) : (Value.str y t).isStr z = decide (y = z) := by
  rw [PySem.W.isStr_of]
  show Value.isStrOf z (.str y t) = _
  unfold Value.isStrOf
  rfl
theorem dcL_find {K : PySem.W.Frag} (z : Str) : ∀ {es : List DictEntry} {kvs : List (Str × He.Dv)}, dcL K es kvs = true →
    (∀ q, kvs.find? (fun q => decide (q.1 = z)) = some q → ∃ e, es.find? (·.key.isStr z) = some e ∧ RelV (q.2.v K) e.val) ∧ (kvs.find? (fun q => decide (q.1 = z)) = none → es.find? (·.key.isStr z) = none ∧ es.any (·.refKey) = false)
  | [], [], _ => ⟨fun _ h => (by cases h), fun _ => ⟨rfl, rfl⟩⟩
  | [], _ :: _, h => by cases h
  | _ :: _, [], h => by cases h
  | e :: es, q :: kvs, h => by
    obtain ⟨h1, h⟩ := He.ba h
    obtain ⟨h2, h3⟩ := He.ba h
    obtain ⟨i1, i2⟩ := dcL_find z h3
    obtain ⟨t, ek⟩ := isStr_is h1
    have hk : e.key.isStr z = decide (q.1 = z) := by rw [ek, isStr_str]
    have hr : e.refKey = false := by unfold DictEntry.refKey; rw [ek]
    rw [List.find?_cons, List.find?_cons, hk, List.any_cons, hr, Bool.false_or]
    by_cases hz : q.1 = z
    · simp only [hz, decide_true]
      exact ⟨fun q' e' => by cases e'; exact ⟨e, rfl, He.relB_ok h2⟩, fun n => by cases n⟩
    · simp only [hz, decide_false]
      exact ⟨i1, i2⟩
theorem dcB_ok {K : PySem.W.Frag} {x : Str} {kvs : List (Str × He.Dv)} (h : dcB K x kvs = true) (z : Str) :
    (∀ q, kvs.find? (fun q => decide (q.1 = z)) = some q → ∃ u, PySem.W.nsIn K (He.ga K x) z = some (some u) ∧ RelV (q.2.v K) u) ∧ (kvs.find? (fun q => decide (q.1 = z)) = none → PySem.W.nsIn K (He.ga K x) z = some none) := by
  unfold dcB at h
  unfold PySem.W.nsIn
  split at h
  · rename_i es n _ e
    obtain ⟨h1, h2⟩ := dcL_find (K := K) z h
    rw [e]
    refine ⟨fun q hq => ?_, fun hq => ?_⟩
    · obtain ⟨en, e1, e2⟩ := h1 q hq
      exact ⟨en.val, by show (match es.toList.find? (·.key.isStr z) with | some e => some (some e.val) | none => if es.toList.any (·.refKey) then none else some none) = _; rw [e1], e2⟩
    · obtain ⟨e1, e2⟩ := h2 hq
      show (match es.toList.find? (·.key.isStr z) with | some e => some (some e.val) | none => if es.toList.any (·.refKey) then none else some none) = _
      rw [e1, e2]
      rfl
  · cases h
theorem ie_gfn {x : String} (hg : Gl X (x : Str)) (hm : X.mg (x : Str) = some (.ref (He.ga T.K (x : Str)))) (hd : ((x : Str) == ("__debug__" : Str)) = false := by decide +kernel) : IE T E X (.Name (x : Str) pos) (eC (.fn x)) :=
  ie_glob (v := .ref (He.ga T.K (x : Str))) hg hm rfl (fun _ => .fn x) hd
def inKD (x : String) (kvs : List (Str × He.Dv)) (d e : D) : Option D := match d, e with
  | .str z, .fn y => if y = x then some (.bl (kvs.find? fun q => decide (q.1 = z)).isSome) else none
  | _, _ => none
def itKD (x : String) (kvs : List (Str × He.Dv)) (d e : D) : Option D := match d, e with
  | .fn y, .str z => if y = x then (kvs.find? fun q => decide (q.1 = z)).map (fun q => dvD q.2) else none
  | _, _ => none
theorem oi_inK {x : String} {kvs : List (Str × He.Dv)} (hK : X.K = T.K) (D : ∃ es n, KDict T.K X.w (He.ga T.K (x : Str)) es n) (hb : dcB T.K (x : Str) kvs = true) : OpR X (compareOp .In) (rOp T (inKD x kvs)) := fun pins s σ H x' y v u Q I rx ry q => by
  obtain ⟨w, d, e, r, S, h1, h2, h3, h4, h5⟩ := q
  obtain ⟨es, n, D⟩ := D
  rw [← hK] at D
  unfold inKD at h4
  split at h4
  · split at h4
    · rename_i z _ hy
      subst hy
      cases h4
      cases h2; cases h3
      have k := dcB_ok hb z
      have fin : ∀ r0 : Option Value, PySem.W.nsIn T.K (He.ga T.K (_ : Str)) z = some r0 → r0.isSome = _ → _ := fun r0 e1 e2 => op_in_kd D pins s σ H _ _ v u Q I rx ry ⟨z, r0, rfl, by rw [hK], by rw [hK]; exact e1, by rw [e2]; exact h5 w H _ (Wd.le.refl _) h1 (.bl _)⟩
      cases hz : kvs.find? fun q => decide (q.1 = z) with
      | none => exact fin none (k.2 hz) (by rw [hz]; rfl)
      | some q =>
        obtain ⟨u0, e1, _⟩ := k.1 q hz
        exact fin (some u0) e1 (by rw [hz]; rfl)
    · cases h4
  · cases h4
theorem ie_itK {x : String} {kvs : List (Str × He.Dv)} (hK : X.K = T.K) (D : ∃ es n, KDict T.K X.w (He.ga T.K (x : Str)) es n) (hb : dcB T.K (x : Str) kvs = true) (hl : kvs.all (fun q => dvOk q.2) = true) (ha : IE T E X a f) (hb' : IE T E X b g) (hs : PlainIx b := by exact fun _ _ => rfl) :
    IE T E X (.Subscript a b pos) (eOp (itKD x kvs) f g) :=
  PE.mono (pe_ix ix_kdict ha hb' hs) fun σ H Q q => by
    have q2 := tI_two (k := fun x' y S => lift (itKD x kvs x' y) S) q
    obtain ⟨w, env, S, r, e, h⟩ := q2
    refine ⟨w, env, S, r, e, h.mono (fun d S1 h1 w1 H1 x l1 r1 p1 => ?_) fun _ _ _ x => x⟩
    obtain ⟨w2, env2, S2, r2, e2, h2⟩ := h1 w1 H1 x l1 r1 p1
    refine ⟨w2, env2, S2, r2, e2, h2.mono (fun d S1 h1 w1 H1 x l1 r1 p1 => ?_) fun _ _ _ x => x⟩
    obtain ⟨w3, d3, e3, S3, r3, p3, q3, h3⟩ := h1 w1 H1 x l1 r1 p1
    obtain ⟨w3, d3, e3, rr, S3, r3, p3, q3, hh, h3⟩ := rOp_of r3 p3 q3 h3
    obtain ⟨es, n, D⟩ := D
    unfold itKD at hh
    split at hh
    · split at hh
      · rename_i z hy
        subst hy
        cases hz : kvs.find? fun q => decide (q.1 = z) with
        | none => rw [hz] at hh; cases hh
        | some q =>
          rw [hz] at hh
          cases hh
          cases p3; cases q3
          obtain ⟨u0, k1, k2⟩ := (dcB_ok hb z).1 q hz
          have hq : dvOk q.2 = true := List.all_eq_true.mp hl q (List.mem_of_find?_eq_some hz)
          refine ⟨_, z, q.2.v T.K, rfl, rfl, ⟨es, n, u0, by rw [hK]; exact D.at_, D.lit, by rw [hK]; exact k1, k2⟩, h3 w3 _ _ (Wd.le.refl _) r3 ?_⟩
          show Rep T w3 (dvD q.2) (q.2.v T.K)
          revert hq
          generalize q.2 = dv
          intro hq
          cases dv <;> first | exact .non | exact .bl _ | exact .int _ | exact .str _ | cases hq
      · cases hh
    · cases hh
theorem dicts_of {fa : List He.Fa} {fn : List He.DefD} {l : List (String × List String)} {w : World} {K : PySem.W.Frag} (c : He.SaysT fa fn (tabsD l) w K) : DictsK K w (l.map (·.1)) := by
  intro x hx
  obtain ⟨p, hp, rfl⟩ := List.mem_map.mp hx
  obtain ⟨i, hi⟩ := List.mem_iff_getElem?.mp hp
  exact c.tab i (t := (fun K => He.ga K (p.1 : Str), p.2.map fun s : String => (s : Str))) (by unfold tabsD; rw [List.getElem?_map, hi]; rfl)
end Ro
end
section
set_option Elab.async false
set_option linter.all false
set_option maxRecDepth 100000
set_option maxHeartbeats 4000000
namespace Ro
open PySem PySem.Spec PyProof.Rows L2
variable {T : Tb} {E : XK} {X : Cx} {a b : Expr} {f g : EX} {pos : Pos}
def keyP : D → PyData
  | .int i => .int i
  | .str s => .str s
  | _ => .none
mutual
def toPx : D → PyData
  | .tup l => .tuple (toPxs l)
  | .dct l => .dict (toPxk l)
  | .bl b => .bool b
  | .int i => .int i
  | .str s => .str s
  | _ => .none
def toPxs : List D → List PyData
  | [] => []
  | x :: l => toPx x :: toPxs l
def toPxk : List (D × D) → List (PyData × PyData)
  | [] => []
  | (k, v) :: l => (keyP k, toPx v) :: toPxk l
end
def atomQ : D → Bool
  | .non => true
  | .bl _ => true
  | .int _ => true
  | .str _ => true
  | _ => false
def plQ : Nat → D → Bool
  | _, .non => true
  | _, .bl _ => true
  | _, .int _ => true
  | _, .str _ => true
  | n + 1, .tup l => l.all (plQ n)
  | n + 1, .dct l => l.all fun p => atomQ p.2
  | _, _ => false
def reprOkX (d : D) : Bool := plQ 4 d && ((toPx d).showable && (decide ((toPx d).depth ≤ 20) && decide ((toPx d).shown.length ≤ LINE)))
def bReprX : List D → Option D
  | [x] => if reprOk x then some (.str (toPy x).shown) else if reprOkX x then some (.str (toPx x).shown) else none
  | _ => none
theorem atom_reads {h : Heap} {w : Wd} {d : D} {v : V} {u : Value} (ha : atomQ d = true) (r : Rep T w d v) (ru : RelV v u) : Reads h u (toPx d) [] := by
  cases r with
  | non => cases ru; exact .none
  | bl b => cases ru; exact .bool b
  | int i => obtain ⟨t, rfl⟩ := ru; exact .int i t
  | str s => obtain ⟨t, rfl⟩ := ru; exact .str s t
  | _ => cases ha
theorem kvs_reads {h : Heap} {P : Program} {w0 : World} {w : Wd} : ∀ {l : List (D × D)} {kvs : List (Key × V)} {vs : List (Key × Value)} {es : List DictEntry}, RepK T w l kvs → KV kvs vs → Pairs (knd := mixKind P w0) es vs → (l.all fun p => atomQ p.2) = true →
    ReadsAll h (es.map (·.key)) ((toPxk l).map (·.1)) [] ∧ ReadsAll h (es.map (·.val)) ((toPxk l).map (·.2)) []
  | _, _, _, _, .nil, kv, pr, _ => by
    cases kv; cases pr
    exact ⟨.nil, .nil⟩
  | _, _, _, _, .int hd rd, kv, pr, ha => by
    obtain ⟨h1, h2⟩ := He.ba ha
    cases kv with
    | cons k1 k2 =>
      obtain ⟨e1, e2⟩ := k1
      cases pr with
      | cons p1 p2 p3 =>
        obtain ⟨i1, i2⟩ := kvs_reads (h := h) rd k2 p3 h2
        rw [← e1] at p1
        have p1 : keyIs (Sum.inl _) _ = true := p1
        rcases keyIs_shape p1 with ⟨i, t, z1, z2⟩ | ⟨x, t, z1, z2⟩
        · cases z1
          refine ⟨?_, ?_⟩
          · rw [List.map_cons, z2]
            exact ReadsAll.cons (as := []) (bs := []) (.int _ _) i1
          · rw [List.map_cons, p2]
            exact ReadsAll.cons (as := []) (bs := []) (atom_reads h1 hd e2) i2
        · cases z1
  | _, _, _, _, .str hd rd, kv, pr, ha => by
    obtain ⟨h1, h2⟩ := He.ba ha
    cases kv with
    | cons k1 k2 =>
      obtain ⟨e1, e2⟩ := k1
      cases pr with
      | cons p1 p2 p3 =>
        obtain ⟨i1, i2⟩ := kvs_reads (h := h) rd k2 p3 h2
        rw [← e1] at p1
        have p1 : keyIs (Sum.inr _) _ = true := p1
        rcases keyIs_shape p1 with ⟨i, t, z1, z2⟩ | ⟨x, t, z1, z2⟩
        · cases z1
        · cases z1
          refine ⟨?_, ?_⟩
          · rw [List.map_cons, z2]
            exact ReadsAll.cons (as := []) (bs := []) (.str _ _) i1
          · rw [List.map_cons, p2]
            exact ReadsAll.cons (as := []) (bs := []) (atom_reads h1 hd e2) i2
section
variable {pins : List (Addr × Obj)} {σ : L2.St} {H : Hp} {s : Shared} {w : Wd} {S : Store}
theorem px_reads (hK : X.K = T.K) (I : Inv X pins σ H s) (r : WR T w S H) : ∀ (n : Nat) (d : D) (v : V) (u : Value), plQ n d = true → Rep T w d v → RelV v u → ∃ as, Reads s.heap u (toPx d) as ∧ sysModules ∉ as := by
  intro n
  induction n with
  | zero =>
    intro d v u hd rd ru
    have ha : atomQ d = true := by cases d <;> first | rfl | cases hd
    exact ⟨[], atom_reads ha rd ru, by simp⟩
  | succ n ih =>
    intro d v u hd rd ru
    have all_ : ∀ (l : List D) (vs : List V) (us : List Value), l.all (plQ n) = true → Reps T w l vs → Vals vs us → ∃ as, ReadsAll s.heap us (toPxs l) as ∧ sysModules ∉ as := by
      intro l
      induction l with
      | nil =>
        intro vs us _ z1 z2
        cases z1; cases z2
        exact ⟨[], .nil, by simp⟩
      | cons x l ihl =>
        intro vs us hl z1 z2
        obtain ⟨h1, h2⟩ := He.ba (show (plQ n x && l.all (plQ n)) = true from hl)
        cases z1 with
        | cons y1 y2 =>
          cases z2 with
          | cons x1 x2 =>
            obtain ⟨as, q1, q2⟩ := ih x _ _ h1 y1 x1
            obtain ⟨bs, q3, q4⟩ := ihl _ _ h2 y2 x2
            exact ⟨as ++ bs, .cons q1 q3, by simp [q2, q4]⟩
    have rd0 := rd
    cases rd with
    | tup q1 q2 =>
      cases ru
      have h' : (X.K = T.K) := hK
      obtain ⟨its, rv, ⟨o, ho, hc, m, hdt⟩, _⟩ := I.tuple (by rw [hK]; exact sqt_sub r q1)
      obtain ⟨as, z1, z2⟩ := all_ _ _ _ hd q2 rv
      exact ⟨as, .tuple ho hc hdt z1, z2⟩
    | dct q1 q2 =>
      cases ru
      obtain ⟨_, hm, vs0, kv, o, es, ep, ho, hx, hdt, _, pr, _⟩ := dk_of I.hok (r.sub _ _ q1)
      obtain ⟨z1, z2⟩ := kvs_reads (h := s.heap) q2 kv pr hd
      refine ⟨_, .dict ho hx.1 hdt z1 z2, ?_⟩
      intro z
      have z : sysModules ∈ [_] := z
      have z := List.mem_singleton.mp z
      rw [← z] at hm
      cases hm
    | non => exact ⟨[], atom_reads rfl rd0 ru, by simp⟩
    | bl b => exact ⟨[], atom_reads rfl rd0 ru, by simp⟩
    | int b => exact ⟨[], atom_reads rfl rd0 ru, by simp⟩
    | str b => exact ⟨[], atom_reads rfl rd0 ru, by simp⟩
    | _ => cases hd
end
def rReprX (T : Tb) : List V → Hp → VK → Prop := fun vs H Q => rRepr T.K vs H Q ∨ ∃ (w : Wd) (S : Store) (d : D) (x : V), WR T w S H ∧ vs = [x] ∧ Rep T w d x ∧ reprOkX d = true ∧ reprOk d = false ∧ Q (.str (toPx d).shown) H
theorem call_reprX (hK : X.K = T.K) (gd : X.A.guards = some []) (hu : X.A.units + 64 < cLine) : CallR X (.builtin "repr") (rReprX T) := by
  intro pins s σ H xs us Q I r h
  rcases h with h | ⟨w, S, d, x, wr, rfl, rd, hd, hn, q⟩
  · exact call_reprD gd hu pins s σ H xs us Q I r (by rw [hK]; exact h)
  obtain ⟨u, rfl, ru⟩ := Vals.one r
  obtain ⟨h1, h⟩ := He.ba hd
  obtain ⟨h2, h⟩ := He.ba h
  obtain ⟨h3, h4⟩ := He.ba h
  have h3 := of_decide_eq_true h3
  have h4 := of_decide_eq_true h4
  obtain ⟨as, rr, hs⟩ := px_reads hK I wr 4 d x u h1 rd ru
  cases rd with
  | tup q1 q2 =>
    cases ru
    exact repr_of_reads' rr h2 (fun _ => hs) gd (by omega) (fun _ _ e => e) (fun h' u tk hk => ⟨.str _, H, I.kept hk, ⟨_, rfl⟩, q⟩) (by rw [sizeLine_eq]; exact h4)
  | dct q1 q2 =>
    cases ru
    exact repr_of_reads' rr h2 (fun _ => hs) gd (by omega) (fun _ _ e => e) (fun h' u tk hk => ⟨.str _, H, I.kept hk, ⟨_, rfl⟩, q⟩) (by rw [sizeLine_eq]; exact h4)
  | non =>
    cases ru
    exact PySem.P.repr_of_none ⟨.str _, H, I.tok _, ⟨_, rfl⟩, q⟩
  | bl b =>
    cases ru
    exact PySem.P.repr_of_bool ⟨.str _, H, I.tok _, ⟨_, rfl⟩, q⟩
  | int i =>
    obtain ⟨t, rfl⟩ := ru
    exact PySem.P.repr_of_int (of_decide_eq_true h2) ⟨.str _, H, I.tok _, ⟨_, rfl⟩, q⟩
  | str z =>
    obtain ⟨t, rfl⟩ := ru
    exact PySem.P.repr_of_str ⟨.str _, H, I.tok _, ⟨_, rfl⟩, q⟩ (by rw [sizeLine_eq]; exact h4)
  | _ => cases h1
theorem bo_reprX : BOk T (rReprX T) bReprX := fun w S xs vs H d Q r p h k => by
  unfold bReprX at h
  split at h
  · rename_i x
    by_cases hx : reprOk x = true
    · rw [if_pos hx] at h
      exact .inl (bo_repr w S _ vs H d Q r p (by unfold bRepr; show (if reprOk x = true then _ else _) = _; rw [if_pos hx]; exact h) k)
    · rw [if_neg hx] at h
      split at h
      · rename_i hy
        cases h
        obtain ⟨v, rfl, p2⟩ := reps_one p
        exact .inr ⟨w, S, x, v, r, rfl, p2, hy, by simpa using hx, k w H _ (Wd.le.refl _) r (.str _)⟩
      · cases h
  · cases h
def BOkS (T : Tb) (r : List V → Hp → VK → Prop) (m : List D → Option D) : Prop :=
  ∀ w S xs vs H d Q, WR T w S H → Reps T w xs vs → m (xs.map fun x => seeD x S) = some d → (∀ w' H' v, w.le w' → WR T w' S H' → Rep T w' d v → Q v H') → r vs H Q
def eBS (m : List D → Option D) (fa : AX) : EX := fun env S => (fa env S).bnd fun xs S1 => lift (m (xs.map fun x => seeD x S1)) S1
theorem tI_bS {r : List V → Hp → VK → Prop} {m : List D → Option D} {fa : AX} (h : BOkS T r m) {σ : L2.St} {H : Hp} {Q : VK} (q : tI T E (eBS m fa) σ H Q) : tCB r (tIa T E fa) σ H Q := by
  obtain ⟨w, env, S, r0, e, q⟩ := q
  refine ⟨w, env, S, r0, e, (RP.bnd q).mono (fun xs S1 h1 w1 H1 vs l1 r1 p1 => ?_) fun _ _ _ x => x⟩
  cases z : m (xs.map fun x => seeD x S1) with
  | none => rw [z] at h1; exact (show False from h1).elim
  | some d =>
    rw [z] at h1
    exact h w1 S1 xs vs H1 d Q r1 p1 z fun w' H' v l => h1 w' H' v (l1.trans l)
theorem ie_bS {es : List Expr} {fa : AX} {x : Str} {p : Pos} {id : String} {r : List V → Hp → VK → Prop} {m : List D → Option D} (hc : CallR X (.builtin id) r) (hm : BOkS T r m) (hg : Gl X x) (hn : X.mg x = none) (hv : bootBuiltins x = some (.builtin id)) (ha : IA T E X (a :: es) fa) (hx : x ≠ "__name__" := by decide +kernel) (hdb : (x == ("__debug__" : Str)) = false := by decide +kernel)
    (he : starEach (a :: es) X.env = (false, eval a X.env) :: starEach es X.env := by rfl) (hpl : (backTo pos (starEach es X.env)).any (·.1) = false := by rfl) : IE T E X (.Call (.Name x p) (a :: es) [] pos) (eBS m fa) :=
  PE.mono (pe_callB hc hg hn hv ha hx hdb he hpl) fun σ H Q q => tI_bS hm q
theorem bo_reprS : BOkS T (rReprX T) bRepr := fun w S xs vs H d Q r p h k => by
  cases p with
  | nil => cases h
  | cons p1 p2 =>
    cases p2 with
    | nil =>
      rename_i x v
      unfold bRepr at h
      have h : (if reprOk (seeD x S) then some (D.str (toPy (seeD x S)).shown) else none) = some d := h
      split at h
      · rename_i hx
        cases h
        unfold reprOk at hx
        simp only [Bool.and_eq_true, decide_eq_true_eq] at hx
        obtain ⟨k1, k2⟩ := toPy_ok 8 _ hx.1.1
        exact .inl ⟨v, _, rfl, dp_see r hx.1.1 p1, k1, by omega, hx.1.2, by rw [sizeLine_eq]; exact hx.2, k w H _ (Wd.le.refl _) r (.str _)⟩
      · cases h
    | cons p3 p4 => cases h
end Ro
end
section
set_option Elab.async false
set_option linter.all false
set_option maxRecDepth 100000
set_option maxHeartbeats 4000000
namespace Ro
open PySem PySem.Spec PyProof.Rows L2
variable {T : Tb} {E : XK} {X : Cx} {a b : Expr} {f g : EX} {pos : Pos}
def frzL (d : D) (S : Store) : R D := match d with
  | .ref n => (match S[n]? with
    | some (.lst l) => .ok (.lst l) (S.set n .dead)
    | _ => .bad)
  | d => .ok d S
def eFrzL (f : EX) : EX := fun env S => (f env S).bnd frzL
theorem ie_frzL (ha : IE T E X a f) : IE T E X a (eFrzL f) :=
  PE.mono ha fun σ H Q ⟨w, env, S, r, e, q⟩ => ⟨w, env, S, r, e, (RP.bnd q).mono (fun d S1 h1 w1 H1 x l1 r1 p1 => by
    unfold frzL at h1
    split at h1
    · rename_i n
      split at h1
      · rename_i l hn
        cases p1 with
        | ref ha =>
          obtain ⟨vs, k1, k2⟩ := r1.cell n _ _ hn ha
          obtain ⟨l2, r2⟩ := r1.freeze hn ha (by simp) k1
          exact h1 _ _ _ (l1.trans l2) r2 (.lst upd_same (k2.mono l2))
      · exact (show False from h1).elim
    · exact h1 w1 H1 x l1 r1 p1) fun _ _ _ x => x⟩
theorem see_lst {w : Wd} {S : Store} {H : Hp} {d : D} {l : List D} {x : V} (r : WR T w S H) (p : Rep T w d x) (h : seeD d S = .lst l) : ∃ q vs, x = .ref q ∧ H q = some (.lst vs) ∧ Reps T w l vs := by
  unfold seeD at h
  split at h
  · rename_i n
    split at h
    · rename_i l' hn
      cases h
      cases p with
      | ref ha =>
        obtain ⟨vs, k1, k2⟩ := r.cell n _ _ hn ha
        exact ⟨_, vs, rfl, k1, k2⟩
    · cases h
  · subst h
    cases p with
    | lst q2 r2 => exact ⟨_, _, rfl, r.sub _ _ q2, r2⟩
def catS (x y : D) (S : Store) : Option (List D) := match seeD x S, seeD y S with
  | .lst l, .lst m => if l.length + m.length ≤ LINE then some (l ++ m) else none
  | _, _ => none
theorem catS_ok {x y : D} {S : Store} {k : List D} (h : catS x y S = some k) : ∃ l m, seeD x S = .lst l ∧ seeD y S = .lst m ∧ k = l ++ m ∧ l.length + m.length ≤ LINE := by
  unfold catS at h
  split at h
  · rename_i l m e1 e2
    split at h
    · rename_i hl
      cases h
      exact ⟨l, m, e1, e2, rfl, hl⟩
    · cases h
  · cases h
/-- the new list will be changed -/
def eAddM (f g : EX) : EX := fun env S => (f env S).bnd fun x S1 => (g env S1).bnd fun y S2 => match catS x y S2 with
  | some k => .ok (.ref S2.length) (S2 ++ [.lst k])
  | none => .bad
theorem ie_addM (ha : IE T E X a f) (hb : IE T E X b g) : IE T E X (.BinOp a .Add b pos) (eAddM f g) :=
  PE.mono (pe_op op_cat ha hb) fun σ H Q q => by
    have q2 := tI_two (k := fun x y S => match catS x y S with
      | some k => .ok (.ref S.length) (S ++ [.lst k])
      | none => .bad) q
    obtain ⟨w, env, S, r, e, h⟩ := q2
    refine ⟨w, env, S, r, e, h.mono (fun d S1 h1 w1 H1 x l1 r1 p1 => ?_) fun _ _ _ x => x⟩
    obtain ⟨w2, env2, S2, r2, e2, h2⟩ := h1 w1 H1 x l1 r1 p1
    refine ⟨w2, env2, S2, r2, e2, h2.mono (fun d S1 h1 w1 H1 x l1 r1 p1 => ?_) fun _ _ _ x => x⟩
    obtain ⟨w3, d3, e3, S3, r3, p3, q3, h3⟩ := h1 w1 H1 x l1 r1 p1
    cases z : catS d3 e3 S3 with
    | none => rw [z] at h3; exact (show False from h3).elim
    | some k =>
      rw [z] at h3
      obtain ⟨l, m, z1, z2, rfl, hl⟩ := catS_ok z
      obtain ⟨p, vs, rfl, k1, k2⟩ := see_lst r3 p3 z1
      obtain ⟨p', us, rfl, k3, k4⟩ := see_lst r3 q3 z2
      refine ⟨_, _, _, _, rfl, rfl, k1, k3, by rw [sizeLine_eq, ← k2.length, ← k4.length]; exact hl, fun a hp => ?_⟩
      obtain ⟨l1, r1, at_⟩ := r3.alloc (o := .lst (vs ++ us)) (c := .lst (l ++ m)) hp ⟨_, upd_same, (k2.append k4).mono (Wd.le.app _ _)⟩
      exact h3 _ _ _ l1 r1 (.ref at_)
end Ro
end
section
set_option Elab.async false
set_option linter.all false
set_option maxRecDepth 100000
set_option maxHeartbeats 4000000
namespace Ro
open PySem PySem.Spec PyProof.Rows L2
variable {T : Tb} {E : XK} {X : Cx} {a b c : Expr} {fa : AX}
def seqL : D → Option (List D)
  | .lst l => some l
  | .tup l => some l
  | _ => none
def zip3L : List D → List D → List D → List D
  | x :: l, y :: m, z :: n => .tup [x, y, z] :: zip3L l m n
  | _, _, _ => []
def itZipM2 (fa : AX) : AX := fun env S => (fa env S).bnd fun ds S1 => match ds with
  | [x, y] => (match seqL x, seqL y with
    | some l, some m => .ok (zipL l m) S1
    | _, _ => .bad)
  | _ => .bad
def itZipM3 (fa : AX) : AX := fun env S => (fa env S).bnd fun ds S1 => match ds with
  | [x, y, z] => (match seqL x, seqL y, seqL z with
    | some l, some m, some n => .ok (zip3L l m n) S1
    | _, _, _ => .bad)
  | _ => .bad
@[simp] theorem u_itZipM2 (fa : AX) {env : Env} {S : Store} : itZipM2 fa env S = (fa env S).bnd fun ds S1 => match ds with
  | [x, y] => (match seqL x, seqL y with
    | some l, some m => .ok (zipL l m) S1
    | _, _ => .bad)
  | _ => .bad := rfl
@[simp] theorem u_itZipM3 (fa : AX) {env : Env} {S : Store} : itZipM3 fa env S = (fa env S).bnd fun ds S1 => match ds with
  | [x, y, z] => (match seqL x, seqL y, seqL z with
    | some l, some m, some n => .ok (zip3L l m n) S1
    | _, _, _ => .bad)
  | _ => .bad := rfl
@[simp] theorem seqL_lst (l : List D) : seqL (.lst l) = some l := rfl
@[simp] theorem seqL_tup (l : List D) : seqL (.tup l) = some l := rfl
end Ro
end
section
set_option Elab.async false
set_option linter.all false
set_option maxRecDepth 100000
set_option maxHeartbeats 4000000
namespace Ro
open PySem PySem.Spec PyProof.Rows L2
section
variable {P : Program} {w : World}
/-- J i: so much the set at a holds once i members have been put -/
structure Fills (P : Program) (w : World) (a : Addr) (n : Nat) (V0 : Nat → Value → Prop) (J : Nat → Heap → Prop) : Prop where
  stay : ∀ {i : Nat} {g g' : Heap}, (∀ o, g.get? a = some o → g'.get? a = some o) → J i g → J i g'
  put : ∀ {A : Around} {E : Value → Shared → Prop} {i : Nat} {v : Value} {s : Shared} {Q : Bool → Shared → Prop}, i < n → V0 i v → J i s.heap →
    (∀ b g, Heap.SameBut a s.heap g → J (i + 1) g → Q b { s with heap := g, toks := s.toks + 1 }) → wpAny (model P w) A (setAdd a v) Q E s
theorem fill_loop {A : Around} {R : Result → Shared → Prop} {it a : Addr} {fp wr : List Addr} {G : Array GenState → Array GenState → Prop} {n : Nat} {V0 : Nat → Value → Prop} {St : Nat → Shared → Prop} {J : Nat → Heap → Prop}
    (W : WalksS P w A.in1 it fp wr G n V0 St) (F : Fills P w a n V0 J) (far : a ∉ fp) : ∀ (m i : Nat) (s : Shared), i + m = n → St i s → J i s.heap → (∀ s', Moved (a :: wr) G s s' → J n s'.heap → R (.ok (.ret .none)) s') → codeAny (model P w) A (.builtin "set.update.loop" ⟨[.ref a, .ref it], []⟩) R s
  | 0, i, s, e, st, j, k => by
    have e : i = n := e
    subst e
    refine codeAny_builtin PyProof.Rows.F.entry_set_update_loop ?_; rw [Around.under_plainId PyProof.Rows.F.plain_set_update_loop _]
    show wpAny _ A.in1 (pyNext (.ref it) >>= _) _ _ s
    refine wpAny_bind (W.done s _ _ st fun s1 mv => ?_)
    show wpAny _ A.in1 (ret Value.none) _ _ s1
    exact wpAny_pure (k s1 (mv.mono fun b hb => List.mem_cons_of_mem _ hb) (F.stay (fun o q => mv.heap a o (fun x => far (W.sub _ x)) q) j))
  | m + 1, i, s, e, st, j, k => by
    have il : i < n := by omega
    refine codeAny_builtin PyProof.Rows.F.entry_set_update_loop ?_; rw [Around.under_plainId PyProof.Rows.F.plain_set_update_loop _]
    show wpAny _ A.in1 (pyNext (.ref it) >>= _) _ _ s
    refine wpAny_bind (W.item i s _ _ il st fun v s1 pv st1 mv => ?_)
    show wpAny _ A.in1 (holding [v] (setAdd a v) >>= _) _ _ s1
    refine wpAny_bind (wpAny_holding (F.put il pv (F.stay (fun o q => mv.heap a o (fun x => far (W.sub _ x)) q) j) fun b g sb j1 => ?_))
    refine wpAny_pure ⟨plainId_quiet PyProof.Rows.F.plain_set_update_loop _, fill_loop W F far m (i + 1) _ (by omega) (W.frame _ s1 _ _ st1 (Nat.le_succ _) fun c hc o q => ?_) j1 fun s2 mv2 j2 => k s2 (Moved.trans W.gtrans ((mv.mono fun c hc => List.mem_cons_of_mem _ hc).then_heap (Nat.le_succ _) fun c o hc q => ?_) mv2) j2⟩
    · rw [sb.2 c (fun x => far (x ▸ hc))]; exact q
    · rw [sb.2 c (fun x => hc (x ▸ List.mem_cons_self))]; exact q
/-- the empty set that is made ahead -/
def noneObj (w : World) : Obj := { cls := .type "set", dict := none, data := .set #[] 0 (.fresh 0 0 (!w.params.followText "set-order")) }
theorem call_set_any {A : Around} {E : Value → Shared → Prop} {s : Shared} {Q : Value → Shared → Prop} {l : Addr} {items : Array Value} {J : Nat → Heap → Prop} (hh : A.handled = none) (hl : s.heap.IsList l items)
    (F : Fills P w s.heap.objs.size items.size (fun i v => items[i]? = some v) J) (j0 : ∀ g : Heap, g.get? s.heap.objs.size = some (noneObj w) → J 0 g)
    (k : ∀ (g : Heap) (tk : Nat), J items.size g → (∀ b o, s.heap.get? b = some o → g.get? b = some o) → Q (.ref s.heap.objs.size) { s with heap := g, toks := tk }) : wpAny (model P w) A (call (.type "set") [.ref l]) Q E s := by
  obtain ⟨mc, mt, made0⟩ := PySem.F.called_set.mro
  have made1 := PySem.F.called_set.made; have made2 := PySem.F.called_set.sub
  refine wpAny_call (codeAny_of_tree ?_); show wpAny _ _ (callAny (.type "set") _) _ _ _
  refine wpAny_pure ⟨Code.quiet_builtin _ (by decide +kernel), codeAny_builtin PySem.F.entry_type_call ?_⟩; rw [Around.under_plain (weight_type_call_type "set" [.ref l] []) rfl]
  have made3 := PySem.F.called_set.notType; have made4 := PySem.F.called_set.canCreate; have made5 := PySem.F.typeCall_set_1 (.ref l)
  repeat (any_goals (first | assumption | wp_step))
  obtain ⟨h1, eh1⟩ : ∃ h1, h1 = s.heap.push (noneObj w) := ⟨_, rfl⟩
  refine codeAny_mono (code_set_led1 (.ref l) (E := E) (Q₁ := fun x s1 => x = .ref s.heap.objs.size ∧ s1 = { s with heap := h1 }) ⟨rfl, by rw [eh1]; rfl⟩) fun r s1 hr => ?_
  cases r with
  | error x => exact hr
  | ok fl => cases fl with
    | ret x =>
      obtain ⟨rfl, rfl⟩ := hr
      have g1 : h1.get? s.heap.objs.size = some (noneObj w) := by rw [eh1]; exact Heap.get?_push_size _ rfl
      have ty : Shared.TypeIs { s with heap := h1 } (.ref s.heap.objs.size) "set" := ⟨_, g1, rfl⟩
      have ini1 := PySem.F.called_set.init.lookup; have ini2 := PySem.F.called_set.init.bind (.ref s.heap.objs.size)
      repeat (any_goals (first | assumption | wp_step))
      refine codeAny_mono (codeAny_call_builtin (R := wants (fun r s2 => r = .none ∧ ∃ g tk, s2 = { s with heap := g, toks := tk } ∧ J items.size g ∧ (∀ b o, s.heap.get? b = some o → g.get? b = some o)) E) PySem.F.called_set.init.plain PySem.F.entry_set_init (check_set_init_1 ty ?_)) fun r2 s2 hr2 => ?_
      · obtain ⟨⟨lc, ld, lx, ls⟩, gl, hc, nl, hd⟩ := hl
        simp only at hc hd
        subst hc; subst hd
        have old : ∀ b o, s.heap.get? b = some o → h1.get? b = some o := fun b o q => by rw [eh1]; exact Heap.get?_push_of_some _ q
        have gl1 := old l _ gl
        have sub1 := PySem.F.sub_list_set; have sub2 := PySem.F.sub_list_frozenset
        have ned : (Value.type "list" == Value.type "dict") = false := by decide
        have il : h1.IsList l items := ⟨_, gl1, rfl, nl, rfl⟩
        have sz : h1.objs.size = s.heap.objs.size + 1 := by rw [eh1]; exact Heap.size_push ..
        unfold Builtin.«set.__init__» noKeywords Builtin.Frozenset.updateFrom
        generalize gPI : pyIter = PI
        wp_walk
        subst gPI
        refine wpAny_pyIter_list il (wpAny_bind (wpAny_runValue ?_))
        have ll := Heap.lt_size gl
        have hh4 : A.in1.in1.in1.handled = none := by simp [hh]
        have li : l ≠ h1.objs.size := Nat.ne_of_lt (by rw [sz]; exact Nat.lt_succ_of_lt ll)
        have lz : s.heap.objs.size ≠ h1.objs.size := Nat.ne_of_lt (by rw [sz]; exact Nat.lt_succ_self _)
        have lo : s.heap.objs.size ≠ l := Nat.ne_of_gt ll
        have far : s.heap.objs.size ∉ [h1.objs.size, l] := by simp; exact ⟨lz, lo⟩
        refine fill_loop ((Walks.list hh4 _ l li items).toS) F far items.size 0 _ (by omega) ⟨⟨_, Heap.get?_push_size _ rfl, rfl, rfl⟩, il.push _⟩ (j0 _ (Heap.get?_push_of_some _ g1)) fun s3 mv j3 => ?_
        obtain ⟨g, gg, gd, tk, go⟩ := s3
        have x1 : gg = s.gens := mv.gens
        have x2 : gd = s.drawn := mv.drawn
        have x3 : go = s.os := mv.os
        subst x1 x2 x3
        show wpAny _ _ _ _ _ _
        refine wpAny_pure ?_; show wpAny _ _ (ret Value.none) _ _ _
        refine wpAny_pure ⟨rfl, g, tk, rfl, j3, fun b o q => mv.heap b o ?_ (Heap.get?_push_of_some _ (old b o q))⟩
        have lb := Heap.lt_size q
        simp; exact ⟨Nat.ne_of_lt lb, Nat.ne_of_lt (by rw [sz]; exact Nat.lt_succ_of_lt lb)⟩
      · cases r2 with
        | error x => exact hr2
        | ok fl2 => cases fl2 with
          | ret r =>
            obtain ⟨rfl, g, tk, rfl, j3, keep⟩ := hr2
            repeat (any_goals (first | assumption | wp_step))
            exact k _ _ j3 keep
          | _ => exact hr2.elim
    | _ => exact hr.elim
end
end Ro
end
section
set_option Elab.async false
set_option linter.all false
set_option maxRecDepth 100000
set_option maxHeartbeats 4000000
namespace Ro
open PySem PySem.Spec PyProof.Rows L2
def putNew {K : Type} [DecidableEq K] (l : List K) (x : K) : List K := if x ∈ l then l else l ++ [x]
def dedup {K : Type} [DecidableEq K] (xs : List K) : List K := xs.foldl putNew []
theorem dedup_take {K : Type} [DecidableEq K] {xs : List K} {i : Nat} {x : K} (h : xs[i]? = some x) : dedup (xs.take (i + 1)) = putNew (dedup (xs.take i)) x := by
  unfold dedup
  rw [List.take_add_one, h, List.foldl_append]
  rfl
theorem dedup_le {K : Type} [DecidableEq K] (xs : List K) : (dedup xs).length ≤ xs.length := by
  have : ∀ (xs acc : List K), (xs.foldl putNew acc).length ≤ acc.length + xs.length := by
    intro xs
    induction xs with
    | nil => intro acc; simp
    | cons x xs ih =>
      intro acc
      have h := ih (putNew acc x)
      have h2 : (putNew acc x).length ≤ acc.length + 1 := by unfold putNew; split <;> simp
      simp only [List.foldl_cons, List.length_cons]
      omega
  have h := this xs []
  unfold dedup
  simp only [List.length_nil] at h
  omega
section
variable {P : Program} {w : World}
theorem fill_strs {a : Addr} {items : Array Value} {xs : List Str} (hs : StrsAre items.toList xs) (hb : xs.length ≤ 1000) :
    Fills P w a items.size (fun i v => items[i]? = some v) fun i g => g.SetOf (PySem.strKind P w) a (fun k => decide (k ∈ dedup (xs.take i))) (dedup (xs.take i)).length where
  stay := fun h ⟨o, es, ep, t, ho, rest⟩ => ⟨o, es, ep, t, h o ho, rest⟩
  put := fun {A E i v s Q} hi hv hj k => by
    obtain ⟨tk, rfl⟩ := SS.strs_at hs i v (by rw [Array.getElem?_toList]; exact hv)
    have hl : xs.length = items.size := by rw [← StrsAre.len_eq hs, Array.length_toList]
    have hx : xs[i]? = some (xs.getD i Str.empty) := by
      have : i < xs.length := by omega
      rw [List.getD_eq_getElem?_getD, List.getElem?_eq_getElem this]
      rfl
    generalize xs.getD i Str.empty = x at hx
    unfold setAdd
    refine wpAny_holding (wpAny_bind ((PySem.strKind P w).pyHash (k := x) (strKind_is _ _ _ _) ?_))
    have hle := dedup_le (xs.take i)
    have hle2 : (xs.take i).length ≤ xs.length := by rw [List.length_take]; omega
    refine wpAny_setAddHashed_of (knd := PySem.strKind P w) (s := { s with toks := s.toks + 1 }) (strKind_is _ _ _ _) rfl hj (by unfold scanBound; omega) fun g sb hg => k _ g sb ?_
    refine SetOf_congr hg (fun y => ?_) ?_
    · rw [dedup_take hx]
      unfold putNew
      by_cases c : x ∈ dedup (xs.take i)
      · rw [if_pos c]
        by_cases e : y = x
        · subst e; simp [c]
        · simp [e]
      · rw [if_neg c]
        simp
    · rw [dedup_take hx]
      unfold putNew
      by_cases c : x ∈ dedup (xs.take i) <;> simp [c]
theorem fill_ints {a : Addr} {items : Array Value} {ns : List Int} (hs : IntsAre items.toList ns) (hb : ns.length ≤ 1000) :
    Fills P w a items.size (fun i v => items[i]? = some v) fun i g => ∃ c, c ≤ i ∧ SetR w g a (fun j => decide (j ∈ ns.take i)) c where
  stay := fun h ⟨c, hc, r⟩ => ⟨c, hc, r.at h⟩
  put := fun {A E i v s Q} hi hv ⟨c, hc, r⟩ k => by
    obtain ⟨tk, rfl⟩ := IntsAre.int_at hs i v (by rw [Array.getElem?_toList]; exact hv)
    have hl : ns.length = items.size := by rw [← IntsAre.length hs, Array.length_toList]
    have hx : ns[i]? = some (ns.getD i 0) := by
      have : i < ns.length := by omega
      rw [List.getD_eq_getElem?_getD, List.getElem?_eq_getElem this]
      rfl
    generalize ns.getD i 0 = x at hx
    unfold setAdd
    refine wpAny_holding (wpAny_bind ((intKind P w).pyHash (k := x) (intKind_is _ _ _ _) ?_))
    refine setR_add_hashed (s := { s with toks := s.toks + 1 }) r (by unfold scanBound; omega) fun g sb r2 => k _ g sb ⟨if decide (x ∈ ns.take i) = true then c else c + 1, by split <;> omega, r2.congr fun j => by rw [List.take_add_one, hx]; simp⟩
end
section
variable {T : Tb} {E : XK} {X : Cx} {a : Expr} {f : EX} {p p2 q pos : Pos}
def tLenSetS (K : PySem.W.Frag) (ta : TE) : TE := fun σ H Q => ta σ H fun x H1 => ∃ (l : Addr) (xs : List Str), x = .ref l ∧ SqL K H1 l (xs.map V.str) ∧ xs.length ≤ 1000 ∧ Q (.int ((dedup xs).length : Nat)) H1
theorem pe_lenSetS {ta : TE} (hc : X.calm = true) (hg : Gl X "len") (hm : X.mg "len" = none) (hg2 : Gl X "set") (hm2 : X.mg "set" = none) (ha : PE X a ta)
    (na : starEach [a] X.env = (false, eval a X.env) :: starEach [] X.env := by rfl) : PE X (.Call (.Name "len" p) [.Call (.Name "set" p2) [a] [] q] [] pos) (tLenSetS X.K ta) := by
  refine ⟨fun pins s σ H Q I h => Call_ (ld_blt I hg hm boot_len (callWith_builtin1 (args_cons ?_ rfl) rfl rfl))⟩
  refine Call_ (ld_blt I hg2 hm2 boot_set (callWith_type1 (args_cons (thn (ha.run pins s σ H _ I h) fun v s1 ⟨x, H1, J, r, k⟩ => args_nil ?_) na) na rfl))
  obtain ⟨l, xs, rfl, hq, hb, k⟩ := k
  cases r
  obtain ⟨its, rv, pl, hz⟩ := J.list hq
  have hs := L2.strsAre_of rv
  have hl : its.toArray.size = xs.length := by rw [List.size_toArray, ← rv.length, List.length_map]
  refine call_set_any (J.ok.hd hc) pl.isList (fill_strs (by simpa using hs) hb) (fun g hg0 => ?_) fun g tk hS keep => args_nil ?_
  · exact SetOf_congr ((setObjOf_fresh (knd := PySem.strKind X.prog X.w) _).setOf hg0 (by unfold scanBound; omega)) (fun _ => by simp [dedup]) (by simp [dedup])
  · have e : xs.take its.toArray.size = xs := List.take_of_length_le (by omega)
    have hS : g.SetOf (PySem.strKind X.prog X.w) s1.heap.objs.size (fun k => decide (k ∈ dedup (xs.take its.toArray.size))) (dedup (xs.take its.toArray.size)).length := hS
    rw [e] at hS
    obtain ⟨o, es, ep, t, ho, hex, hd, _, _, _, hf, hn⟩ := hS
    have hle := dedup_le xs
    have J2 : Inv X pins σ H1 { s1 with heap := g, toks := tk } := J.kept fun b o e => keep b o e
    exact call_len_set ho hex hd hf (by rw [hn] <;> omega) ⟨.int ((dedup xs).length : Nat), H1, J2.tok _, ⟨_, by rw [hn]⟩, k⟩
def lenSetD : D → Option D
  | .lst l => match dStrs l with
    | some xs => if xs.length ≤ 1000 then some (.int ((dedup xs).length : Nat)) else none
    | none => none
  | _ => none
def eLenSet (f : EX) : EX := fun env S => (f env S).bnd fun x S1 => lift (lenSetD x) S1
theorem ie_lenSet (hK : X.K = T.K) (hc : X.calm = true) (hg : Gl X "len") (hm : X.mg "len" = none) (hg2 : Gl X "set") (hm2 : X.mg "set" = none) (ha : IE T E X a f)
    (na : starEach [a] X.env = (false, eval a X.env) :: starEach [] X.env := by rfl) : IE T E X (.Call (.Name "len" p) [.Call (.Name "set" p2) [a] [] q] [] pos) (eLenSet f) :=
  PE.mono (pe_lenSetS hc hg hm hg2 hm2 ha na) fun σ H Q ⟨w, env, S, r0, e, q⟩ => ⟨w, env, S, r0, e, (RP.bnd q).mono (fun x S1 h1 w1 H1 v l1 r1 p1 => by
    unfold lenSetD at h1
    split at h1
    · rename_i l
      split at h1
      · rename_i xs hx
        split at h1
        · rename_i hb
          cases p1 with
          | lst h3 h4 =>
            have e := reps_strs h4 hx
            subst e
            exact ⟨_, xs, rfl, by rw [hK]; exact sql_sub r1 (.inl (.inl h3)), hb, h1 w1 H1 _ l1 r1 (.int _)⟩
        · exact (show False from h1).elim
      · exact (show False from h1).elim
    · exact (show False from h1).elim) fun _ _ _ x => x⟩
end
def insS (x : Int) : List Int → List Int
  | [] => [x]
  | y :: l => if x < y then x :: y :: l else if x = y then y :: l else y :: insS x l
def ssort (l : List Int) : List Int := l.foldr insS []
theorem mem_insS {x z : Int} : ∀ {l : List Int}, z ∈ insS x l ↔ z = x ∨ z ∈ l
  | [] => by simp [insS]
  | y :: l => by
    unfold insS
    split
    · simp
    · split
      · rename_i h; subst h; simp
      · simp only [List.mem_cons, mem_insS]
        constructor
        · rintro (h | h | h) <;> simp [h]
        · rintro (h | h | h) <;> simp [h]
theorem mem_ssort {z : Int} : ∀ {l : List Int}, z ∈ ssort l ↔ z ∈ l
  | [] => by simp [ssort]
  | x :: l => by
    show z ∈ insS x (ssort l) ↔ _
    rw [mem_insS, mem_ssort, List.mem_cons]
theorem asc_insS {x : Int} : ∀ {l : List Int}, l.Pairwise (· < ·) → (insS x l).Pairwise (· < ·)
  | [], _ => by simp [insS]
  | y :: l, h => by
    have h1 := List.pairwise_cons.mp h
    unfold insS
    split
    · rename_i c
      refine List.pairwise_cons.mpr ⟨fun z hz => ?_, h⟩
      rcases List.mem_cons.mp hz with rfl | hz
      · exact c
      · have := h1.1 z hz; omega
    · split
      · exact h
      · refine List.pairwise_cons.mpr ⟨fun z hz => ?_, asc_insS h1.2⟩
        rcases mem_insS.mp hz with rfl | hz
        · omega
        · exact h1.1 z hz
theorem asc_ssort : ∀ (l : List Int), (ssort l).Pairwise (· < ·)
  | [] => .nil
  | x :: l => asc_insS (asc_ssort l)
theorem asc_uniq : ∀ {l m : List Int}, l.Pairwise (· < ·) → m.Pairwise (· < ·) → (∀ z, z ∈ l ↔ z ∈ m) → l = m
  | [], [], _, _, _ => rfl
  | [], y :: m, _, _, h => absurd ((h y).mpr (by simp)) (by simp)
  | x :: l, [], _, _, h => absurd ((h x).mp (by simp)) (by simp)
  | x :: l, y :: m, h1, h2, h => by
    have a1 := List.pairwise_cons.mp h1
    have a2 := List.pairwise_cons.mp h2
    have e : x = y := by
      rcases List.mem_cons.mp ((h x).mp (by simp)) with e | e
      · exact e
      · rcases List.mem_cons.mp ((h y).mpr (by simp)) with e2 | e2
        · exact e2.symm
        · have := a2.1 x e; have := a1.1 y e2; omega
    subst e
    congr 1
    refine asc_uniq a1.2 a2.2 fun z => ⟨fun hz => ?_, fun hz => ?_⟩
    · rcases List.mem_cons.mp ((h z).mp (by simp [hz])) with e | e
      · subst e; have := a1.1 z hz; omega
      · exact e
    · rcases List.mem_cons.mp ((h z).mpr (by simp [hz])) with e | e
      · subst e; have := a2.1 z hz; omega
      · exact e
theorem ints_reps {T : Tb} {w : Wd} : ∀ (ns : List Int), Reps T w (ns.map D.int) (ns.map V.int)
  | [] => .nil
  | n :: ns => .cons (.int n) (ints_reps ns)
section
variable {T : Tb} {E : XK} {X : Cx} {a : Expr} {f : EX} {p p2 q pos : Pos}
theorem sorted_at {pins : List (Addr × Obj)} {σ : L2.St} {H1 : Hp} {s : Shared} {a : Addr} {ns : List Int} {c : Nat} {Q : VK} (J : Inv X pins σ H1 s) (hh : X.A.handled = none) (R : SetR X.w s.heap a (fun j => decide (j ∈ ns)) c) (hc : c < 64)
    (k : ∀ r, H1 r = none → Q (.ref r) (upd H1 r (.lst ((ssort ns).map V.int)))) : wpAny (model X.prog X.w) X.A (call (.builtin "sorted") [.ref a]) (EP X pins σ Q) X.xe s := by
  refine sorted_set R hh hc fun s2 r out cc ms k2 g2 o2 hp hg hi as hmem hlen => ?_
  have ems : ms = ssort ns := asc_uniq as (asc_ssort ns) fun z => by rw [hmem, mem_ssort]; simp
  subst ems
  have hn : H1 r = none := J.hok.fresh hp
  have hle : ((ssort ns).map V.int).length ≤ sizeLine := by rw [List.length_map, hlen, sizeLine_eq]; omega
  have J3 : Inv X pins σ (upd H1 r (.lst ((ssort ns).map V.int))) { s with heap := s2.heap, gens := s2.gens, drawn := s2.drawn, toks := s2.toks } :=
    J.call (ch := []) (Un.laid k2 hp hn) (J.hok.laid k2 hp ⟨hle, out.toList, cc, vals_of_ints hi, hg⟩) (by rw [g2]; exact J.bare) (fun _ z => nomatch z)
  have es : s2 = { s with heap := s2.heap, gens := s2.gens, drawn := s2.drawn, toks := s2.toks } := by
    cases s2; cases s; cases o2; rfl
  rw [es]
  exact ⟨.ref r, _, J3, rfl, k r hn⟩
def tSortSet (K : PySem.W.Frag) (ta : TE) : TE := fun σ H Q => ta σ H fun x H1 => ∃ (l : Addr) (ns : List Int), x = .ref l ∧ SqL K H1 l (ns.map V.int) ∧ ns.length ≤ 60 ∧ ∀ r, H1 r = none → Q (.ref r) (upd H1 r (.lst ((ssort ns).map V.int)))
theorem pe_sortSet {ta : TE} (hc : X.calm = true) (hg : Gl X "sorted") (hm : X.mg "sorted" = none) (hg2 : Gl X "set") (hm2 : X.mg "set" = none) (ha : PE X a ta)
    (na : starEach [a] X.env = (false, eval a X.env) :: starEach [] X.env := by rfl) : PE X (.Call (.Name "sorted" p) [.Call (.Name "set" p2) [a] [] q] [] pos) (tSortSet X.K ta) := by
  refine ⟨fun pins s σ H Q I h => Call_ (ld_blt I hg hm boot_sorted (callWith_builtin1 (args_cons ?_ rfl) rfl rfl))⟩
  refine Call_ (ld_blt I hg2 hm2 boot_set (callWith_type1 (args_cons (thn (ha.run pins s σ H _ I h) fun v s1 ⟨x, H1, J, r, k⟩ => args_nil ?_) na) na rfl))
  obtain ⟨l, ns, rfl, hq, hb, k⟩ := k
  cases r
  obtain ⟨its, rv, pl, hz⟩ := J.list hq
  have hs := ints_of_vals rv
  have hl : its.toArray.size = ns.length := by rw [List.size_toArray, ← rv.length, List.length_map]
  refine call_set_any (J.ok.hd hc) pl.isList (fill_ints (ns := ns) (by simpa using hs) (by omega)) (fun g hg0 => ⟨0, Nat.le_refl 0, setR_new_at hg0⟩) fun g tk hj keep => args_nil ?_
  obtain ⟨c, hc2, R⟩ : ∃ c, c ≤ its.toArray.size ∧ SetR X.w g s1.heap.objs.size (fun j => decide (j ∈ ns.take its.toArray.size)) c := hj
  have e : ns.take its.toArray.size = ns := List.take_of_length_le (by omega)
  rw [e] at R
  have J2 : Inv X pins σ H1 { s1 with heap := g, toks := tk } := J.kept fun b o e => keep b o e
  exact sorted_at J2 (J.ok.hd hc) R (by omega) k
def sortSetD : D → Option D
  | .lst l => match dInts l with
    | some ns => if ns.length ≤ 60 then some (.lst ((ssort ns).map D.int)) else none
    | none => none
  | _ => none
def eSortSet (f : EX) : EX := fun env S => (f env S).bnd fun x S1 => lift (sortSetD x) S1
theorem ie_sortSet (hK : X.K = T.K) (hc : X.calm = true) (hg : Gl X "sorted") (hm : X.mg "sorted" = none) (hg2 : Gl X "set") (hm2 : X.mg "set" = none) (ha : IE T E X a f)
    (na : starEach [a] X.env = (false, eval a X.env) :: starEach [] X.env := by rfl) : IE T E X (.Call (.Name "sorted" p) [.Call (.Name "set" p2) [a] [] q] [] pos) (eSortSet f) :=
  PE.mono (pe_sortSet hc hg hm hg2 hm2 ha na) fun σ H Q ⟨w, env, S, r0, e, q⟩ => ⟨w, env, S, r0, e, (RP.bnd q).mono (fun x S1 h1 w1 H1 v l1 r1 p1 => by
    unfold sortSetD at h1
    split at h1
    · rename_i l
      split at h1
      · rename_i ns hx
        split at h1
        · rename_i hb
          cases p1 with
          | lst h3 h4 =>
            have e := reps_ints h4 hx
            subst e
            refine ⟨_, ns, rfl, by rw [hK]; exact sql_sub r1 (.inl (.inl h3)), hb, fun r hr => ?_⟩
            obtain ⟨l2, r2⟩ := r1.new hr (.lst ((ssort ns).map V.int))
            exact h1 _ _ _ (l1.trans l2) r2 (.lst upd_same (ints_reps _))
        · exact (show False from h1).elim
      · exact (show False from h1).elim
    · exact (show False from h1).elim) fun _ _ _ x => x⟩
end
end Ro
end
section
set_option Elab.async false
set_option linter.all false
set_option maxRecDepth 100000
set_option maxHeartbeats 4000000
namespace Ro
open PySem PySem.Spec PyProof.Rows L2
def PureX (f : EX) : Prop := ∀ env S d S', f env S = .ok d S' → S' = S
def PureB (f : BX) : Prop := ∀ env S d S', f env S = .ok d S' → S' = S
theorem px_var (i : Nat) : PureX (eVar i) := fun env S d S' h => by
  unfold eVar at h
  split at h
  · cases h; rfl
  · cases h
theorem px_c (d : D) : PureX (eC d) := fun env S d S' h => by cases h; rfl
theorem px_idxB {f g : EX} (hf : PureX f) (hg : PureX g) : PureX (eIdxB f g) := fun env S d S' h => by
  have h : ((f env S).bnd fun x S1 => (g env S1).bnd fun y S2 => lift (idxB x y S2) S2) = .ok d S' := h
  cases z : f env S with
  | ok x S1 =>
    rw [z] at h
    have e1 := hf _ _ _ _ z
    have h : ((g env S1).bnd fun y S2 => lift (idxB x y S2) S2) = .ok d S' := h
    cases z2 : g env S1 with
    | ok y S2 =>
      rw [z2] at h
      have e2 := hg _ _ _ _ z2
      have h : lift (idxB x y S2) S2 = .ok d S' := h
      cases z3 : idxB x y S2 with
      | none => rw [z3] at h; cases h
      | some r => rw [z3] at h; cases h; rw [e2, e1]
    | err _ _ _ => rw [z2] at h; cases h
    | bad => rw [z2] at h; cases h
  | err _ _ _ => rw [z] at h; cases h
  | bad => rw [z] at h; cases h
theorem px_attr {cf : String → List String} {cs : List String} {a : String} {f : EX} (hf : PureX f) : PureX (eAttr cf cs a f) := fun env S d S' h => by
  have h : ((f env S).bnd fun x S1 => lift (attrD cf cs a x S1) S1) = .ok d S' := h
  cases z : f env S with
  | ok x S1 =>
    rw [z] at h
    have e1 := hf _ _ _ _ z
    have h : lift (attrD cf cs a x S1) S1 = .ok d S' := h
    cases z3 : attrD cf cs a x S1 with
    | none => rw [z3] at h; cases h
    | some r => rw [z3] at h; cases h; exact e1
  | err _ _ _ => rw [z] at h; cases h
  | bad => rw [z] at h; cases h
theorem px_op {op : D → D → Option D} {f g : EX} (hf : PureX f) (hg : PureX g) : PureX (eOp op f g) := fun env S d S' h => by
  have h : ((f env S).bnd fun x S1 => (g env S1).bnd fun y S2 => lift (op x y) S2) = .ok d S' := h
  cases z : f env S with
  | ok x S1 =>
    rw [z] at h
    have e1 := hf _ _ _ _ z
    have h : ((g env S1).bnd fun y S2 => lift (op x y) S2) = .ok d S' := h
    cases z2 : g env S1 with
    | ok y S2 =>
      rw [z2] at h
      have e2 := hg _ _ _ _ z2
      have h : lift (op x y) S2 = .ok d S' := h
      cases z3 : op x y with
      | none => rw [z3] at h; cases h
      | some r => rw [z3] at h; cases h; rw [e2, e1]
    | err _ _ _ => rw [z2] at h; cases h
    | bad => rw [z2] at h; cases h
  | err _ _ _ => rw [z] at h; cases h
  | bad => rw [z] at h; cases h
theorem pb_yes : PureB bYes := fun env S d S' h => by cases h; rfl
theorem pb_val {f : EX} (hf : PureX f) : PureB (bVal f) := fun env S d S' h => by
  have h : ((f env S).bnd fun x S1 => match x with
    | .bl b => (.ok b S1 : R Bool)
    | _ => .bad) = .ok d S' := h
  cases z : f env S with
  | ok x S1 =>
    rw [z] at h
    have e1 := hf _ _ _ _ z
    cases x with
    | bl b => cases h; exact e1
    | _ => cases h
  | err _ _ _ => rw [z] at h; cases h
  | bad => rw [z] at h; cases h
theorem RP.know {α : Type} {r : R α} {Pk : α → Store → Prop} {Pe : String → List D → Store → Prop} {K : α → Store → Prop} (h : RP r Pk Pe) (k : ∀ a S, r = .ok a S → K a S) : RP r (fun a S => K a S ∧ Pk a S) Pe := by
  cases r with
  | ok a S => exact ⟨k _ _ rfl, h⟩
  | err c fs S => exact h
  | bad => exact h
section
variable {T : Tb} {E : XK} {X : Cx} {a : Expr} {f : EX} {pos : Pos}
structure ItRn (T : Tb) (w : Wd) (S : Store) (ds : List D) (J : It) : Prop where
  go : ∀ (i : Nat) H w', w.sb w' → WR T w' S H → i < ds.length → J.go i H
  stop : ∀ (i : Nat) H w', w.sb w' → WR T w' S H → ds.length ≤ i → J.stop i H
  yld : ∀ (i : Nat) H x H' w' d, w.sb w' → WR T w' S H → ds[i]? = some d → J.yld i H x H' → ∃ w2, w'.le w2 ∧ WR T w2 S H' ∧ Rep T w2 d x
theorem itR_ref {w : Wd} {S : Store} {n : Nat} {l : List D} {p : Addr} (hS : S[n]? = some (.lst l)) (ha : w.am[n]? = some p) : ItRn T w S l (Itl T.K p) where
  go := fun i H w' sb r hi => by
    obtain ⟨vs, h1, h2⟩ := r.cell n _ p hS (sb.at ha)
    obtain ⟨v, k1, _⟩ := h2.get (List.getElem?_eq_getElem hi)
    exact ⟨vs, v, .inl (.inl h1), k1⟩
  stop := fun i H w' sb r hi => by
    obtain ⟨vs, h1, h2⟩ := r.cell n _ p hS (sb.at ha)
    exact ⟨vs, .inl (.inl h1), by rw [← h2.length]; exact hi⟩
  yld := fun i H x H' w' d sb r hd y => by
    obtain ⟨rfl, y⟩ := y
    obtain ⟨vs, h1, h2⟩ := r.cell n _ p hS (sb.at ha)
    obtain ⟨v, k1, k2⟩ := h2.get hd
    have e := y vs (.inl (.inl h1))
    rw [k1] at e
    cases e
    exact ⟨w', Wd.le.refl _, r, k2⟩
def refL1 (d : D) (S : Store) : Option (List D) := match d with
  | .ref n => match S[n]? with
    | some (.lst l) => some l
    | _ => none
  | _ => none
/-- over a list that is being made -/
def eLCR (vs : List Nat) (it : EX) (p : Pat) (fb : BX) (el : EX) : EX := fun env S => (it env S).bnd fun d S1 => match refL1 d S1 with
  | some l => (lcLoop p fb el (wipeE env vs) l [] S1).bnd fun ys S2 => .ok (.lst ys) S2
  | none => .bad
def tIR (T : Tb) (E : XK) (f : EX) : TI := fun σ H R => ∃ w env S, WR T w S H ∧ ER T w env σ ∧ RP (f env S) (fun d S' => ∃ l, refL1 d S' = some l ∧ ∀ w' H' J, w.le w' → WR T w' S' H' → ItRn T w' S' l J → R J H') (XW T w E)
theorem ii_ref {tg : Expr} (hK : X.K = T.K) (h : IE T E X a f) : PI X tg a (tIR T E f) :=
  PI.mono (pi_list h) fun σ H Rr ⟨w, env, S, r, e, q⟩ => ⟨w, env, S, r, e, q.mono (fun d S1 ⟨l, h0, h1⟩ w1 H1 v l1 r1 p1 => by
    unfold refL1 at h0
    split at h0
    · rename_i n
      split at h0
      · rename_i l2 hS
        cases h0
        cases p1 with
        | ref hn =>
          obtain ⟨vs, k1, k2⟩ := r1.cell _ _ _ hS hn
          refine ⟨_, rfl, ⟨vs, .inl (.inl k1)⟩, ?_⟩
          rw [hK]
          exact h1 w1 H1 _ l1 r1 (itR_ref hS hn)
      · cases h0
    · cases h0) fun _ _ _ x => x⟩
theorem lc_readR {p : Pat} {vs : List Nat} {fb : BX} {el : EX} {it : EX} {σ : St} {H : Hp} {Q : VK} (pb : PureB fb) (pe : PureX el) (q : tI T E (eLCR vs it p fb el) σ H Q) : tLc (tIR T E it) (gI T vs p) (tIb T E00 fb) (tI T E00 el) vs σ H Q := by
  obtain ⟨w, env, S, r, e, q⟩ := q
  refine ⟨w, env, S, r, e, (RP.bnd q).mono (fun dd S1 h1 => ?_) fun _ _ _ x => x⟩
  cases z0 : refL1 dd S1 with
  | none => rw [z0] at h1; exact (show False from h1).elim
  | some ds =>
  rw [z0] at h1
  refine ⟨ds, rfl, fun w1 H1 J l1 r1 it => ?_⟩
  intro Dp hD
  have h1 := RP.bnd h1
  have r0 := r1.hide hD
  have e1 := er_wipe (e.mono l1) vs
  refine ⟨fun i m H => m = ds.length - i ∧ i ≤ ds.length ∧ ∃ w2 acc, w1.sb w2 ∧ w2.hid = (Dp, acc) :: w1.hid ∧ WR T w2 S1 H ∧ RP (lcLoop p fb el (wipeE env vs) (ds.drop i) acc S1) (fun ys S' => ∀ w' H' v, w1.le w' → WR T w' S' H' → Rep T w' (.lst ys) v → Q v H') (fun _ _ _ => False), ⟨ds.length, by simp, Nat.zero_le _, ⟨w1.G, w1.am, (Dp, []) :: w1.hid⟩, [], ⟨fun _ _ h => h, [], by simp⟩, rfl, r0, ?_⟩, ?_⟩
  · have h2 : RP (lcLoop p fb el (wipeE env vs) ds [] S1) (fun ys S' => ∀ w' H' v, w.le w' → WR T w' S' H' → Rep T w' (.lst ys) v → Q v H') (XW T w E) := h1
    cases z : lcLoop p fb el (wipeE env vs) ds [] S1 with
    | ok ys S2 =>
      rw [z] at h2
      show RP (lcLoop p fb el (wipeE env vs) (ds.drop 0) [] S1) _ _
      rw [List.drop_zero, z]
      exact fun w' H' v l => h2 w' H' v (l1.trans l)
    | err c fs S2 => exact (lc_noerr z).elim
    | bad => rw [z] at h2; exact h2.elim
  · rintro i m H ⟨rfl, hi, w2, acc, sb, hh, r2, h2⟩
    by_cases hlt : i < ds.length
    · rw [List.drop_eq_getElem_cons hlt] at h2
      refine .inr ⟨it.go i H w2 sb r2 hlt, fun H' => i + 1 ≤ ds.length ∧ ∃ w2 acc, w1.sb w2 ∧ w2.hid = (Dp, acc) :: w1.hid ∧ WR T w2 S1 H' ∧ RP (lcLoop p fb el (wipeE env vs) (ds.drop (i + 1)) acc S1) (fun ys S' => ∀ w' H' v, w1.le w' → WR T w' S' H' → Rep T w' (.lst ys) v → Q v H') (fun _ _ _ => False), fun H' h => ⟨ds.length - (i + 1), by omega, rfl, h⟩, fun x H' y => ?_⟩
      obtain ⟨w3, l3, r3, p3⟩ := it.yld i H x H' w2 ds[i] sb r2 (List.getElem?_eq_getElem hlt) y
      unfold lcLoop at h2
      cases z : p ds[i] (wipeE env vs) with
      | none => rw [z] at h2; exact (show False from h2).elim
      | some env1 =>
        rw [z] at h2
        have h2 := (RP.nox (RP.bnd h2) (XW T w3 E00)).know (K := fun _ S' => S' = S1) fun a S' h => pb _ _ _ _ h
        refine ⟨w3, wipeE env vs, S1, ds[i], env1, r3, e1.monoS (sb.trans l3.tosb), p3, z, fun σ2 q2 z2 => ⟨z2.trans (wipe_wipe σ vs), w3, env1, S1, r3, q2, h2.mono (fun k S3 h3 w4 H4 l4 r4 => ?_) fun _ _ _ x => x⟩⟩
        obtain ⟨rfl, h3⟩ := h3
        have hh4 : w4.hid = (Dp, acc) :: w1.hid := by rw [l4.hid, l3.hid, hh]
        cases k with
        | false =>
          rw [if_neg Bool.false_ne_true] at h3
          dsimp only
          rw [if_neg Bool.false_ne_true]
          exact ⟨hlt, w4, acc, (sb.trans l3.tosb).trans l4.tosb, hh4, r4, h3⟩
        | true =>
          rw [if_pos rfl] at h3
          dsimp only
          rw [if_pos rfl]
          have h3 := (RP.nox (RP.bnd h3) (XW T w4 E00)).know (K := fun _ S' => S' = S3) fun a S' h => pe _ _ _ _ h
          refine ⟨w4, env1, S3, r4, q2.mono l4, h3.mono (fun y S5 h5 w5 H5 v l5 r5 p5 => ?_) fun _ _ _ x => x⟩
          obtain ⟨rfl, h5⟩ := h5
          by_cases hl : acc.length < LINE
          · rw [if_pos hl] at h5
            have hh5 : w5.hid = (Dp, acc) :: w1.hid := by rw [l5.hid, hh4]
            obtain ⟨us, k1, k2, k3⟩ := r5.hidPut hh5 p5
            have sb5 : w1.sb w5 := ((sb.trans l3.tosb).trans l4.tosb).trans l5.tosb
            exact ⟨us, k1, by rw [k2, sizeLine_eq]; exact hl, hlt, ⟨w5.G, w5.am, (Dp, acc ++ [y]) :: w1.hid⟩, acc ++ [y], ⟨sb5.G, sb5.am⟩, rfl, k3, h5⟩
          · rw [if_neg hl] at h5
            exact (show False from h5).elim
    · have e0 : ds.drop i = [] := List.drop_of_length_le (by omega)
      rw [e0] at h2
      obtain ⟨us, k1, k2, k3⟩ := r2.shown hh
      exact .inl ⟨it.stop i H w2 sb r2 (by omega), h2 _ H _ ⟨sb.trans k1, rfl⟩ k2 k3⟩
theorem ie_lcR {tg iter elt : Expr} {ifs : List Expr} {scope : Scope} {own : List (Str × Nat)} {p : Pat} {fb : BX} {el : EX} {it : EX} (hK : X.K = T.K) (pb : PureB fb) (pe : PureX el) (hc : X.calm = true) (hN : X.N.Nodup) (hi : IE T E X iter it) (ok : BlkOk X.N X.env.scope scope own)
    (hg : ∀ (s : Shared) (H : Hp) (C : Addr) (cl : List (Str × Addr)) (fp : List Addr), IG T (X.blk s H scope (compEnvC scope cl C X.env) fp) (own.map (·.2)) tg p) (ht : ∀ (s : Shared) (H : Hp) (C : Addr) (cl : List (Str × Addr)) (fp : List Addr), ITs T E00 (X.blk s H scope (compEnvC scope cl C X.env) fp) ifs fb)
    (he : ∀ (s : Shared) (H : Hp) (C : Addr) (cl : List (Str × Addr)) (fp : List Addr), IE T E00 (X.blk s H scope (compEnvC scope cl C X.env) fp) elt el) (hs : ∀ x, foldedSetIterable iter X.env x = pure x := by intro _; rfl) :
    IE T E X (.ListComp elt [⟨tg, iter, ifs, 0⟩] scope pos) (eLCR (own.map (·.2)) it p fb el) :=
  PE.mono (pe_lc hc hN (ii_ref hK hi) ok hg ht he hs) fun σ H Q q => lc_readR pb pe q
end
end Ro
end
section
set_option Elab.async false
set_option linter.all false
set_option maxRecDepth 100000
set_option maxHeartbeats 4000000
namespace Ro
open PySem PySem.Spec PyProof.Rows L2 L2H LamX PySem.RoXb
def cf : String → List String
  | "NoSpending" => ["part"]
  | "NoRule" => ["part"]
  | "NoJourney" => ["part"]
  | "NoText" => ["row"]
  | "TooMany" => ["many", "most"]
  | "NoRate" => ["money", "day"]
  | "NoDay" => ["day"]
  | "NoName" => ["name"]
  | "NoHeads" => ["heads"]
  | "Rule" => ["name", "deed", "bound", "kind", "town", "first", "last", "over", "paper"]
  | "Rulebook" => ["own_rules"]
  | _ => []
def tysL : List Ty := [.b "NoneType", .b "bool", .b "int", .b "str", .b "tuple", .b "list", .b "dict", .o "Rule", .o "Rulebook"]
def b__law_name : ES :=
  (sSeq (sSet 1 (eC (.str "abcdefghijklmnopqrstuvwxyz")))
  (sSeq (sSet 2 (eIdxB (eLst (aCons (eC (.int 1)) (aCons (eC (.int 8)) (aCons (eOp addD (eC (.int 1)) (eFn (callM m__law_take 2 0 2 [(0, 0), (0, 1)] []) (aCons (eVar 0) (aCons (eC (.int 8)) aNil)) aNil)) aNil)))) (eFn (callM m__law_take 2 0 2 [(0, 0), (0, 1)] []) (aCons (eVar 0) (aCons (eC (.int 3)) aNil)) aNil)))
  (sRet (eJoin (eC (.str "")) (eLC [3] (itR1 (aCons (eVar 2) aNil)) (pName 3) bYes (eIdxB (eVar 1) (eFn (callM m__law_take 2 0 2 [(0, 0), (0, 1)] []) (aCons (eVar 0) (aCons (eC (.int 26)) aNil)) aNil)))))))
def m__law_name : Fn := fnM 4 b__law_name
def t__law_name_3 : ES := (sRet (eJoin (eC (.str "")) (eLC [3] (itR1 (aCons (eVar 2) aNil)) (pName 3) bYes (eIdxB (eVar 1) (eFn (callM m__law_take 2 0 2 [(0, 0), (0, 1)] []) (aCons (eVar 0) (aCons (eC (.int 26)) aNil)) aNil)))))
def t__law_name_2 : ES := (sSeq (sSet 2 (eIdxB (eLst (aCons (eC (.int 1)) (aCons (eC (.int 8)) (aCons (eOp addD (eC (.int 1)) (eFn (callM m__law_take 2 0 2 [(0, 0), (0, 1)] []) (aCons (eVar 0) (aCons (eC (.int 8)) aNil)) aNil)) aNil)))) (eFn (callM m__law_take 2 0 2 [(0, 0), (0, 1)] []) (aCons (eVar 0) (aCons (eC (.int 3)) aNil)) aNil))) t__law_name_3)
theorem x__law_name : b__law_name = (sSeq (sSet 1 (eC (.str "abcdefghijklmnopqrstuvwxyz"))) t__law_name_2) := rfl
def b__law_bound : ES :=
  (sSeq (sSet 2 (eOp powD (eC (.int 10)) (eC (.int 12))))
  (sSeq (sIf (bVal (eOp eqD (eVar 1) (eC (.str "cut")))) (sRet (eIdxB (eLst (aCons (eC (.int 0)) (aCons (eOp addD (eC (.int 1)) (eFn (callM m__law_take 2 0 2 [(0, 0), (0, 1)] []) (aCons (eVar 0) (aCons (eC (.int 300)) aNil)) aNil)) (aCons (eVar 2) (aCons (eFn (callM m__law_take 2 0 2 [(0, 0), (0, 1)] []) (aCons (eVar 0) (aCons (eOp addD (eVar 2) (eC (.int 1))) aNil)) aNil) aNil))))) (eFn (callM m__law_take 2 0 2 [(0, 0), (0, 1)] []) (aCons (eVar 0) (aCons (eC (.int 4)) aNil)) aNil))) sPass)
  (sSeq (sIf (bVal (eOp eqD (eVar 1) (eC (.str "each")))) (sRet (eIdxB (eLst (aCons (eC (.int 0)) (aCons (eC (.int 1)) (aCons (eC (.int 2)) (aCons (eC (.int 1000)) (aCons (eFn (callM m__law_take 2 0 2 [(0, 0), (0, 1)] []) (aCons (eVar 0) (aCons (eC (.int 1001)) aNil)) aNil) aNil)))))) (eFn (callM m__law_take 2 0 2 [(0, 0), (0, 1)] []) (aCons (eVar 0) (aCons (eC (.int 5)) aNil)) aNil))) sPass)
  (sSeq (sIf (bVal (eOp eqD (eVar 1) (eC (.str "hundredths")))) (sRet (eIdxB (eLst (aCons (eC (.int 0)) (aCons (eC (.int 1)) (aCons (eC (.int 50)) (aCons (eC (.int 99)) (aCons (eC (.int 100)) (aCons (eFn (callM m__law_take 2 0 2 [(0, 0), (0, 1)] []) (aCons (eVar 0) (aCons (eC (.int 101)) aNil)) aNil) aNil))))))) (eFn (callM m__law_take 2 0 2 [(0, 0), (0, 1)] []) (aCons (eVar 0) (aCons (eC (.int 6)) aNil)) aNil))) sPass)
  (sRet (eC (.int 0)))))))
def m__law_bound : Fn := fnM 3 b__law_bound
def t__law_bound_8 : ES := (sRet (eC (.int 0)))
def t__law_bound_6 : ES := (sSeq (sIf (bVal (eOp eqD (eVar 1) (eC (.str "hundredths")))) (sRet (eIdxB (eLst (aCons (eC (.int 0)) (aCons (eC (.int 1)) (aCons (eC (.int 50)) (aCons (eC (.int 99)) (aCons (eC (.int 100)) (aCons (eFn (callM m__law_take 2 0 2 [(0, 0), (0, 1)] []) (aCons (eVar 0) (aCons (eC (.int 101)) aNil)) aNil) aNil))))))) (eFn (callM m__law_take 2 0 2 [(0, 0), (0, 1)] []) (aCons (eVar 0) (aCons (eC (.int 6)) aNil)) aNil))) sPass) t__law_bound_8)
def t__law_bound_4 : ES := (sSeq (sIf (bVal (eOp eqD (eVar 1) (eC (.str "each")))) (sRet (eIdxB (eLst (aCons (eC (.int 0)) (aCons (eC (.int 1)) (aCons (eC (.int 2)) (aCons (eC (.int 1000)) (aCons (eFn (callM m__law_take 2 0 2 [(0, 0), (0, 1)] []) (aCons (eVar 0) (aCons (eC (.int 1001)) aNil)) aNil) aNil)))))) (eFn (callM m__law_take 2 0 2 [(0, 0), (0, 1)] []) (aCons (eVar 0) (aCons (eC (.int 5)) aNil)) aNil))) sPass) t__law_bound_6)
def t__law_bound_2 : ES := (sSeq (sIf (bVal (eOp eqD (eVar 1) (eC (.str "cut")))) (sRet (eIdxB (eLst (aCons (eC (.int 0)) (aCons (eOp addD (eC (.int 1)) (eFn (callM m__law_take 2 0 2 [(0, 0), (0, 1)] []) (aCons (eVar 0) (aCons (eC (.int 300)) aNil)) aNil)) (aCons (eVar 2) (aCons (eFn (callM m__law_take 2 0 2 [(0, 0), (0, 1)] []) (aCons (eVar 0) (aCons (eOp addD (eVar 2) (eC (.int 1))) aNil)) aNil) aNil))))) (eFn (callM m__law_take 2 0 2 [(0, 0), (0, 1)] []) (aCons (eVar 0) (aCons (eC (.int 4)) aNil)) aNil))) sPass) t__law_bound_4)
theorem x__law_bound : b__law_bound = (sSeq (sSet 2 (eOp powD (eC (.int 10)) (eC (.int 12)))) t__law_bound_2) := rfl
def b__law_ruled : ES :=
  (sSeq (sSet 2 (eIdxB (eLst (aCons (eC (.str "let")) (aCons (eC (.str "cut")) (aCons (eC (.str "each")) (aCons (eC (.str "hundredths")) (aCons (eC (.str "refuse")) aNil)))))) (eFn (callM m__law_take 2 0 2 [(0, 0), (0, 1)] []) (aCons (eVar 0) (aCons (eC (.int 5)) aNil)) aNil)))
  (sSeq (sSet 3 (eFn (callM m__law_bound 2 0 2 [(0, 0), (0, 1)] []) (aCons (eVar 0) (aCons (eVar 2) aNil)) aNil))
  (sSeq (sSet 4 (eOp mulD (eFn (callM m__law_take 2 0 2 [(0, 0), (0, 1)] []) (aCons (eVar 0) (aCons (eC (.int 6)) aNil)) aNil) (eB bInt (aCons (eOp gtD (eFn (callM m__law_take 2 0 2 [(0, 0), (0, 1)] []) (aCons (eVar 0) (aCons (eC (.int 3)) aNil)) aNil) (eC (.int 0))) aNil))))
  (sSeq (sSet 5 (eIdxB (eLst (aCons (eC .non) (aCons (eC (.str "bed")) (aCons (eC (.str "fee")) (aCons (eC (.str "meal")) (aCons (eC (.str "ride")) (aCons (eC (.str "sundry")) aNil))))))) (eVar 4)))
  (sSeq (sSet 6 (eIdxB (eLst (aCons (eC .non) (aCons (eFn (callM m__law_take 2 0 2 [(0, 0), (0, 1)] []) (aCons (eVar 0) (aCons (eC (.int 4)) aNil)) aNil) aNil))) (eFn (callM m__law_take 2 0 2 [(0, 0), (0, 1)] []) (aCons (eVar 0) (aCons (eC (.int 2)) aNil)) aNil)))
  (sSeq (sSet 7 (eIdxB (eLst (aCons (eC (.int 0)) (aCons (eC (.int 0)) (aCons (eFn (callM m__law_take 2 0 2 [(0, 0), (0, 1)] []) (aCons (eVar 0) (aCons (eC (.int 60)) aNil)) aNil) aNil)))) (eFn (callM m__law_take 2 0 2 [(0, 0), (0, 1)] []) (aCons (eVar 0) (aCons (eC (.int 3)) aNil)) aNil)))
  (sSeq (sSet 8 (eIdxB (eLst (aCons (eC (.int 59)) (aCons (eC (.int 59)) (aCons (eOp addD (eVar 7) (eFn (callM m__law_take 2 0 2 [(0, 0), (0, 1)] []) (aCons (eVar 0) (aCons (eOp subD (eC (.int 60)) (eVar 7)) aNil)) aNil)) aNil)))) (eFn (callM m__law_take 2 0 2 [(0, 0), (0, 1)] []) (aCons (eVar 0) (aCons (eC (.int 3)) aNil)) aNil)))
  (sSeq (sSet 9 (eIdxB (eLst (aCons (eC (.int 0)) (aCons (eC (.int 0)) (aCons (eFn (callM m__law_take 2 0 2 [(0, 0), (0, 1)] []) (aCons (eVar 0) (aCons (eC (.int 400)) aNil)) aNil) (aCons (eOp powD (eC (.int 10)) (eC (.int 12))) (aCons (eFn (callM m__law_take 2 0 2 [(0, 0), (0, 1)] []) (aCons (eVar 0) (aCons (eOp powD (eC (.int 10)) (eC (.int 12))) aNil)) aNil) aNil)))))) (eFn (callM m__law_take 2 0 2 [(0, 0), (0, 1)] []) (aCons (eVar 0) (aCons (eC (.int 5)) aNil)) aNil)))
  (sSeq (sSet 10 (eIdxB (eLst (aCons (eC .non) (aCons (eC .non) (aCons (eC (.bl true)) (aCons (eC (.bl false)) aNil))))) (eFn (callM m__law_take 2 0 2 [(0, 0), (0, 1)] []) (aCons (eVar 0) (aCons (eC (.int 4)) aNil)) aNil)))
  (sRet (eTup (aCons (eVar 1) (aCons (eVar 2) (aCons (eVar 3) (aCons (eVar 5) (aCons (eVar 6) (aCons (eVar 7) (aCons (eVar 8) (aCons (eVar 9) (aCons (eVar 10) aNil))))))))))))))))))))
def m__law_ruled : Fn := fnM 11 b__law_ruled
def t__law_ruled_10 : ES := (sRet (eTup (aCons (eVar 1) (aCons (eVar 2) (aCons (eVar 3) (aCons (eVar 5) (aCons (eVar 6) (aCons (eVar 7) (aCons (eVar 8) (aCons (eVar 9) (aCons (eVar 10) aNil)))))))))))
def t__law_ruled_9 : ES := (sSeq (sSet 10 (eIdxB (eLst (aCons (eC .non) (aCons (eC .non) (aCons (eC (.bl true)) (aCons (eC (.bl false)) aNil))))) (eFn (callM m__law_take 2 0 2 [(0, 0), (0, 1)] []) (aCons (eVar 0) (aCons (eC (.int 4)) aNil)) aNil))) t__law_ruled_10)
def t__law_ruled_8 : ES := (sSeq (sSet 9 (eIdxB (eLst (aCons (eC (.int 0)) (aCons (eC (.int 0)) (aCons (eFn (callM m__law_take 2 0 2 [(0, 0), (0, 1)] []) (aCons (eVar 0) (aCons (eC (.int 400)) aNil)) aNil) (aCons (eOp powD (eC (.int 10)) (eC (.int 12))) (aCons (eFn (callM m__law_take 2 0 2 [(0, 0), (0, 1)] []) (aCons (eVar 0) (aCons (eOp powD (eC (.int 10)) (eC (.int 12))) aNil)) aNil) aNil)))))) (eFn (callM m__law_take 2 0 2 [(0, 0), (0, 1)] []) (aCons (eVar 0) (aCons (eC (.int 5)) aNil)) aNil))) t__law_ruled_9)
def t__law_ruled_7 : ES := (sSeq (sSet 8 (eIdxB (eLst (aCons (eC (.int 59)) (aCons (eC (.int 59)) (aCons (eOp addD (eVar 7) (eFn (callM m__law_take 2 0 2 [(0, 0), (0, 1)] []) (aCons (eVar 0) (aCons (eOp subD (eC (.int 60)) (eVar 7)) aNil)) aNil)) aNil)))) (eFn (callM m__law_take 2 0 2 [(0, 0), (0, 1)] []) (aCons (eVar 0) (aCons (eC (.int 3)) aNil)) aNil))) t__law_ruled_8)
def t__law_ruled_6 : ES := (sSeq (sSet 7 (eIdxB (eLst (aCons (eC (.int 0)) (aCons (eC (.int 0)) (aCons (eFn (callM m__law_take 2 0 2 [(0, 0), (0, 1)] []) (aCons (eVar 0) (aCons (eC (.int 60)) aNil)) aNil) aNil)))) (eFn (callM m__law_take 2 0 2 [(0, 0), (0, 1)] []) (aCons (eVar 0) (aCons (eC (.int 3)) aNil)) aNil))) t__law_ruled_7)
def t__law_ruled_5 : ES := (sSeq (sSet 6 (eIdxB (eLst (aCons (eC .non) (aCons (eFn (callM m__law_take 2 0 2 [(0, 0), (0, 1)] []) (aCons (eVar 0) (aCons (eC (.int 4)) aNil)) aNil) aNil))) (eFn (callM m__law_take 2 0 2 [(0, 0), (0, 1)] []) (aCons (eVar 0) (aCons (eC (.int 2)) aNil)) aNil))) t__law_ruled_6)
def t__law_ruled_4 : ES := (sSeq (sSet 5 (eIdxB (eLst (aCons (eC .non) (aCons (eC (.str "bed")) (aCons (eC (.str "fee")) (aCons (eC (.str "meal")) (aCons (eC (.str "ride")) (aCons (eC (.str "sundry")) aNil))))))) (eVar 4))) t__law_ruled_5)
def t__law_ruled_3 : ES := (sSeq (sSet 4 (eOp mulD (eFn (callM m__law_take 2 0 2 [(0, 0), (0, 1)] []) (aCons (eVar 0) (aCons (eC (.int 6)) aNil)) aNil) (eB bInt (aCons (eOp gtD (eFn (callM m__law_take 2 0 2 [(0, 0), (0, 1)] []) (aCons (eVar 0) (aCons (eC (.int 3)) aNil)) aNil) (eC (.int 0))) aNil)))) t__law_ruled_4)
def t__law_ruled_2 : ES := (sSeq (sSet 3 (eFn (callM m__law_bound 2 0 2 [(0, 0), (0, 1)] []) (aCons (eVar 0) (aCons (eVar 2) aNil)) aNil)) t__law_ruled_3)
theorem x__law_ruled : b__law_ruled = (sSeq (sSet 2 (eIdxB (eLst (aCons (eC (.str "let")) (aCons (eC (.str "cut")) (aCons (eC (.str "each")) (aCons (eC (.str "hundredths")) (aCons (eC (.str "refuse")) aNil)))))) (eFn (callM m__law_take 2 0 2 [(0, 0), (0, 1)] []) (aCons (eVar 0) (aCons (eC (.int 5)) aNil)) aNil))) t__law_ruled_2) := rfl
def b__law_rules : ES :=
  (sSeq (sSet 2 (eLstM aNil))
  (sSeq (sFor (itR1 (aCons (eFn (callM m__law_take 2 0 2 [(0, 0), (0, 1)] []) (aCons (eVar 0) (aCons (eOp addD (eVar 1) (eC (.int 1))) aNil)) aNil) aNil)) (pName 3) (sSeq (sSet 4 (eFn (callM m__law_name 1 0 1 [(0, 0)] []) (aCons (eVar 0) aNil) aNil))
  (sIf (bVal (eOp ninD (eVar 4) (eLCR [5] (eVar 2) (pName 5) bYes (eIdxB (eVar 5) (eC (.int 0)))))) (sExpr (eApp (eVar 2) (eFn (callM m__law_ruled 2 0 2 [(0, 0), (0, 1)] []) (aCons (eVar 0) (aCons (eVar 4) aNil)) aNil))) sPass)))
  (sRet (eFrzL (eVar 2)))))
def m__law_rules : Fn := fnM 6 b__law_rules
def t__law_rules_4 : ES := (sIf (bVal (eOp ninD (eVar 4) (eLCR [5] (eVar 2) (pName 5) bYes (eIdxB (eVar 5) (eC (.int 0)))))) (sExpr (eApp (eVar 2) (eFn (callM m__law_ruled 2 0 2 [(0, 0), (0, 1)] []) (aCons (eVar 0) (aCons (eVar 4) aNil)) aNil))) sPass)
def t__law_rules_3 : ES := (sSeq (sSet 4 (eFn (callM m__law_name 1 0 1 [(0, 0)] []) (aCons (eVar 0) aNil) aNil)) t__law_rules_4)
def t__law_rules_6 : ES := (sRet (eFrzL (eVar 2)))
def t__law_rules_2 : ES := (sSeq (sFor (itR1 (aCons (eFn (callM m__law_take 2 0 2 [(0, 0), (0, 1)] []) (aCons (eVar 0) (aCons (eOp addD (eVar 1) (eC (.int 1))) aNil)) aNil) aNil)) (pName 3) t__law_rules_3) t__law_rules_6)
theorem x__law_rules : b__law_rules = (sSeq (sSet 2 (eLstM aNil)) t__law_rules_2) := rfl
def b_Rulebook_init : ES :=
  (sSeq (sSet 2 (eIf (bVal (eOp isND (eVar 1) (eC .non))) (eLst aNil) (eVar 1)))
  (sSeq (sIf (bOr (bNot (bVal (eIsI tysL (.b "list") (eVar 2)))) (bOr (bVal (eOp gtD (eB bLenA (aCons (eVar 2) aNil)) (eC (.int 8)))) (bNot (bVal (eB bAll (aCons (eLC [3] (itAny (eVar 2)) (pName 3) bYes (eIsI tysL (.o "Rule") (eVar 3))) aNil)))))) sBad sPass)
  (sSeq (sIf (bVal (eOp neD (eLenSet (eLC [3] (itAny (eVar 2)) (pName 3) bYes (eAttr cf ["Rule"] "name" (eVar 3)))) (eB bLenA (aCons (eVar 2) aNil)))) sBad sPass)
  (sSetAttr ["Rulebook"] "own_rules" (eVar 0) (eB bList (aCons (eVar 2) aNil))))))
def m_Rulebook_init : Fn := fnM 4 b_Rulebook_init
def t_Rulebook_init_6 : ES := (sSetAttr ["Rulebook"] "own_rules" (eVar 0) (eB bList (aCons (eVar 2) aNil)))
def t_Rulebook_init_4 : ES := (sSeq (sIf (bVal (eOp neD (eLenSet (eLC [3] (itAny (eVar 2)) (pName 3) bYes (eAttr cf ["Rule"] "name" (eVar 3)))) (eB bLenA (aCons (eVar 2) aNil)))) sBad sPass) t_Rulebook_init_6)
def t_Rulebook_init_2 : ES := (sSeq (sIf (bOr (bNot (bVal (eIsI tysL (.b "list") (eVar 2)))) (bOr (bVal (eOp gtD (eB bLenA (aCons (eVar 2) aNil)) (eC (.int 8)))) (bNot (bVal (eB bAll (aCons (eLC [3] (itAny (eVar 2)) (pName 3) bYes (eIsI tysL (.o "Rule") (eVar 3))) aNil)))))) sBad sPass) t_Rulebook_init_4)
theorem x_Rulebook_init : b_Rulebook_init = (sSeq (sSet 2 (eIf (bVal (eOp isND (eVar 1) (eC .non))) (eLst aNil) (eVar 1))) t_Rulebook_init_2) := rfl
def b_is_name : ES :=
  (sSeq (sIf (bOr (bNot (bVal (eIsI tysL (.b "str") (eVar 0)))) (bNot (bVal (eChain leD leD (eC (.int 1)) (eB bLenA (aCons (eVar 0) aNil)) (eC (.int 8)))))) (sRet (eC (.bl false))) sPass)
  (sRet (eB bAll (aCons (eLC [1] (itAny (eVar 0)) (pName 1) bYes (eOp inSD (eVar 1) (eC (.str "abcdefghijklmnopqrstuvwxyz")))) aNil))))
def m_is_name : Fn := fnM 2 b_is_name
def b_is_deed : ES :=
  (sRet (eAnd (eIsI tysL (.b "str") (eVar 0)) (eOp (inKD "BOUNDS" kv_BOUNDS) (eVar 0) (eC (.fn "BOUNDS")))))
def m_is_deed : Fn := fnM 1 b_is_deed
def b_is_whole : ES :=
  (sRet (eAnd (eIsI tysL (.b "int") (eVar 0)) (eAnd (eNot (eIsI tysL (.b "bool") (eVar 0))) (eChain leD leD (eVar 1) (eVar 0) (eVar 2)))))
def m_is_whole : Fn := fnM 3 b_is_whole
def b_is_kind : ES :=
  (sRet (eAnd (eIsI tysL (.b "str") (eVar 0)) (eOp inD (eVar 0) (eC (.tup [.str "bed", .str "fee", .str "meal", .str "ride", .str "sundry"])))))
def m_is_kind : Fn := fnM 1 b_is_kind
def b_wrong_part : ES :=
  (sSeq (sSet 9 (eLstM (aCons (eTup (aCons (eC (.str "name")) (aCons (eFn (callM m_is_name 1 0 1 [(0, 0)] []) (aCons (eVar 0) aNil) aNil) aNil))) (aCons (eTup (aCons (eC (.str "deed")) (aCons (eFn (callM m_is_deed 1 0 1 [(0, 0)] []) (aCons (eVar 1) aNil) aNil) aNil))) aNil))))
  (sSeq (sExpr (eApp (eVar 9) (eTup (aCons (eC (.str "bound")) (aCons (eAnd (eFn (callM m_is_deed 1 0 1 [(0, 0)] []) (aCons (eVar 1) aNil) aNil) (eFn (callM m_is_whole 3 0 3 [(0, 0), (0, 1), (0, 2)] []) (aCons (eVar 2) (aCons (eC (.int 0)) (aCons (eOp (itKD "BOUNDS" kv_BOUNDS) (eC (.fn "BOUNDS")) (eVar 1)) aNil))) aNil)) aNil)))))
  (sSeq (sSet 9 (eAddM (eVar 9) (eLst (aCons (eTup (aCons (eC (.str "kind")) (aCons (eOr (eOp isND (eVar 3) (eC .non)) (eFn (callM m_is_kind 1 0 1 [(0, 0)] []) (aCons (eVar 3) aNil) aNil)) aNil))) (aCons (eTup (aCons (eC (.str "town")) (aCons (eOr (eOp isND (eVar 4) (eC .non)) (eFn (callM m_is_whole 3 0 3 [(0, 0), (0, 1), (0, 2)] []) (aCons (eVar 4) (aCons (eC (.int 0)) (aCons (eC (.int 3)) aNil))) aNil)) aNil))) aNil)))))
  (sSeq (sExpr (eApp (eVar 9) (eTup (aCons (eC (.str "first")) (aCons (eFn (callM m_is_whole 3 0 3 [(0, 0), (0, 1), (0, 2)] []) (aCons (eVar 5) (aCons (eC (.int 0)) (aCons (eC (.int 59)) aNil))) aNil) aNil)))))
  (sSeq (sExpr (eApp (eVar 9) (eTup (aCons (eC (.str "last")) (aCons (eAnd (eFn (callM m_is_whole 3 0 3 [(0, 0), (0, 1), (0, 2)] []) (aCons (eVar 5) (aCons (eC (.int 0)) (aCons (eC (.int 59)) aNil))) aNil) (eFn (callM m_is_whole 3 0 3 [(0, 0), (0, 1), (0, 2)] []) (aCons (eVar 6) (aCons (eVar 5) (aCons (eC (.int 59)) aNil))) aNil)) aNil)))))
  (sSeq (sSet 9 (eAddM (eVar 9) (eLst (aCons (eTup (aCons (eC (.str "over")) (aCons (eFn (callM m_is_whole 3 0 3 [(0, 0), (0, 1), (0, 2)] []) (aCons (eVar 7) (aCons (eC (.int 0)) (aCons (eC (.int 1000000000000)) aNil))) aNil) aNil))) (aCons (eTup (aCons (eC (.str "paper")) (aCons (eOr (eOp isND (eVar 8) (eC .non)) (eIsI tysL (.b "bool") (eVar 8))) aNil))) aNil)))))
  (sSeq (sSet 10 (eLC [11, 12] (itAny (eFrzL (eVar 9))) (pTup (pCons (pName 11) (pCons (pName 12) pNil))) (bNot (bOf (eVar 12))) (eVar 11)))
  (sRet (eIf (bVal (eOp neD (eVar 10) (eLst aNil))) (eIdxB (eVar 10) (eC (.int 0))) (eC .non))))))))))
def m_wrong_part : Fn := fnM 13 b_wrong_part
def t_wrong_part_8 : ES := (sRet (eIf (bVal (eOp neD (eVar 10) (eLst aNil))) (eIdxB (eVar 10) (eC (.int 0))) (eC .non)))
def t_wrong_part_7 : ES := (sSeq (sSet 10 (eLC [11, 12] (itAny (eFrzL (eVar 9))) (pTup (pCons (pName 11) (pCons (pName 12) pNil))) (bNot (bOf (eVar 12))) (eVar 11))) t_wrong_part_8)
def t_wrong_part_6 : ES := (sSeq (sSet 9 (eAddM (eVar 9) (eLst (aCons (eTup (aCons (eC (.str "over")) (aCons (eFn (callM m_is_whole 3 0 3 [(0, 0), (0, 1), (0, 2)] []) (aCons (eVar 7) (aCons (eC (.int 0)) (aCons (eC (.int 1000000000000)) aNil))) aNil) aNil))) (aCons (eTup (aCons (eC (.str "paper")) (aCons (eOr (eOp isND (eVar 8) (eC .non)) (eIsI tysL (.b "bool") (eVar 8))) aNil))) aNil))))) t_wrong_part_7)
def t_wrong_part_5 : ES := (sSeq (sExpr (eApp (eVar 9) (eTup (aCons (eC (.str "last")) (aCons (eAnd (eFn (callM m_is_whole 3 0 3 [(0, 0), (0, 1), (0, 2)] []) (aCons (eVar 5) (aCons (eC (.int 0)) (aCons (eC (.int 59)) aNil))) aNil) (eFn (callM m_is_whole 3 0 3 [(0, 0), (0, 1), (0, 2)] []) (aCons (eVar 6) (aCons (eVar 5) (aCons (eC (.int 59)) aNil))) aNil)) aNil))))) t_wrong_part_6)
def t_wrong_part_4 : ES := (sSeq (sExpr (eApp (eVar 9) (eTup (aCons (eC (.str "first")) (aCons (eFn (callM m_is_whole 3 0 3 [(0, 0), (0, 1), (0, 2)] []) (aCons (eVar 5) (aCons (eC (.int 0)) (aCons (eC (.int 59)) aNil))) aNil) aNil))))) t_wrong_part_5)
def t_wrong_part_3 : ES := (sSeq (sSet 9 (eAddM (eVar 9) (eLst (aCons (eTup (aCons (eC (.str "kind")) (aCons (eOr (eOp isND (eVar 3) (eC .non)) (eFn (callM m_is_kind 1 0 1 [(0, 0)] []) (aCons (eVar 3) aNil) aNil)) aNil))) (aCons (eTup (aCons (eC (.str "town")) (aCons (eOr (eOp isND (eVar 4) (eC .non)) (eFn (callM m_is_whole 3 0 3 [(0, 0), (0, 1), (0, 2)] []) (aCons (eVar 4) (aCons (eC (.int 0)) (aCons (eC (.int 3)) aNil))) aNil)) aNil))) aNil))))) t_wrong_part_4)
def t_wrong_part_2 : ES := (sSeq (sExpr (eApp (eVar 9) (eTup (aCons (eC (.str "bound")) (aCons (eAnd (eFn (callM m_is_deed 1 0 1 [(0, 0)] []) (aCons (eVar 1) aNil) aNil) (eFn (callM m_is_whole 3 0 3 [(0, 0), (0, 1), (0, 2)] []) (aCons (eVar 2) (aCons (eC (.int 0)) (aCons (eOp (itKD "BOUNDS" kv_BOUNDS) (eC (.fn "BOUNDS")) (eVar 1)) aNil))) aNil)) aNil))))) t_wrong_part_3)
theorem x_wrong_part : b_wrong_part = (sSeq (sSet 9 (eLstM (aCons (eTup (aCons (eC (.str "name")) (aCons (eFn (callM m_is_name 1 0 1 [(0, 0)] []) (aCons (eVar 0) aNil) aNil) aNil))) (aCons (eTup (aCons (eC (.str "deed")) (aCons (eFn (callM m_is_deed 1 0 1 [(0, 0)] []) (aCons (eVar 1) aNil) aNil) aNil))) aNil)))) t_wrong_part_2) := rfl
def b_Rule_init : ES :=
  (sSeq (sSet 10 (eFn (callM m_wrong_part 9 0 9 [(0, 0), (0, 1), (0, 2), (0, 3), (0, 4), (0, 5), (0, 6), (0, 7), (0, 8)] []) (aCons (eVar 1) (aCons (eVar 2) (aCons (eVar 3) (aCons (eVar 4) (aCons (eVar 5) (aCons (eVar 6) (aCons (eVar 7) (aCons (eVar 8) (aCons (eVar 9) aNil))))))))) aNil))
  (sSeq (sIf (bVal (eOp notND (eVar 10) (eC .non))) sBad sPass)
  (sSeq (sSetAttr ["Rule"] "name" (eVar 0) (eVar 1))
  (sSeq (sSetAttr ["Rule"] "deed" (eVar 0) (eVar 2))
  (sSeq (sSetAttr ["Rule"] "bound" (eVar 0) (eVar 3))
  (sSeq (sSetAttr ["Rule"] "kind" (eVar 0) (eVar 4))
  (sSeq (sSetAttr ["Rule"] "town" (eVar 0) (eVar 5))
  (sSeq (sSetAttr ["Rule"] "first" (eVar 0) (eVar 6))
  (sSeq (sSetAttr ["Rule"] "last" (eVar 0) (eVar 7))
  (sSeq (sSetAttr ["Rule"] "over" (eVar 0) (eVar 8))
  (sSetAttr ["Rule"] "paper" (eVar 0) (eVar 9))))))))))))
def m_Rule_init : Fn := fnM 11 b_Rule_init
def b__law_made : ES :=
  (sRet (eFrz cf (eFn (newM "Rule" (callM m_Rule_init 2 8 10 [(0, 0), (0, 1), (2, 0), (2, 1), (2, 2), (2, 3), (2, 4), (2, 5), (2, 6), (2, 7)] [.str "let", .int 0, .non, .non, .int 0, .int 59, .int 0, .non])) (aCons (eIdxB (eVar 0) (eC (.int 0))) aNil) (aCons (eIdxB (eVar 0) (eC (.int 1))) (aCons (eIdxB (eVar 0) (eC (.int 2))) (aCons (eIdxB (eVar 0) (eC (.int 3))) (aCons (eIdxB (eVar 0) (eC (.int 4))) (aCons (eIdxB (eVar 0) (eC (.int 5))) (aCons (eIdxB (eVar 0) (eC (.int 6))) (aCons (eIdxB (eVar 0) (eC (.int 7))) (aCons (eIdxB (eVar 0) (eC (.int 8))) aNil)))))))))))
def m__law_made : Fn := fnM 1 b__law_made
def b__law_booked : ES :=
  (sRet (eFrz cf (eFn (newM "Rulebook" (callM m_Rulebook_init 2 0 2 [(0, 0), (0, 1)] [.non])) (aCons (eLC [1] (itAny (eVar 0)) (pName 1) bYes (eFn (callM m__law_made 1 0 1 [(0, 0)] []) (aCons (eVar 1) aNil) aNil)) aNil) aNil)))
def m__law_booked : Fn := fnM 2 b__law_booked
def b__law_spot : ES :=
  (sSeq (sSet 2 (eIdxB (eLst (aCons (eC (.str "bed")) (aCons (eC (.str "fee")) (aCons (eC (.str "meal")) (aCons (eC (.str "ride")) (aCons (eC (.str "sundry")) aNil)))))) (eFn (callM m__law_take 2 0 2 [(0, 0), (0, 1)] []) (aCons (eVar 0) (aCons (eC (.int 5)) aNil)) aNil)))
  (sSeq (sSet 3 (eOp addD (eOp addD (eLst (aCons (eC (.int 0)) (aCons (eC (.int 1)) (aCons (eC (.int 100)) (aCons (eOp powD (eC (.int 10)) (eC (.int 12))) aNil))))) (eLC [6] (itAny (eVar 1)) (pName 6) bYes (eIdxB (eVar 6) (eC (.int 7))))) (eLC [6] (itAny (eVar 1)) (pName 6) bYes (eIdxB (eVar 6) (eC (.int 2))))))
  (sSeq (sSet 4 (eOp subD (eOp addD (eIdxB (eVar 3) (eFn (callM m__law_take 2 0 2 [(0, 0), (0, 1)] []) (aCons (eVar 0) (aCons (eB bLenA (aCons (eVar 3) aNil)) aNil)) aNil)) (eFn (callM m__law_take 2 0 2 [(0, 0), (0, 1)] []) (aCons (eVar 0) (aCons (eC (.int 4)) aNil)) aNil)) (eC (.int 1))))
  (sSeq (sSet 4 (eIdxB (eLst (aCons (eB bMax2 (aCons (eC (.int 0)) (aCons (eB bMin2 (aCons (eVar 4) (aCons (eOp powD (eC (.int 10)) (eC (.int 12))) aNil))) aNil))) (aCons (eFn (callM m__law_take 2 0 2 [(0, 0), (0, 1)] []) (aCons (eVar 0) (aCons (eC (.int 500)) aNil)) aNil) aNil))) (eFn (callM m__law_take 2 0 2 [(0, 0), (0, 1)] []) (aCons (eVar 0) (aCons (eC (.int 2)) aNil)) aNil)))
  (sSeq (sSet 5 (eOp addD (eOp addD (eLst (aCons (eC (.int 0)) (aCons (eC (.int 59)) (aCons (eFn (callM m__law_take 2 0 2 [(0, 0), (0, 1)] []) (aCons (eVar 0) (aCons (eC (.int 60)) aNil)) aNil) aNil)))) (eLC [6] (itAny (eVar 1)) (pName 6) bYes (eIdxB (eVar 6) (eC (.int 5))))) (eLC [6] (itAny (eVar 1)) (pName 6) bYes (eIdxB (eVar 6) (eC (.int 6))))))
  (sRet (eTup (aCons (eVar 2) (aCons (eFn (callM m__law_take 2 0 2 [(0, 0), (0, 1)] []) (aCons (eVar 0) (aCons (eC (.int 4)) aNil)) aNil) (aCons (eOp eqD (eFn (callM m__law_take 2 0 2 [(0, 0), (0, 1)] []) (aCons (eVar 0) (aCons (eC (.int 2)) aNil)) aNil) (eC (.int 1))) (aCons (eIdxB (eVar 5) (eFn (callM m__law_take 2 0 2 [(0, 0), (0, 1)] []) (aCons (eVar 0) (aCons (eB bLenA (aCons (eVar 5) aNil)) aNil)) aNil)) (aCons (eVar 4) aNil))))))))))))
def m__law_spot : Fn := fnM 7 b__law_spot
def t__law_spot_6 : ES := (sRet (eTup (aCons (eVar 2) (aCons (eFn (callM m__law_take 2 0 2 [(0, 0), (0, 1)] []) (aCons (eVar 0) (aCons (eC (.int 4)) aNil)) aNil) (aCons (eOp eqD (eFn (callM m__law_take 2 0 2 [(0, 0), (0, 1)] []) (aCons (eVar 0) (aCons (eC (.int 2)) aNil)) aNil) (eC (.int 1))) (aCons (eIdxB (eVar 5) (eFn (callM m__law_take 2 0 2 [(0, 0), (0, 1)] []) (aCons (eVar 0) (aCons (eB bLenA (aCons (eVar 5) aNil)) aNil)) aNil)) (aCons (eVar 4) aNil)))))))
def t__law_spot_5 : ES := (sSeq (sSet 5 (eOp addD (eOp addD (eLst (aCons (eC (.int 0)) (aCons (eC (.int 59)) (aCons (eFn (callM m__law_take 2 0 2 [(0, 0), (0, 1)] []) (aCons (eVar 0) (aCons (eC (.int 60)) aNil)) aNil) aNil)))) (eLC [6] (itAny (eVar 1)) (pName 6) bYes (eIdxB (eVar 6) (eC (.int 5))))) (eLC [6] (itAny (eVar 1)) (pName 6) bYes (eIdxB (eVar 6) (eC (.int 6)))))) t__law_spot_6)
def t__law_spot_4 : ES := (sSeq (sSet 4 (eIdxB (eLst (aCons (eB bMax2 (aCons (eC (.int 0)) (aCons (eB bMin2 (aCons (eVar 4) (aCons (eOp powD (eC (.int 10)) (eC (.int 12))) aNil))) aNil))) (aCons (eFn (callM m__law_take 2 0 2 [(0, 0), (0, 1)] []) (aCons (eVar 0) (aCons (eC (.int 500)) aNil)) aNil) aNil))) (eFn (callM m__law_take 2 0 2 [(0, 0), (0, 1)] []) (aCons (eVar 0) (aCons (eC (.int 2)) aNil)) aNil))) t__law_spot_5)
def t__law_spot_3 : ES := (sSeq (sSet 4 (eOp subD (eOp addD (eIdxB (eVar 3) (eFn (callM m__law_take 2 0 2 [(0, 0), (0, 1)] []) (aCons (eVar 0) (aCons (eB bLenA (aCons (eVar 3) aNil)) aNil)) aNil)) (eFn (callM m__law_take 2 0 2 [(0, 0), (0, 1)] []) (aCons (eVar 0) (aCons (eC (.int 4)) aNil)) aNil)) (eC (.int 1)))) t__law_spot_4)
def t__law_spot_2 : ES := (sSeq (sSet 3 (eOp addD (eOp addD (eLst (aCons (eC (.int 0)) (aCons (eC (.int 1)) (aCons (eC (.int 100)) (aCons (eOp powD (eC (.int 10)) (eC (.int 12))) aNil))))) (eLC [6] (itAny (eVar 1)) (pName 6) bYes (eIdxB (eVar 6) (eC (.int 7))))) (eLC [6] (itAny (eVar 1)) (pName 6) bYes (eIdxB (eVar 6) (eC (.int 2)))))) t__law_spot_3)
theorem x__law_spot : b__law_spot = (sSeq (sSet 2 (eIdxB (eLst (aCons (eC (.str "bed")) (aCons (eC (.str "fee")) (aCons (eC (.str "meal")) (aCons (eC (.str "ride")) (aCons (eC (.str "sundry")) aNil)))))) (eFn (callM m__law_take 2 0 2 [(0, 0), (0, 1)] []) (aCons (eVar 0) (aCons (eC (.int 5)) aNil)) aNil))) t__law_spot_2) := rfl
def b__law_meets : ES :=
  (sSeq (sUnp (pTup (pCons (pName 2) (pCons (pName 3) (pCons (pName 4) pNil)))) (eCut (eVar 0) oNone (oSome (eC (.int 3)))))
  (sSeq (sUnp (pTup (pCons (pName 5) (pCons (pName 6) (pCons (pName 7) (pCons (pName 8) (pCons (pName 9) (pCons (pName 10) pNil))))))) (eCut (eVar 0) (oSome (eC (.int 3))) oNone))
  (sSeq (sIf (bOr (bAnd (bVal (eOp notND (eVar 5) (eC .non))) (bVal (eOp neD (eVar 5) (eIdxB (eVar 1) (eC (.int 0)))))) (bAnd (bVal (eOp notND (eVar 6) (eC .non))) (bVal (eOp neD (eVar 6) (eIdxB (eVar 1) (eC (.int 1))))))) (sRet (eC (.bl false))) sPass)
  (sSeq (sIf (bAnd (bVal (eOp notND (eVar 10) (eC .non))) (bVal (eOp neD (eVar 10) (eIdxB (eVar 1) (eC (.int 2)))))) (sRet (eC (.bl false))) sPass)
  (sRet (eAnd (eChain leD leD (eVar 7) (eIdxB (eVar 1) (eC (.int 3))) (eVar 8)) (eOp gtD (eIdxB (eVar 1) (eC (.int 4))) (eVar 9))))))))
def m__law_meets : Fn := fnM 11 b__law_meets
def t__law_meets_7 : ES := (sRet (eAnd (eChain leD leD (eVar 7) (eIdxB (eVar 1) (eC (.int 3))) (eVar 8)) (eOp gtD (eIdxB (eVar 1) (eC (.int 4))) (eVar 9))))
def t__law_meets_5 : ES := (sSeq (sIf (bAnd (bVal (eOp notND (eVar 10) (eC .non))) (bVal (eOp neD (eVar 10) (eIdxB (eVar 1) (eC (.int 2)))))) (sRet (eC (.bl false))) sPass) t__law_meets_7)
def t__law_meets_3 : ES := (sSeq (sIf (bOr (bAnd (bVal (eOp notND (eVar 5) (eC .non))) (bVal (eOp neD (eVar 5) (eIdxB (eVar 1) (eC (.int 0)))))) (bAnd (bVal (eOp notND (eVar 6) (eC .non))) (bVal (eOp neD (eVar 6) (eIdxB (eVar 1) (eC (.int 1))))))) (sRet (eC (.bl false))) sPass) t__law_meets_5)
def t__law_meets_2 : ES := (sSeq (sUnp (pTup (pCons (pName 5) (pCons (pName 6) (pCons (pName 7) (pCons (pName 8) (pCons (pName 9) (pCons (pName 10) pNil))))))) (eCut (eVar 0) (oSome (eC (.int 3))) oNone)) t__law_meets_3)
theorem x__law_meets : b__law_meets = (sSeq (sUnp (pTup (pCons (pName 2) (pCons (pName 3) (pCons (pName 4) pNil)))) (eCut (eVar 0) oNone (oSome (eC (.int 3))))) t__law_meets_2) := rfl
def b__law_whole_to : ES :=
  (sSeq (sIf (bVal (eOp eqD (eIdxB (eVar 0) (eC (.int 1))) (eC (.str "cut")))) (sRet (eIf (bVal (eOp leD (eVar 1) (eIdxB (eVar 0) (eC (.int 2))))) (eB bMin2 (aCons (eVar 2) (aCons (eIdxB (eVar 0) (eC (.int 2))) aNil))) (eC .non))) sPass)
  (sSeq (sSet 3 (eOr (eOp eqD (eIdxB (eVar 0) (eC (.int 1))) (eC (.str "let"))) (eOp inD (eCut (eVar 0) (oSome (eC (.int 1))) (oSome (eC (.int 3)))) (eLst (aCons (eTup (aCons (eC (.str "each")) (aCons (eC (.int 1)) aNil))) (aCons (eTup (aCons (eC (.str "hundredths")) (aCons (eC (.int 100)) aNil))) aNil))))))
  (sRet (eIf (bOf (eVar 3)) (eVar 2) (eC .non)))))
def m__law_whole_to : Fn := fnM 4 b__law_whole_to
def t__law_whole_to_4 : ES := (sRet (eIf (bOf (eVar 3)) (eVar 2) (eC .non)))
def t__law_whole_to_3 : ES := (sSeq (sSet 3 (eOr (eOp eqD (eIdxB (eVar 0) (eC (.int 1))) (eC (.str "let"))) (eOp inD (eCut (eVar 0) (oSome (eC (.int 1))) (oSome (eC (.int 3)))) (eLst (aCons (eTup (aCons (eC (.str "each")) (aCons (eC (.int 1)) aNil))) (aCons (eTup (aCons (eC (.str "hundredths")) (aCons (eC (.int 100)) aNil))) aNil)))))) t__law_whole_to_4)
theorem x__law_whole_to : b__law_whole_to = (sSeq (sIf (bVal (eOp eqD (eIdxB (eVar 0) (eC (.int 1))) (eC (.str "cut")))) (sRet (eIf (bVal (eOp leD (eVar 1) (eIdxB (eVar 0) (eC (.int 2))))) (eB bMin2 (aCons (eVar 2) (aCons (eIdxB (eVar 0) (eC (.int 2))) aNil))) (eC .non))) sPass) t__law_whole_to_3) := rfl
def b__law_room : ES :=
  (sSeq (sSet 3 (eSortSet (eOp addD (eLst (aCons (eC (.int 1)) (aCons (eOp addD (eOp powD (eC (.int 10)) (eC (.int 12))) (eC (.int 1))) aNil))) (eLC [10] (itAny (eVar 0)) (pName 10) bYes (eOp addD (eIdxB (eVar 10) (eC (.int 7))) (eC (.int 1)))))))
  (sSeq (sSet 4 (eC .non))
  (sSeq (sFor (itZip (aCons (eCut (eVar 3) oNone (oSome (eUn negD (eC (.int 1))))) (aCons (eCut (eVar 3) (oSome (eC (.int 1))) oNone) aNil))) (pTup (pCons (pName 5) (pCons (pName 6) pNil))) (sSeq (sSet 7 (eLC [10] (itAny (eVar 0)) (pName 10) (bVal (eFn (callM m__law_meets 2 0 2 [(0, 0), (0, 1)] []) (aCons (eVar 10) (aCons (eOp addD (eCut (eVar 1) oNone (oSome (eC (.int 4)))) (eTup (aCons (eVar 5) aNil))) aNil)) aNil)) (eVar 10)))
  (sSeq (sSet 8 (eB bMin2 (aCons (eOp subD (eVar 6) (eC (.int 1))) (aCons (eVar 2) aNil))))
  (sIf (bAnd (bVal (eOp neD (eVar 7) (eLst aNil))) (bVal (eOp leD (eVar 5) (eVar 8)))) (sSeq (sSet 9 (eFn (callM m__law_whole_to 3 0 3 [(0, 0), (0, 1), (0, 2)] []) (aCons (eIdxB (eVar 7) (eC (.int 0))) (aCons (eVar 5) (aCons (eVar 8) aNil))) aNil))
  (sSet 4 (eIf (bVal (eOp notND (eVar 9) (eC .non))) (eVar 9) (eVar 4)))) sPass))))
  (sRet (eVar 4)))))
def m__law_room : Fn := fnM 11 b__law_room
def t__law_room_8 : ES := (sSet 4 (eIf (bVal (eOp notND (eVar 9) (eC .non))) (eVar 9) (eVar 4)))
def t__law_room_6 : ES := (sIf (bAnd (bVal (eOp neD (eVar 7) (eLst aNil))) (bVal (eOp leD (eVar 5) (eVar 8)))) (sSeq (sSet 9 (eFn (callM m__law_whole_to 3 0 3 [(0, 0), (0, 1), (0, 2)] []) (aCons (eIdxB (eVar 7) (eC (.int 0))) (aCons (eVar 5) (aCons (eVar 8) aNil))) aNil)) t__law_room_8) sPass)
def t__law_room_5 : ES := (sSeq (sSet 8 (eB bMin2 (aCons (eOp subD (eVar 6) (eC (.int 1))) (aCons (eVar 2) aNil)))) t__law_room_6)
def t__law_room_4 : ES := (sSeq (sSet 7 (eLC [10] (itAny (eVar 0)) (pName 10) (bVal (eFn (callM m__law_meets 2 0 2 [(0, 0), (0, 1)] []) (aCons (eVar 10) (aCons (eOp addD (eCut (eVar 1) oNone (oSome (eC (.int 4)))) (eTup (aCons (eVar 5) aNil))) aNil)) aNil)) (eVar 10))) t__law_room_5)
def t__law_room_9 : ES := (sRet (eVar 4))
def t__law_room_3 : ES := (sSeq (sFor (itZip (aCons (eCut (eVar 3) oNone (oSome (eUn negD (eC (.int 1))))) (aCons (eCut (eVar 3) (oSome (eC (.int 1))) oNone) aNil))) (pTup (pCons (pName 5) (pCons (pName 6) pNil))) t__law_room_4) t__law_room_9)
def t__law_room_2 : ES := (sSeq (sSet 4 (eC .non)) t__law_room_3)
theorem x__law_room : b__law_room = (sSeq (sSet 3 (eSortSet (eOp addD (eLst (aCons (eC (.int 1)) (aCons (eOp addD (eOp powD (eC (.int 10)) (eC (.int 12))) (eC (.int 1))) aNil))) (eLC [10] (itAny (eVar 0)) (pName 10) bYes (eOp addD (eIdxB (eVar 10) (eC (.int 7))) (eC (.int 1))))))) t__law_room_2) := rfl
def b_need_share : ES :=
  (sIf (bNot (bVal (eFn (callM m_is_whole 3 0 3 [(0, 0), (0, 1), (0, 2)] []) (aCons (eVar 0) (aCons (eC (.int 0)) (aCons (eC (.int 1000000000000)) aNil))) aNil))) (sRaise "NoShare" aNil) sPass)
def m_need_share : Fn := fnM 1 b_need_share
def b_Rule_meets_spot : ES :=
  (sSeq (sUnp (pTup (pCons (pName 2) (pCons (pName 3) (pCons (pName 4) (pCons (pName 5) (pCons (pName 6) pNil)))))) (eVar 1))
  (sSeq (sIf (bOr (bAnd (bVal (eOp notND (eAttr cf ["Rule"] "kind" (eVar 0)) (eC .non))) (bVal (eOp neD (eAttr cf ["Rule"] "kind" (eVar 0)) (eVar 2)))) (bAnd (bVal (eOp notND (eAttr cf ["Rule"] "town" (eVar 0)) (eC .non))) (bVal (eOp neD (eAttr cf ["Rule"] "town" (eVar 0)) (eVar 3))))) (sRet (eC (.bl false))) sPass)
  (sSeq (sIf (bAnd (bVal (eOp notND (eAttr cf ["Rule"] "paper" (eVar 0)) (eC .non))) (bVal (eOp neD (eAttr cf ["Rule"] "paper" (eVar 0)) (eVar 4)))) (sRet (eC (.bl false))) sPass)
  (sRet (eAnd (eChain leD leD (eAttr cf ["Rule"] "first" (eVar 0)) (eVar 5) (eAttr cf ["Rule"] "last" (eVar 0))) (eOp gtD (eVar 6) (eAttr cf ["Rule"] "over" (eVar 0))))))))
def m_Rule_meets_spot : Fn := fnM 7 b_Rule_meets_spot
def t_Rule_meets_spot_6 : ES := (sRet (eAnd (eChain leD leD (eAttr cf ["Rule"] "first" (eVar 0)) (eVar 5) (eAttr cf ["Rule"] "last" (eVar 0))) (eOp gtD (eVar 6) (eAttr cf ["Rule"] "over" (eVar 0)))))
def t_Rule_meets_spot_4 : ES := (sSeq (sIf (bAnd (bVal (eOp notND (eAttr cf ["Rule"] "paper" (eVar 0)) (eC .non))) (bVal (eOp neD (eAttr cf ["Rule"] "paper" (eVar 0)) (eVar 4)))) (sRet (eC (.bl false))) sPass) t_Rule_meets_spot_6)
def t_Rule_meets_spot_2 : ES := (sSeq (sIf (bOr (bAnd (bVal (eOp notND (eAttr cf ["Rule"] "kind" (eVar 0)) (eC .non))) (bVal (eOp neD (eAttr cf ["Rule"] "kind" (eVar 0)) (eVar 2)))) (bAnd (bVal (eOp notND (eAttr cf ["Rule"] "town" (eVar 0)) (eC .non))) (bVal (eOp neD (eAttr cf ["Rule"] "town" (eVar 0)) (eVar 3))))) (sRet (eC (.bl false))) sPass) t_Rule_meets_spot_4)
theorem x_Rule_meets_spot : b_Rule_meets_spot = (sSeq (sUnp (pTup (pCons (pName 2) (pCons (pName 3) (pCons (pName 4) (pCons (pName 5) (pCons (pName 6) pNil)))))) (eVar 1)) t_Rule_meets_spot_2) := rfl
def b_first_met : ES :=
  (sSeq (sFor (itEnum (aCons (eVar 0) aNil)) (pTup (pCons (pName 2) (pCons (pName 3) pNil))) (sIf (bVal (eMeth cf "Rule" "meets_spot" (callM m_Rule_meets_spot 2 0 2 [(0, 0), (0, 1)] []) (eVar 3) (aCons (eVar 1) aNil) aNil)) (sRet (eVar 2)) sPass))
  (sRet (eC .non)))
def m_first_met : Fn := fnM 4 b_first_met
def t_first_met_2 : ES := (sIf (bVal (eMeth cf "Rule" "meets_spot" (callM m_Rule_meets_spot 2 0 2 [(0, 0), (0, 1)] []) (eVar 3) (aCons (eVar 1) aNil) aNil)) (sRet (eVar 2)) sPass)
def t_first_met_4 : ES := (sRet (eC .non))
theorem x_first_met : b_first_met = (sSeq (sFor (itEnum (aCons (eVar 0) aNil)) (pTup (pCons (pName 2) (pCons (pName 3) pNil))) t_first_met_2) t_first_met_4) := rfl
def b_most_whole : ES :=
  (sSeq (sIf (bVal (eOp eqD (eAttr cf ["Rule"] "deed" (eVar 0)) (eC (.str "cut")))) (sSet 2 (eB bMin2 (aCons (eVar 2) (aCons (eAttr cf ["Rule"] "bound" (eVar 0)) aNil)))) sPass)
  (sSeq (sIf (bOr (bAnd (bVal (eOp eqD (eAttr cf ["Rule"] "deed" (eVar 0)) (eC (.str "each")))) (bVal (eOp neD (eAttr cf ["Rule"] "bound" (eVar 0)) (eC (.int 1))))) (bVal (eOp eqD (eAttr cf ["Rule"] "deed" (eVar 0)) (eC (.str "refuse"))))) (sRet (eC .non)) sPass)
  (sSeq (sIf (bOr (bAnd (bVal (eOp eqD (eAttr cf ["Rule"] "deed" (eVar 0)) (eC (.str "hundredths")))) (bVal (eOp neD (eAttr cf ["Rule"] "bound" (eVar 0)) (eC (.int 100))))) (bVal (eOp gtD (eVar 1) (eVar 2)))) (sRet (eC .non)) sPass)
  (sRet (eVar 2)))))
def m_most_whole : Fn := fnM 3 b_most_whole
def t_most_whole_7 : ES := (sRet (eVar 2))
def t_most_whole_5 : ES := (sSeq (sIf (bOr (bAnd (bVal (eOp eqD (eAttr cf ["Rule"] "deed" (eVar 0)) (eC (.str "hundredths")))) (bVal (eOp neD (eAttr cf ["Rule"] "bound" (eVar 0)) (eC (.int 100))))) (bVal (eOp gtD (eVar 1) (eVar 2)))) (sRet (eC .non)) sPass) t_most_whole_7)
def t_most_whole_3 : ES := (sSeq (sIf (bOr (bAnd (bVal (eOp eqD (eAttr cf ["Rule"] "deed" (eVar 0)) (eC (.str "each")))) (bVal (eOp neD (eAttr cf ["Rule"] "bound" (eVar 0)) (eC (.int 1))))) (bVal (eOp eqD (eAttr cf ["Rule"] "deed" (eVar 0)) (eC (.str "refuse"))))) (sRet (eC .non)) sPass) t_most_whole_5)
theorem x_most_whole : b_most_whole = (sSeq (sIf (bVal (eOp eqD (eAttr cf ["Rule"] "deed" (eVar 0)) (eC (.str "cut")))) (sSet 2 (eB bMin2 (aCons (eVar 2) (aCons (eAttr cf ["Rule"] "bound" (eVar 0)) aNil)))) sPass) t_most_whole_3) := rfl
def b_Rulebook_room : ES :=
  (sSeq (sExpr (eFn (callM m_need_share 1 0 1 [(0, 0)] []) (aCons (eVar 5) aNil) aNil))
  (sSeq (sSet 6 (eSortSet (eOp addD (eLst (aCons (eC (.int 0)) (aCons (eC (.int 1000000000000)) aNil))) (eLC [12] (itAny (eAttr cf ["Rulebook"] "own_rules" (eVar 0))) (pName 12) bYes (eAttr cf ["Rule"] "over" (eVar 12))))))
  (sSeq (sSet 7 (eC .non))
  (sSeq (sFor (itZip (aCons (eCut (eVar 6) oNone (oSome (eUn negD (eC (.int 1))))) (aCons (eCut (eVar 6) (oSome (eC (.int 1))) oNone) aNil))) (pTup (pCons (pName 8) (pCons (pName 9) pNil))) (sSeq (sPar2 8 9 (aCons (eOp addD (eVar 8) (eC (.int 1))) (aCons (eB bMin2 (aCons (eVar 9) (aCons (eVar 5) aNil))) aNil)))
  (sSeq (sSet 10 (eFn (callM m_first_met 2 0 2 [(0, 0), (0, 1)] []) (aCons (eAttr cf ["Rulebook"] "own_rules" (eVar 0)) (aCons (eTup (aCons (eVar 1) (aCons (eVar 2) (aCons (eVar 4) (aCons (eVar 3) (aCons (eVar 8) aNil)))))) aNil)) aNil))
  (sIf (bAnd (bVal (eOp notND (eVar 10) (eC .non))) (bVal (eOp leD (eVar 8) (eVar 9)))) (sSeq (sSet 11 (eFn (callM m_most_whole 3 0 3 [(0, 0), (0, 1), (0, 2)] []) (aCons (eIdxB (eAttr cf ["Rulebook"] "own_rules" (eVar 0)) (eVar 10)) (aCons (eVar 8) (aCons (eVar 9) aNil))) aNil))
  (sSet 7 (eIf (bVal (eOp isND (eVar 11) (eC .non))) (eVar 7) (eVar 11)))) sPass))))
  (sRet (eVar 7))))))
def m_Rulebook_room : Fn := fnM 13 b_Rulebook_room
def t_Rulebook_room_9 : ES := (sSet 7 (eIf (bVal (eOp isND (eVar 11) (eC .non))) (eVar 7) (eVar 11)))
def t_Rulebook_room_7 : ES := (sIf (bAnd (bVal (eOp notND (eVar 10) (eC .non))) (bVal (eOp leD (eVar 8) (eVar 9)))) (sSeq (sSet 11 (eFn (callM m_most_whole 3 0 3 [(0, 0), (0, 1), (0, 2)] []) (aCons (eIdxB (eAttr cf ["Rulebook"] "own_rules" (eVar 0)) (eVar 10)) (aCons (eVar 8) (aCons (eVar 9) aNil))) aNil)) t_Rulebook_room_9) sPass)
def t_Rulebook_room_6 : ES := (sSeq (sSet 10 (eFn (callM m_first_met 2 0 2 [(0, 0), (0, 1)] []) (aCons (eAttr cf ["Rulebook"] "own_rules" (eVar 0)) (aCons (eTup (aCons (eVar 1) (aCons (eVar 2) (aCons (eVar 4) (aCons (eVar 3) (aCons (eVar 8) aNil)))))) aNil)) aNil)) t_Rulebook_room_7)
def t_Rulebook_room_5 : ES := (sSeq (sPar2 8 9 (aCons (eOp addD (eVar 8) (eC (.int 1))) (aCons (eB bMin2 (aCons (eVar 9) (aCons (eVar 5) aNil))) aNil))) t_Rulebook_room_6)
def t_Rulebook_room_10 : ES := (sRet (eVar 7))
def t_Rulebook_room_4 : ES := (sSeq (sFor (itZip (aCons (eCut (eVar 6) oNone (oSome (eUn negD (eC (.int 1))))) (aCons (eCut (eVar 6) (oSome (eC (.int 1))) oNone) aNil))) (pTup (pCons (pName 8) (pCons (pName 9) pNil))) t_Rulebook_room_5) t_Rulebook_room_10)
def t_Rulebook_room_3 : ES := (sSeq (sSet 7 (eC .non)) t_Rulebook_room_4)
def t_Rulebook_room_2 : ES := (sSeq (sSet 6 (eSortSet (eOp addD (eLst (aCons (eC (.int 0)) (aCons (eC (.int 1000000000000)) aNil))) (eLC [12] (itAny (eAttr cf ["Rulebook"] "own_rules" (eVar 0))) (pName 12) bYes (eAttr cf ["Rule"] "over" (eVar 12)))))) t_Rulebook_room_3)
theorem x_Rulebook_room : b_Rulebook_room = (sSeq (sExpr (eFn (callM m_need_share 1 0 1 [(0, 0)] []) (aCons (eVar 5) aNil) aNil)) t_Rulebook_room_2) := rfl
def b_is_spot : ES :=
  (sSeq (sIf (bOr (bNot (bVal (eIsI tysL (.b "tuple") (eVar 0)))) (bOr (bVal (eOp neD (eB bLenA (aCons (eVar 0) aNil)) (eC (.int 5)))) (bNot (bVal (eFn (callM m_is_kind 1 0 1 [(0, 0)] []) (aCons (eIdxB (eVar 0) (eC (.int 0))) aNil) aNil))))) (sRet (eC (.bl false))) sPass)
  (sSeq (sIf (bOr (bNot (bVal (eFn (callM m_is_whole 3 0 3 [(0, 0), (0, 1), (0, 2)] []) (aCons (eIdxB (eVar 0) (eC (.int 1))) (aCons (eC (.int 0)) (aCons (eC (.int 3)) aNil))) aNil))) (bNot (bVal (eIsI tysL (.b "bool") (eIdxB (eVar 0) (eC (.int 2))))))) (sRet (eC (.bl false))) sPass)
  (sRet (eAnd (eFn (callM m_is_whole 3 0 3 [(0, 0), (0, 1), (0, 2)] []) (aCons (eIdxB (eVar 0) (eC (.int 3))) (aCons (eC (.int 0)) (aCons (eC (.int 59)) aNil))) aNil) (eFn (callM m_is_whole 3 0 3 [(0, 0), (0, 1), (0, 2)] []) (aCons (eIdxB (eVar 0) (eC (.int 4))) (aCons (eC (.int 0)) (aCons (eC (.int 1000000000000)) aNil))) aNil)))))
def m_is_spot : Fn := fnM 1 b_is_spot
def t_is_spot_5 : ES := (sRet (eAnd (eFn (callM m_is_whole 3 0 3 [(0, 0), (0, 1), (0, 2)] []) (aCons (eIdxB (eVar 0) (eC (.int 3))) (aCons (eC (.int 0)) (aCons (eC (.int 59)) aNil))) aNil) (eFn (callM m_is_whole 3 0 3 [(0, 0), (0, 1), (0, 2)] []) (aCons (eIdxB (eVar 0) (eC (.int 4))) (aCons (eC (.int 0)) (aCons (eC (.int 1000000000000)) aNil))) aNil)))
def t_is_spot_3 : ES := (sSeq (sIf (bOr (bNot (bVal (eFn (callM m_is_whole 3 0 3 [(0, 0), (0, 1), (0, 2)] []) (aCons (eIdxB (eVar 0) (eC (.int 1))) (aCons (eC (.int 0)) (aCons (eC (.int 3)) aNil))) aNil))) (bNot (bVal (eIsI tysL (.b "bool") (eIdxB (eVar 0) (eC (.int 2))))))) (sRet (eC (.bl false))) sPass) t_is_spot_5)
theorem x_is_spot : b_is_spot = (sSeq (sIf (bOr (bNot (bVal (eIsI tysL (.b "tuple") (eVar 0)))) (bOr (bVal (eOp neD (eB bLenA (aCons (eVar 0) aNil)) (eC (.int 5)))) (bNot (bVal (eFn (callM m_is_kind 1 0 1 [(0, 0)] []) (aCons (eIdxB (eVar 0) (eC (.int 0))) aNil) aNil))))) (sRet (eC (.bl false))) sPass) t_is_spot_3) := rfl
def b_need_spot : ES :=
  (sIf (bNot (bVal (eFn (callM m_is_spot 1 0 1 [(0, 0)] []) (aCons (eVar 0) aNil) aNil))) sBad sPass)
def m_need_spot : Fn := fnM 1 b_need_spot
def b_Rule_pays_of : ES :=
  (sSeq (sIf (bVal (eOp eqD (eAttr cf ["Rule"] "deed" (eVar 0)) (eC (.str "let")))) (sRet (eVar 1)) sPass)
  (sSeq (sIf (bVal (eOp eqD (eAttr cf ["Rule"] "deed" (eVar 0)) (eC (.str "cut")))) (sRet (eB bMin2 (aCons (eVar 1) (aCons (eAttr cf ["Rule"] "bound" (eVar 0)) aNil)))) sPass)
  (sSeq (sIf (bVal (eOp eqD (eAttr cf ["Rule"] "deed" (eVar 0)) (eC (.str "each")))) (sRet (eOp mulD (eVar 1) (eAttr cf ["Rule"] "bound" (eVar 0)))) sPass)
  (sSeq (sIf (bVal (eOp eqD (eAttr cf ["Rule"] "deed" (eVar 0)) (eC (.str "hundredths")))) (sRet (eOp fdivD (eOp mulD (eVar 1) (eAttr cf ["Rule"] "bound" (eVar 0))) (eC (.int 100)))) sPass)
  (sRet (eC (.int 0)))))))
def m_Rule_pays_of : Fn := fnM 2 b_Rule_pays_of
def t_Rule_pays_of_9 : ES := (sRet (eC (.int 0)))
def t_Rule_pays_of_7 : ES := (sSeq (sIf (bVal (eOp eqD (eAttr cf ["Rule"] "deed" (eVar 0)) (eC (.str "hundredths")))) (sRet (eOp fdivD (eOp mulD (eVar 1) (eAttr cf ["Rule"] "bound" (eVar 0))) (eC (.int 100)))) sPass) t_Rule_pays_of_9)
def t_Rule_pays_of_5 : ES := (sSeq (sIf (bVal (eOp eqD (eAttr cf ["Rule"] "deed" (eVar 0)) (eC (.str "each")))) (sRet (eOp mulD (eVar 1) (eAttr cf ["Rule"] "bound" (eVar 0)))) sPass) t_Rule_pays_of_7)
def t_Rule_pays_of_3 : ES := (sSeq (sIf (bVal (eOp eqD (eAttr cf ["Rule"] "deed" (eVar 0)) (eC (.str "cut")))) (sRet (eB bMin2 (aCons (eVar 1) (aCons (eAttr cf ["Rule"] "bound" (eVar 0)) aNil)))) sPass) t_Rule_pays_of_5)
theorem x_Rule_pays_of : b_Rule_pays_of = (sSeq (sIf (bVal (eOp eqD (eAttr cf ["Rule"] "deed" (eVar 0)) (eC (.str "let")))) (sRet (eVar 1)) sPass) t_Rule_pays_of_3) := rfl
def b_paid_by : ES :=
  (sSeq (sSet 2 (eFn (callM m_first_met 2 0 2 [(0, 0), (0, 1)] []) (aCons (eVar 0) (aCons (eVar 1) aNil)) aNil))
  (sSeq (sIf (bVal (eOp isND (eVar 2) (eC .non))) (sRet (eTup (aCons (eC (.int 0)) (aCons (eC .non) aNil)))) sPass)
  (sRet (eTup (aCons (eMeth cf "Rule" "pays_of" (callM m_Rule_pays_of 2 0 2 [(0, 0), (0, 1)] []) (eIdxB (eVar 0) (eVar 2)) (aCons (eIdxB (eVar 1) (eC (.int 4))) aNil) aNil) (aCons (eAttr cf ["Rule"] "name" (eIdxB (eVar 0) (eVar 2))) aNil))))))
def m_paid_by : Fn := fnM 3 b_paid_by
def t_paid_by_4 : ES := (sRet (eTup (aCons (eMeth cf "Rule" "pays_of" (callM m_Rule_pays_of 2 0 2 [(0, 0), (0, 1)] []) (eIdxB (eVar 0) (eVar 2)) (aCons (eIdxB (eVar 1) (eC (.int 4))) aNil) aNil) (aCons (eAttr cf ["Rule"] "name" (eIdxB (eVar 0) (eVar 2))) aNil))))
def t_paid_by_2 : ES := (sSeq (sIf (bVal (eOp isND (eVar 2) (eC .non))) (sRet (eTup (aCons (eC (.int 0)) (aCons (eC .non) aNil)))) sPass) t_paid_by_4)
theorem x_paid_by : b_paid_by = (sSeq (sSet 2 (eFn (callM m_first_met 2 0 2 [(0, 0), (0, 1)] []) (aCons (eVar 0) (aCons (eVar 1) aNil)) aNil)) t_paid_by_2) := rfl
def b_Rulebook_paid_of : ES :=
  (sSeq (sExpr (eFn (callM m_need_spot 1 0 1 [(0, 0)] []) (aCons (eVar 1) aNil) aNil))
  (sRet (eFn (callM m_paid_by 2 0 2 [(0, 0), (0, 1)] []) (aCons (eAttr cf ["Rulebook"] "own_rules" (eVar 0)) (aCons (eVar 1) aNil)) aNil)))
def m_Rulebook_paid_of : Fn := fnM 2 b_Rulebook_paid_of
def t_Rulebook_paid_of_2 : ES := (sRet (eFn (callM m_paid_by 2 0 2 [(0, 0), (0, 1)] []) (aCons (eAttr cf ["Rulebook"] "own_rules" (eVar 0)) (aCons (eVar 1) aNil)) aNil))
theorem x_Rulebook_paid_of : b_Rulebook_paid_of = (sSeq (sExpr (eFn (callM m_need_spot 1 0 1 [(0, 0)] []) (aCons (eVar 1) aNil) aNil)) t_Rulebook_paid_of_2) := rfl
def b__law_right : ES :=
  (sSeq (sSet 4 (eFn (callM m__law_room 3 0 3 [(0, 0), (0, 1), (0, 2)] []) (aCons (eVar 1) (aCons (eVar 2) (aCons (eVar 3) aNil))) aNil))
  (sSeq (sSet 5 (eLstM (aCons (eMeth cf "Rulebook" "room" (callM m_Rulebook_room 6 0 6 [(0, 0), (0, 1), (0, 2), (0, 3), (0, 4), (0, 5)] [.bl true, .int 1000000]) (eVar 0) (aCons (eIdxB (eVar 2) (eC (.int 0))) (aCons (eIdxB (eVar 2) (eC (.int 1))) (aCons (eIdxB (eVar 2) (eC (.int 3))) (aCons (eIdxB (eVar 2) (eC (.int 2))) (aCons (eVar 3) aNil))))) aNil) aNil)))
  (sSeq (sExpr (eApp (eVar 5) (eMeth cf "Rulebook" "room" (callM m_Rulebook_room 1 5 6 [(0, 0), (2, 0), (2, 1), (2, 2), (2, 4), (2, 3)] [.bl true, .int 1000000]) (eVar 0) aNil (aCons (eIdxB (eVar 2) (eC (.int 0))) (aCons (eIdxB (eVar 2) (eC (.int 1))) (aCons (eIdxB (eVar 2) (eC (.int 3))) (aCons (eVar 3) (aCons (eIdxB (eVar 2) (eC (.int 2))) aNil))))))))
  (sSeq (sIf (bVal (eOp neD (eBS bRepr (aCons (eVar 5) aNil)) (eB bReprX (aCons (eLst (aCons (eVar 4) (aCons (eVar 4) aNil))) aNil)))) (sRet (eC (.bl false))) sPass)
  (sRet (eOr (eOp isND (eVar 4) (eC .non)) (eOp eqD (eIdxB (eMeth cf "Rulebook" "paid_of" (callM m_Rulebook_paid_of 2 0 2 [(0, 0), (0, 1)] []) (eVar 0) (aCons (eOp addD (eCut (eVar 2) oNone (oSome (eC (.int 4)))) (eTup (aCons (eVar 4) aNil))) aNil) aNil) (eC (.int 0))) (eVar 4))))))))
def m__law_right : Fn := fnM 6 b__law_right
def t__law_right_6 : ES := (sRet (eOr (eOp isND (eVar 4) (eC .non)) (eOp eqD (eIdxB (eMeth cf "Rulebook" "paid_of" (callM m_Rulebook_paid_of 2 0 2 [(0, 0), (0, 1)] []) (eVar 0) (aCons (eOp addD (eCut (eVar 2) oNone (oSome (eC (.int 4)))) (eTup (aCons (eVar 4) aNil))) aNil) aNil) (eC (.int 0))) (eVar 4))))
def t__law_right_4 : ES := (sSeq (sIf (bVal (eOp neD (eBS bRepr (aCons (eVar 5) aNil)) (eB bReprX (aCons (eLst (aCons (eVar 4) (aCons (eVar 4) aNil))) aNil)))) (sRet (eC (.bl false))) sPass) t__law_right_6)
def t__law_right_3 : ES := (sSeq (sExpr (eApp (eVar 5) (eMeth cf "Rulebook" "room" (callM m_Rulebook_room 1 5 6 [(0, 0), (2, 0), (2, 1), (2, 2), (2, 4), (2, 3)] [.bl true, .int 1000000]) (eVar 0) aNil (aCons (eIdxB (eVar 2) (eC (.int 0))) (aCons (eIdxB (eVar 2) (eC (.int 1))) (aCons (eIdxB (eVar 2) (eC (.int 3))) (aCons (eVar 3) (aCons (eIdxB (eVar 2) (eC (.int 2))) aNil)))))))) t__law_right_4)
def t__law_right_2 : ES := (sSeq (sSet 5 (eLstM (aCons (eMeth cf "Rulebook" "room" (callM m_Rulebook_room 6 0 6 [(0, 0), (0, 1), (0, 2), (0, 3), (0, 4), (0, 5)] [.bl true, .int 1000000]) (eVar 0) (aCons (eIdxB (eVar 2) (eC (.int 0))) (aCons (eIdxB (eVar 2) (eC (.int 1))) (aCons (eIdxB (eVar 2) (eC (.int 3))) (aCons (eIdxB (eVar 2) (eC (.int 2))) (aCons (eVar 3) aNil))))) aNil) aNil))) t__law_right_3)
theorem x__law_right : b__law_right = (sSeq (sSet 4 (eFn (callM m__law_room 3 0 3 [(0, 0), (0, 1), (0, 2)] []) (aCons (eVar 1) (aCons (eVar 2) (aCons (eVar 3) aNil))) aNil)) t__law_right_2) := rfl
def b__law_family (cn : String) : ES :=
  (sSeq (sSet 1 (eLst (aCons (eIsX (isx cn (.o "NoRates")) (eVar 0)) (aCons (eIsX (isx cn (.o "NoSpot")) (eVar 0)) (aCons (eIsX (isx cn (.o "NoShare")) (eVar 0)) (aCons (eIsX (isx cn (.o "NoBook")) (eVar 0)) aNil))))))
  (sSeq (sSet 1 (eOp addD (eVar 1) (eLst (aCons (eIsX (isx cn (.o "NoPlace")) (eVar 0)) (aCons (eIsX (isx cn (.o "Absent")) (eVar 0)) (aCons (eIsX (isx cn (.o "Nothing")) (eVar 0)) (aCons (eIsX (isx cn (.o "NoTable")) (eVar 0)) aNil)))))))
  (sSeq (sSet 1 (eOp addD (eVar 1) (eLst (aCons (eIsX (isx cn (.o "NoLine")) (eVar 0)) (aCons (eIsX (isx cn (.o "NoSpending")) (eVar 0)) (aCons (eIsX (isx cn (.o "NoRule")) (eVar 0)) (aCons (eIsX (isx cn (.o "NoJourney")) (eVar 0)) aNil)))))))
  (sSeq (sSet 1 (eOp addD (eVar 1) (eLst (aCons (eIsX (isx cn (.o "NoText")) (eVar 0)) (aCons (eIsX (isx cn (.o "TooMany")) (eVar 0)) (aCons (eIsX (isx cn (.o "NoRate")) (eVar 0)) (aCons (eIsX (isx cn (.o "NoDay")) (eVar 0)) aNil)))))))
  (sRet (eOp addD (eVar 1) (eLst (aCons (eIsX (isx cn (.o "NoName")) (eVar 0)) (aCons (eIsX (isx cn (.o "NoHeads")) (eVar 0)) aNil)))))))))
def m__law_family (cn : String) : Fn := fnM 2 (b__law_family cn)
def b__law_word (cn : String) : ES :=
  (sSeq (sSet 1 (eFnP (m__law_family cn) (eVar 0)))
  (sSeq (sSet 2 (eLst (aCons (eC (.str "rates")) (aCons (eC (.str "spot")) (aCons (eC (.str "share")) (aCons (eC (.str "book")) (aCons (eC (.str "place")) (aCons (eC (.str "absent")) (aCons (eC (.str "nothing")) (aCons (eC (.str "table")) (aCons (eC (.str "line")) (aCons (eC (.str "spending")) (aCons (eC (.str "rule")) aNil)))))))))))))
  (sSeq (sSet 2 (eOp addD (eVar 2) (eLst (aCons (eC (.str "journey")) (aCons (eC (.str "text")) (aCons (eC (.str "many")) (aCons (eC (.str "rate")) (aCons (eC (.str "day")) (aCons (eC (.str "name")) (aCons (eC (.str "heads")) aNil))))))))))
  (sSeq (sIf (bVal (eOp neD (eM1 "list" cntD (eVar 1) (eC (.bl true))) (eC (.int 1)))) (sRet (eC (.str "other"))) sPass)
  (sSeq (sSet 3 (eM1 "list" idxOfD (eVar 1) (eC (.bl true))))
  (sSeq (sSet 4 (eLst (aCons (eIsX (isx cn (.o "PenceError")) (eVar 0)) (aCons (eIsX (isx cn (.b "ValueError")) (eVar 0)) (aCons (eIsX (isx cn (.b "KeyError")) (eVar 0)) aNil)))))
  (sSeq (sSet 4 (eOp addD (eVar 4) (eLst (aCons (eIsX (isx cn (.b "IndexError")) (eVar 0)) (aCons (eIsX (isx cn (.b "LookupError")) (eVar 0)) (aCons (eIsX (isx cn (.b "ZeroDivisionError")) (eVar 0)) aNil))))))
  (sSeq (sSet 5 (eLst (aCons (eC (.bl true)) (aCons (eC (.bl true)) (aCons (eC (.bl false)) (aCons (eC (.bl false)) (aCons (eC (.bl false)) (aCons (eC (.bl false)) aNil))))))))
  (sSeq (sIf (bVal (eOp gtD (eVar 3) (eC (.int 13)))) (sSet 5 (eLst (aCons (eC (.bl false)) (aCons (eC (.bl false)) (aCons (eOp eqD (eVar 3) (eC (.int 16))) (aCons (eOp eqD (eVar 3) (eC (.int 15))) (aCons (eOp ltA (eVar 3) (eC (.int 17))) (aCons (eOp eqD (eVar 3) (eC (.int 17))) aNil)))))))) sPass)
  (sRet (eIf (bVal (eOp eqD (eVar 4) (eVar 5))) (eIdxB (eVar 2) (eVar 3)) (eC (.str "other")))))))))))))
def m__law_word (cn : String) : Fn := fnM 6 (b__law_word cn)
def sx_0 (cn : String) : ES :=
  (sSeq (sSet 2 (eFnP (m__law_word cn) (eVar 1)))
  (sSeq (sIf (bVal (eOp inD (eVar 2) (eLst (aCons (eC (.str "spending")) (aCons (eC (.str "rule")) (aCons (eC (.str "journey")) aNil)))))) (sRet (eTup (aCons (eVar 2) (aCons (eXf cf cn "part" (eVar 1)) aNil)))) sPass)
  (sSeq (sIf (bVal (eOp eqD (eVar 2) (eC (.str "text")))) (sRet (eTup (aCons (eVar 2) (aCons (eXf cf cn "row" (eVar 1)) aNil)))) sPass)
  (sRet (eIf (bVal (eOp eqD (eVar 2) (eC (.str "many")))) (eTup (aCons (eVar 2) (aCons (eXf cf cn "many" (eVar 1)) (aCons (eXf cf cn "most" (eVar 1)) aNil)))) (eTup (aCons (eVar 2) aNil)))))))
def sx_1 (cn : String) : ES :=
  (sRet (eTup (aCons (eFnP (m__law_word cn) (eVar 1)) (aCons (eXf cf cn "heads" (eVar 1)) aNil))))
def sx_2 (cn : String) : ES :=
  (sRet (eTup (aCons (eFnP (m__law_word cn) (eVar 1)) (aCons (eXf cf cn "name" (eVar 1)) aNil))))
def sx_3 (cn : String) : ES :=
  (sRet (eTup (aCons (eFnP (m__law_word cn) (eVar 1)) (aCons (eXf cf cn "day" (eVar 1)) aNil))))
def sx_4 (cn : String) : ES :=
  (sRet (eTup (aCons (eFnP (m__law_word cn) (eVar 1)) (aCons (eXf cf cn "money" (eVar 1)) (aCons (eXf cf cn "day" (eVar 1)) aNil)))))
def clX (T : Tb) : List (Value × (String → ES)) := [(.ref (He.ga T.K ("PenceError" : PySem.Str)), sx_0), (.ref (He.ga T.K ("NoHeads" : PySem.Str)), sx_1), (.ref (He.ga T.K ("NoName" : PySem.Str)), sx_2), (.ref (He.ga T.K ("NoDay" : PySem.Str)), sx_3), (.ref (He.ga T.K ("NoRate" : PySem.Str)), sx_4)]
def b_law : ES :=
  (sSeq (sFor (itR1 (aCons (eB bMax2 (aCons (eC (.int 1)) (aCons (eB bMin2 (aCons (eB bLenA (aCons (eVar 0) aNil)) (aCons (eC (.int 4)) aNil))) aNil))) aNil)) (pName 1) (sSeq (sSet 2 (eFn (callM m__law_box 2 0 2 [(0, 0), (0, 1)] []) (aCons (eVar 0) (aCons (eVar 1) aNil)) aNil))
  (sSeq (sSet 3 (eCut (eFn (callM m__law_rules 2 0 2 [(0, 0), (0, 1)] []) (aCons (eVar 2) (aCons (eC (.int 9)) aNil)) aNil) oNone (oSome (eC (.int 8)))))
  (sSeq (sSet 4 (eFn (callM m__law_booked 1 0 1 [(0, 0)] []) (aCons (eVar 3) aNil) aNil))
  (sSeq (sFor (itR1 (aCons (eC (.int 10)) aNil)) (pName 5) (sSeq (sSet 7 (eFn (callM m__law_spot 2 0 2 [(0, 0), (0, 1)] []) (aCons (eVar 2) (aCons (eVar 3) aNil)) aNil))
  (sSeq (sSet 8 (eOp addD (eLst (aCons (eC (.int 0)) (aCons (eC (.int 1)) (aCons (eOp powD (eC (.int 10)) (eC (.int 12))) (aCons (eFn (callM m__law_take 2 0 2 [(0, 0), (0, 1)] []) (aCons (eVar 2) (aCons (eOp powD (eC (.int 10)) (eC (.int 12))) aNil)) aNil) (aCons (eFn (callM m__law_take 2 0 2 [(0, 0), (0, 1)] []) (aCons (eVar 2) (aCons (eC (.int 600)) aNil)) aNil) aNil)))))) (eLC [10] (itAny (eVar 3)) (pName 10) bYes (eIdxB (eVar 10) (eC (.int 2))))))
  (sSeq (sFor (itAny (eOp addD (eVar 8) (eLC [10] (itAny (eVar 3)) (pName 10) bYes (eIdxB (eVar 10) (eC (.int 7)))))) (pName 9) (sIf (bNot (bVal (eFn (callM m__law_right 4 0 4 [(0, 0), (0, 1), (0, 2), (0, 3)] []) (aCons (eVar 4) (aCons (eVar 3) (aCons (eVar 7) (aCons (eVar 9) aNil)))) aNil))) (sRet (eC (.bl false))) sPass))
  (sIf (bVal (eOp neD (eMeth cf "Rulebook" "room" (callM m_Rulebook_room 4 0 6 [(0, 0), (0, 1), (0, 2), (0, 3), (1, 0), (1, 1)] [.bl true, .int 1000000]) (eVar 4) (aCons (eIdxB (eVar 7) (eC (.int 0))) (aCons (eIdxB (eVar 7) (eC (.int 1))) (aCons (eIdxB (eVar 7) (eC (.int 3))) aNil))) aNil) (eFn (callM m__law_room 3 0 3 [(0, 0), (0, 1), (0, 2)] []) (aCons (eVar 3) (aCons (eOp addD (eOp addD (eCut (eVar 7) oNone (oSome (eC (.int 2)))) (eTup (aCons (eC (.bl true)) aNil))) (eCut (eVar 7) (oSome (eC (.int 3))) oNone)) (aCons (eC (.int 1000000)) aNil))) aNil))) (sRet (eC (.bl false))) sPass)))))
  (sSeq (sFor (itAny (eLst (aCons (eUn negD (eC (.int 1))) (aCons (eOp addD (eOp powD (eC (.int 10)) (eC (.int 12))) (eC (.int 1))) (aCons (eC (.bl true)) (aCons (eC .non) (aCons (eC (.str "9")) (aCons (eOp powD (eC (.int 10)) (eC (.int 29))) aNil)))))))) (pName 6) (sIf (bVal (eOp neD (eSaid "told" (refL cnsL) (eMeth cf "Rulebook" "room" (callM m_Rulebook_room 6 0 6 [(0, 0), (0, 1), (0, 2), (0, 3), (0, 4), (0, 5)] [.bl true, .int 1000000]) (eVar 4) (aCons (eC (.str "meal")) (aCons (eC (.int 0)) (aCons (eC (.int 5)) (aCons (eC (.bl true)) (aCons (eVar 6) aNil))))) aNil)) (eTup (aCons (eC (.str "share")) aNil)))) (sRet (eC (.bl false))) sPass))
  (sIf (bVal (eOp notND (eMeth cf "Rulebook" "room" (callM m_Rulebook_room 4 0 6 [(0, 0), (0, 1), (0, 2), (0, 3), (1, 0), (1, 1)] [.bl true, .int 1000000]) (eFrz cf (eFn (newM "Rulebook" (callM m_Rulebook_init 1 0 2 [(0, 0), (1, 0)] [.non])) aNil aNil)) (aCons (eC (.str "bed")) (aCons (eC (.int 3)) (aCons (eC (.int 59)) aNil))) aNil) (eC .non))) (sRet (eC (.bl false))) sPass)))))))
  (sRet (eC (.bl true))))
def m_law : Fn := fnM 11 b_law
def t_law_9 : ES := (sIf (bNot (bVal (eFn (callM m__law_right 4 0 4 [(0, 0), (0, 1), (0, 2), (0, 3)] []) (aCons (eVar 4) (aCons (eVar 3) (aCons (eVar 7) (aCons (eVar 9) aNil)))) aNil))) (sRet (eC (.bl false))) sPass)
def t_law_11 : ES := (sIf (bVal (eOp neD (eMeth cf "Rulebook" "room" (callM m_Rulebook_room 4 0 6 [(0, 0), (0, 1), (0, 2), (0, 3), (1, 0), (1, 1)] [.bl true, .int 1000000]) (eVar 4) (aCons (eIdxB (eVar 7) (eC (.int 0))) (aCons (eIdxB (eVar 7) (eC (.int 1))) (aCons (eIdxB (eVar 7) (eC (.int 3))) aNil))) aNil) (eFn (callM m__law_room 3 0 3 [(0, 0), (0, 1), (0, 2)] []) (aCons (eVar 3) (aCons (eOp addD (eOp addD (eCut (eVar 7) oNone (oSome (eC (.int 2)))) (eTup (aCons (eC (.bl true)) aNil))) (eCut (eVar 7) (oSome (eC (.int 3))) oNone)) (aCons (eC (.int 1000000)) aNil))) aNil))) (sRet (eC (.bl false))) sPass)
def t_law_8 : ES := (sSeq (sFor (itAny (eOp addD (eVar 8) (eLC [10] (itAny (eVar 3)) (pName 10) bYes (eIdxB (eVar 10) (eC (.int 7)))))) (pName 9) t_law_9) t_law_11)
def t_law_7 : ES := (sSeq (sSet 8 (eOp addD (eLst (aCons (eC (.int 0)) (aCons (eC (.int 1)) (aCons (eOp powD (eC (.int 10)) (eC (.int 12))) (aCons (eFn (callM m__law_take 2 0 2 [(0, 0), (0, 1)] []) (aCons (eVar 2) (aCons (eOp powD (eC (.int 10)) (eC (.int 12))) aNil)) aNil) (aCons (eFn (callM m__law_take 2 0 2 [(0, 0), (0, 1)] []) (aCons (eVar 2) (aCons (eC (.int 600)) aNil)) aNil) aNil)))))) (eLC [10] (itAny (eVar 3)) (pName 10) bYes (eIdxB (eVar 10) (eC (.int 2)))))) t_law_8)
def t_law_6 : ES := (sSeq (sSet 7 (eFn (callM m__law_spot 2 0 2 [(0, 0), (0, 1)] []) (aCons (eVar 2) (aCons (eVar 3) aNil)) aNil)) t_law_7)
def t_law_14 : ES := (sIf (bVal (eOp neD (eSaid "told" (refL cnsL) (eMeth cf "Rulebook" "room" (callM m_Rulebook_room 6 0 6 [(0, 0), (0, 1), (0, 2), (0, 3), (0, 4), (0, 5)] [.bl true, .int 1000000]) (eVar 4) (aCons (eC (.str "meal")) (aCons (eC (.int 0)) (aCons (eC (.int 5)) (aCons (eC (.bl true)) (aCons (eVar 6) aNil))))) aNil)) (eTup (aCons (eC (.str "share")) aNil)))) (sRet (eC (.bl false))) sPass)
def t_law_16 : ES := (sIf (bVal (eOp notND (eMeth cf "Rulebook" "room" (callM m_Rulebook_room 4 0 6 [(0, 0), (0, 1), (0, 2), (0, 3), (1, 0), (1, 1)] [.bl true, .int 1000000]) (eFrz cf (eFn (newM "Rulebook" (callM m_Rulebook_init 1 0 2 [(0, 0), (1, 0)] [.non])) aNil aNil)) (aCons (eC (.str "bed")) (aCons (eC (.int 3)) (aCons (eC (.int 59)) aNil))) aNil) (eC .non))) (sRet (eC (.bl false))) sPass)
def t_law_13 : ES := (sSeq (sFor (itAny (eLst (aCons (eUn negD (eC (.int 1))) (aCons (eOp addD (eOp powD (eC (.int 10)) (eC (.int 12))) (eC (.int 1))) (aCons (eC (.bl true)) (aCons (eC .non) (aCons (eC (.str "9")) (aCons (eOp powD (eC (.int 10)) (eC (.int 29))) aNil)))))))) (pName 6) t_law_14) t_law_16)
def t_law_5 : ES := (sSeq (sFor (itR1 (aCons (eC (.int 10)) aNil)) (pName 5) t_law_6) t_law_13)
def t_law_4 : ES := (sSeq (sSet 4 (eFn (callM m__law_booked 1 0 1 [(0, 0)] []) (aCons (eVar 3) aNil) aNil)) t_law_5)
def t_law_3 : ES := (sSeq (sSet 3 (eCut (eFn (callM m__law_rules 2 0 2 [(0, 0), (0, 1)] []) (aCons (eVar 2) (aCons (eC (.int 9)) aNil)) aNil) oNone (oSome (eC (.int 8))))) t_law_4)
def t_law_2 : ES := (sSeq (sSet 2 (eFn (callM m__law_box 2 0 2 [(0, 0), (0, 1)] []) (aCons (eVar 0) (aCons (eVar 1) aNil)) aNil)) t_law_3)
def t_law_18 : ES := (sRet (eC (.bl true)))
theorem x_law : b_law = (sSeq (sFor (itR1 (aCons (eB bMax2 (aCons (eC (.int 1)) (aCons (eB bMin2 (aCons (eB bLenA (aCons (eVar 0) aNil)) (aCons (eC (.int 4)) aNil))) aNil))) aNil)) (pName 1) t_law_2) t_law_18) := rfl
section
variable {T : Tb} {P : Program} {w : World} {mg : Str → Option Value} {base : Heap}
theorem He_exc (F : Fx T mg lw) (i : Nat) {f : He.Fa} (h : lw.fas[i]? = some f := by rfl) : f.ok T.K = true := F.fa i h
theorem xkX (F : Fx T mg lw) (cn : String) (hcn : cn ∈ cnsL) : ExC T.K (He.ga T.K (cn : PySem.Str)) := F.exk cn hcn
theorem kxX (F : Fx T mg lw) (cn : String) (hcn : cn ∈ cnsL) (t : Ty) (ht : t ∈ tyX := by decide +kernel) : PySem.W.kitOne T.K (.ref (He.ga T.K (cn : PySem.Str))) (tyV' T.K t) = some (isx cn t) := F.kix (cn, t, isx cn t) (List.mem_flatMap.mpr ⟨cn, hcn, List.mem_map.mpr ⟨t, ht, rfl⟩⟩)
theorem xfX (F : Fx T mg lw) (cn : String) (hcn : cn ∈ cnsL) (fn : String) (hm : fn ∈ cf cn) : XfC T.K (He.ga T.K (cn : PySem.Str)) ∧ PySem.W.findIn T.K (.ref (He.ga T.K (cn : PySem.Str))) (fn : PySem.Str) = some none := by
  exact absurd hm (by simp only [cnsL, List.mem_cons, List.not_mem_nil, or_false] at hcn; subst hcn <;> simp [cf])
theorem nd__law_box : (["_law_script", "_law_k", "_law_here", "_law_number", "_law_j", "_law_piece"] : List Str).Nodup := by decide +kernel
theorem sc__law_box : FnScope ["_law_script", "_law_k", "_law_here", "_law_number", "_law_j", "_law_piece"] ["_law_script", "_law_k"] d__law_box.scope := ⟨rfl, rfl, rfl, nd__law_box, rfl, by decide +kernel, by decide +kernel⟩
theorem ok__law_box (F : Fx T mg lw) (hcf : T.cf = cf) (hx0 : T.xc = none) (hT : T.tabs = tabsOf T.K lw.tf) (TB : TabsB T.K mg base (lw.tf.map (·.1))) (hD : DictsK T.K w (dcsL.map (·.1))) : OkF T P w mg base 1 d__law_box ["_law_script", "_law_k"] m__law_box := by
  obtain ⟨fd, FD⟩ := F.defs 0 d__law_box rfl
  refine OkF.mk' (N := ["_law_script", "_law_k", "_law_here", "_law_number", "_law_j", "_law_piece"]) FD sc__law_box fun cdv A outer s H E hr => ?_
  show ISs T E _ (defBody (top 47)) b__law_box
  exact (is_cons (is_st 2 nd__law_box (ie_op (oi_add (by rfl)) (ie_op (oi_mul) ie_int (ie_v 1)) ie_int))
  (is_cons (is_if (ib_cmp (oi_ltA (by rfl) (by exact hr.rm.units0)) (ie_v 1) (ie_b (by exact call_len) bo_lenA (by rfl) (by exact F.f "len") (by decide +kernel) (ia_cons (ie_v 0) ia_nil)) (by rfl)) (is_one (is_st 2 nd__law_box (ie_idxB (by rfl) (by exact hu1 hr) (ie_v 0) (ie_v 1)))) is_nil)
  (is_cons (is_if (ib_cmp (oi_eqP (by rfl) (by exact hr.rm.units)) (ie_op (oi_mod) (ie_v 2) ie_int) ie_int (by rfl)) (is_one (is_ret (ie_lstM (ia_cons (ie_op (oi_fdiv) (ie_v 2) ie_int) (ia_cons (ie_op (oi_mod) (ie_b (by exact call_abs) bo_abs (by rfl) (by exact F.f "abs") (by decide +kernel) (ia_cons (ie_v 2) ia_nil)) ie_int) ia_nil))))) is_nil)
  (is_cons (is_st 3 nd__law_box ie_int)
  (is_cons (is_for (vs := allN 6) (by exact passes_of rfl) (by rfl) (ii_r1 (by rfl) (by exact F.f "range") (ia_cons ie_int ia_nil)) (ig_n 4 nd__law_box) (is_cons (is_st 5 nd__law_box (ie_op (oi_mod) (ie_op (oi_add (by rfl)) (ie_op (oi_add (by rfl)) (ie_op (oi_mul) (ie_op (oi_mod) (ie_v 2) ie_int) ie_int) (ie_op (oi_mul) ie_int (ie_v 4))) ie_int) ie_int))
  (is_cons (is_st 5 nd__law_box (ie_op (oi_mod) (ie_op (oi_mul) (ie_v 5) (ie_v 5)) ie_int))
  (is_one (is_st 3 nd__law_box (ie_op (oi_add (by rfl)) (ie_op (oi_mul) (ie_v 3) ie_int) (ie_op (oi_mod) (ie_op (oi_mul) (ie_v 5) (ie_op (oi_add (by rfl)) (ie_v 5) ie_int)) ie_int)))))))
  (is_one (is_ret (ie_lstM (ia_cons (ie_v 3) (ia_cons (ie_op (oi_mod) (ie_b (by exact call_abs) bo_abs (by rfl) (by exact F.f "abs") (by decide +kernel) (ia_cons (ie_v 2) ia_nil)) ie_int) ia_nil))))))))))
theorem kb__law_box_0 (fd : FuncData) (FD : FunD T.K d__law_box.name d__law_box.qual d__law_box.params d__law_box.body d__law_box.scope (d__law_box.dvs T.K) [] (He.fAd T.K d__law_box.at_) fd) : KBD T fd ["_law_script", "_law_k"] 2 [] [(0, 0), (0, 1)] [] :=
  kbd_n FD fun kV doc pm an cdv ct us ws h1 h2 => match us, ws, h1, h2 with | [_, _], [], _, _ => rfl
theorem nd__law_more : (["_law_box_here", "_law_number", "_law_j"] : List Str).Nodup := by decide +kernel
theorem sc__law_more : FnScope ["_law_box_here", "_law_number", "_law_j"] ["_law_box_here"] d__law_more.scope := ⟨rfl, rfl, rfl, nd__law_more, rfl, by decide +kernel, by decide +kernel⟩
theorem ok__law_more (F : Fx T mg lw) (hcf : T.cf = cf) (hx0 : T.xc = none) (hT : T.tabs = tabsOf T.K lw.tf) (TB : TabsB T.K mg base (lw.tf.map (·.1))) (hD : DictsK T.K w (dcsL.map (·.1))) : OkF T P w mg base 1 d__law_more ["_law_box_here"] m__law_more := by
  obtain ⟨fd, FD⟩ := F.defs 1 d__law_more rfl
  refine OkF.mk' (N := ["_law_box_here", "_law_number", "_law_j"]) FD sc__law_more fun cdv A outer s H E hr => ?_
  show ISs T E _ (defBody (top 48)) b__law_more
  exact (is_cons (is_st 1 nd__law_more ie_int)
  (is_cons (is_for (vs := allN 3) (by exact passes_of rfl) (by rfl) (ii_r1 (by rfl) (by exact F.f "range") (ia_cons ie_int ia_nil)) (ig_n 2 nd__law_more) (is_cons (is_setit (ie_op (oi_mod) (ie_op (oi_add (by rfl)) (ie_op (oi_mul) (ie_idxB (by rfl) (by exact hu1 hr) (ie_v 0) ie_int) ie_int) ie_int) ie_int) (ie_v 0) ie_int)
  (is_one (is_st 1 nd__law_more (ie_op (oi_add (by rfl)) (ie_op (oi_mul) (ie_v 1) ie_int) (ie_op (oi_mod) (ie_op (oi_fdiv) (ie_idxB (by rfl) (by exact hu1 hr) (ie_v 0) ie_int) ie_int) ie_int))))))
  (is_one (is_ret (ie_v 1)))))
theorem kb__law_more_0 (fd : FuncData) (FD : FunD T.K d__law_more.name d__law_more.qual d__law_more.params d__law_more.body d__law_more.scope (d__law_more.dvs T.K) [] (He.fAd T.K d__law_more.at_) fd) : KBD T fd ["_law_box_here"] 1 [] [(0, 0)] [] :=
  kbd_n FD fun kV doc pm an cdv ct us ws h1 h2 => match us, ws, h1, h2 with | [_], [], _, _ => rfl
theorem nd__law_take : (["_law_box_here", "_law_count", "_law_rest_of", "_law_digit"] : List Str).Nodup := by decide +kernel
theorem sc__law_take : FnScope ["_law_box_here", "_law_count", "_law_rest_of", "_law_digit"] ["_law_box_here", "_law_count"] d__law_take.scope := ⟨rfl, rfl, rfl, nd__law_take, rfl, by decide +kernel, by decide +kernel⟩
theorem ok__law_take (F : Fx T mg lw) (hcf : T.cf = cf) (hx0 : T.xc = none) (hT : T.tabs = tabsOf T.K lw.tf) (TB : TabsB T.K mg base (lw.tf.map (·.1))) (hD : DictsK T.K w (dcsL.map (·.1))) : OkF T P w mg base 2 d__law_take ["_law_box_here", "_law_count"] m__law_take := by
  obtain ⟨fd, FD⟩ := F.defs 2 d__law_take rfl
  refine OkF.mk' (N := ["_law_box_here", "_law_count", "_law_rest_of", "_law_digit"]) FD sc__law_take fun cdv A outer s H E hr => ?_
  show ISs T E _ (defBody (top 49)) b__law_take
  exact (is_cons (is_if (ib_chain (oi_le) (oi_ltA (by rfl) (by exact hr.rm.units0)) ie_int (ie_idxB (by rfl) (by exact hu1 hr) (ie_v 0) ie_int) (ie_v 1)) (is_one (is_setit (ie_op (oi_add (by rfl)) (ie_idxB (by rfl) (by exact hu1 hr) (ie_v 0) ie_int) (ie_op (oi_mul) (ie_v 1) (ie_fnF (by exact ok__law_more F hcf hx0 hT TB hD) (by rfl) (by exact hr.mono (by decide)) (by rfl) (by exact F.g "_law_more") kb__law_more_0 (by exact tk_cx) (ak_cons (ia_cons (ie_v 0) ia_nil) ik_nil)))) (ie_v 0) ie_int)) is_nil)
  (is_cons (is_unp (vs := allN 4) (ie_b (by exact call_divmodW) bo_divmod (by rfl) (by exact F.f "divmod") (by decide +kernel) (ia_cons (ie_idxB (by rfl) (by exact hu1 hr) (ie_v 0) ie_int) (ia_cons (ie_v 1) ia_nil))) (ig_tup (by rfl) (igs_cons (ig_n 2 nd__law_take) (igs_cons (ig_n 3 nd__law_take) igs_nil)) (len_cons (len_cons len_nil))))
  (is_cons (is_setit (ie_v 2) (ie_v 0) ie_int)
  (is_one (is_ret (ie_v 3))))))
theorem kb__law_take_0 (fd : FuncData) (FD : FunD T.K d__law_take.name d__law_take.qual d__law_take.params d__law_take.body d__law_take.scope (d__law_take.dvs T.K) [] (He.fAd T.K d__law_take.at_) fd) : KBD T fd ["_law_box_here", "_law_count"] 2 [] [(0, 0), (0, 1)] [] :=
  kbd_n FD fun kV doc pm an cdv ct us ws h1 h2 => match us, ws, h1, h2 with | [_, _], [], _, _ => rfl
theorem nd__law_name : (["_law_box_here", "_law_letters", "_law_many", "_law_sign"] : List Str).Nodup := by decide +kernel
theorem sc__law_name : FnScope ["_law_box_here", "_law_letters", "_law_many", "_law_sign"] ["_law_box_here"] d__law_name.scope := ⟨rfl, rfl, rfl, nd__law_name, rfl, by decide +kernel, by decide +kernel⟩
theorem ok__law_name (F : Fx T mg lw) (hcf : T.cf = cf) (hx0 : T.xc = none) (hT : T.tabs = tabsOf T.K lw.tf) (TB : TabsB T.K mg base (lw.tf.map (·.1))) (hD : DictsK T.K w (dcsL.map (·.1))) : OkF T P w mg base 3 d__law_name ["_law_box_here"] m__law_name := by
  obtain ⟨fd, FD⟩ := F.defs 3 d__law_name rfl
  refine OkF.mk' (N := ["_law_box_here", "_law_letters", "_law_many", "_law_sign"]) FD sc__law_name fun cdv A outer s H E hr => ?_
  show ISs T E _ (defBody (top 55)) b__law_name
  exact (is_cons (is_st 1 nd__law_name ie_str)
  (is_cons (is_st 2 nd__law_name (ie_idxB (by rfl) (by exact hu1 hr) (ie_lst (ia_cons ie_int (ia_cons ie_int (ia_cons (ie_op (oi_add (by rfl)) ie_int (ie_fnF (by exact ok__law_take F hcf hx0 hT TB hD) (by rfl) (by exact hr.mono (by decide)) (by rfl) (by exact F.g "_law_take") kb__law_take_0 (by exact tk_cx) (ak_cons (ia_cons (ie_v 0) (ia_cons ie_int ia_nil)) ik_nil))) ia_nil)))) (ie_fnF (by exact ok__law_take F hcf hx0 hT TB hD) (by rfl) (by exact hr.mono (by decide)) (by rfl) (by exact F.g "_law_take") kb__law_take_0 (by exact tk_cx) (ak_cons (ia_cons (ie_v 0) (ia_cons ie_int ia_nil)) ik_nil))))
  (is_one (is_ret (ie_join (by rfl) ie_str (ie_lc (own := [("_law_sign", 3)]) (by rfl) nd__law_name (ii_r1 (by rfl) (by exact F.f "range") (ia_cons (ie_v 2) ia_nil)) (blk_by (by kernel_rfl)) (fun _ _ _ _ _ => (ig_n 3 nd__law_name)) (fun _ _ _ _ _ => its_nil) (fun _ _ _ _ _ => (ie_idxB (by rfl) (by exact hu1 hr) (ie_v 1) (ie_fnF (by exact ok__law_take F hcf hx0 hT TB hD) (by rfl) (by exact hr.mono (by decide)) (by rfl) (by exact F.g "_law_take") kb__law_take_0 (by exact tk_no) (ak_cons (ia_cons (ie_v 0) (ia_cons ie_int ia_nil)) ik_nil))))))))))
theorem kb__law_name_0 (fd : FuncData) (FD : FunD T.K d__law_name.name d__law_name.qual d__law_name.params d__law_name.body d__law_name.scope (d__law_name.dvs T.K) [] (He.fAd T.K d__law_name.at_) fd) : KBD T fd ["_law_box_here"] 1 [] [(0, 0)] [] :=
  kbd_n FD fun kV doc pm an cdv ct us ws h1 h2 => match us, ws, h1, h2 with | [_], [], _, _ => rfl
theorem nd__law_bound : (["_law_box_here", "_law_act", "_law_far"] : List Str).Nodup := by decide +kernel
theorem sc__law_bound : FnScope ["_law_box_here", "_law_act", "_law_far"] ["_law_box_here", "_law_act"] d__law_bound.scope := ⟨rfl, rfl, rfl, nd__law_bound, rfl, by decide +kernel, by decide +kernel⟩
theorem ok__law_bound (F : Fx T mg lw) (hcf : T.cf = cf) (hx0 : T.xc = none) (hT : T.tabs = tabsOf T.K lw.tf) (TB : TabsB T.K mg base (lw.tf.map (·.1))) (hD : DictsK T.K w (dcsL.map (·.1))) : OkF T P w mg base 3 d__law_bound ["_law_box_here", "_law_act"] m__law_bound := by
  obtain ⟨fd, FD⟩ := F.defs 4 d__law_bound rfl
  refine OkF.mk' (N := ["_law_box_here", "_law_act", "_law_far"]) FD sc__law_bound fun cdv A outer s H E hr => ?_
  show ISs T E _ (defBody (top 53)) b__law_bound
  exact (is_cons (is_st 2 nd__law_bound (ie_op (oi_pow) ie_int ie_int))
  (is_cons (is_if (ib_cmp (oi_eqP (by rfl) (by exact hr.rm.units)) (ie_v 1) ie_str (by rfl)) (is_one (is_ret (ie_idxB (by rfl) (by exact hu1 hr) (ie_lst (ia_cons ie_int (ia_cons (ie_op (oi_add (by rfl)) ie_int (ie_fnF (by exact ok__law_take F hcf hx0 hT TB hD) (by rfl) (by exact hr.mono (by decide)) (by rfl) (by exact F.g "_law_take") kb__law_take_0 (by exact tk_cx) (ak_cons (ia_cons (ie_v 0) (ia_cons ie_int ia_nil)) ik_nil))) (ia_cons (ie_v 2) (ia_cons (ie_fnF (by exact ok__law_take F hcf hx0 hT TB hD) (by rfl) (by exact hr.mono (by decide)) (by rfl) (by exact F.g "_law_take") kb__law_take_0 (by exact tk_cx) (ak_cons (ia_cons (ie_v 0) (ia_cons (ie_op (oi_add (by rfl)) (ie_v 2) ie_int) ia_nil)) ik_nil)) ia_nil))))) (ie_fnF (by exact ok__law_take F hcf hx0 hT TB hD) (by rfl) (by exact hr.mono (by decide)) (by rfl) (by exact F.g "_law_take") kb__law_take_0 (by exact tk_cx) (ak_cons (ia_cons (ie_v 0) (ia_cons ie_int ia_nil)) ik_nil))))) is_nil)
  (is_cons (is_if (ib_cmp (oi_eqP (by rfl) (by exact hr.rm.units)) (ie_v 1) ie_str (by rfl)) (is_one (is_ret (ie_idxB (by rfl) (by exact hu1 hr) (ie_lst (ia_cons ie_int (ia_cons ie_int (ia_cons ie_int (ia_cons ie_int (ia_cons (ie_fnF (by exact ok__law_take F hcf hx0 hT TB hD) (by rfl) (by exact hr.mono (by decide)) (by rfl) (by exact F.g "_law_take") kb__law_take_0 (by exact tk_cx) (ak_cons (ia_cons (ie_v 0) (ia_cons ie_int ia_nil)) ik_nil)) ia_nil)))))) (ie_fnF (by exact ok__law_take F hcf hx0 hT TB hD) (by rfl) (by exact hr.mono (by decide)) (by rfl) (by exact F.g "_law_take") kb__law_take_0 (by exact tk_cx) (ak_cons (ia_cons (ie_v 0) (ia_cons ie_int ia_nil)) ik_nil))))) is_nil)
  (is_cons (is_if (ib_cmp (oi_eqP (by rfl) (by exact hr.rm.units)) (ie_v 1) ie_str (by rfl)) (is_one (is_ret (ie_idxB (by rfl) (by exact hu1 hr) (ie_lst (ia_cons ie_int (ia_cons ie_int (ia_cons ie_int (ia_cons ie_int (ia_cons ie_int (ia_cons (ie_fnF (by exact ok__law_take F hcf hx0 hT TB hD) (by rfl) (by exact hr.mono (by decide)) (by rfl) (by exact F.g "_law_take") kb__law_take_0 (by exact tk_cx) (ak_cons (ia_cons (ie_v 0) (ia_cons ie_int ia_nil)) ik_nil)) ia_nil))))))) (ie_fnF (by exact ok__law_take F hcf hx0 hT TB hD) (by rfl) (by exact hr.mono (by decide)) (by rfl) (by exact F.g "_law_take") kb__law_take_0 (by exact tk_cx) (ak_cons (ia_cons (ie_v 0) (ia_cons ie_int ia_nil)) ik_nil))))) is_nil)
  (is_one (is_ret ie_int))))))
theorem kb__law_bound_0 (fd : FuncData) (FD : FunD T.K d__law_bound.name d__law_bound.qual d__law_bound.params d__law_bound.body d__law_bound.scope (d__law_bound.dvs T.K) [] (He.fAd T.K d__law_bound.at_) fd) : KBD T fd ["_law_box_here", "_law_act"] 2 [] [(0, 0), (0, 1)] [] :=
  kbd_n FD fun kV doc pm an cdv ct us ws h1 h2 => match us, ws, h1, h2 with | [_, _], [], _, _ => rfl
theorem nd__law_ruled : (["_law_box_here", "_law_name_here", "_law_act", "_law_ending", "_law_pick", "_law_sort", "_law_city", "_law_since", "_law_until", "_law_above", "_law_given"] : List Str).Nodup := by decide +kernel
theorem sc__law_ruled : FnScope ["_law_box_here", "_law_name_here", "_law_act", "_law_ending", "_law_pick", "_law_sort", "_law_city", "_law_since", "_law_until", "_law_above", "_law_given"] ["_law_box_here", "_law_name_here"] d__law_ruled.scope := ⟨rfl, rfl, rfl, nd__law_ruled, rfl, by decide +kernel, by decide +kernel⟩
theorem ok__law_ruled (F : Fx T mg lw) (hcf : T.cf = cf) (hx0 : T.xc = none) (hT : T.tabs = tabsOf T.K lw.tf) (TB : TabsB T.K mg base (lw.tf.map (·.1))) (hD : DictsK T.K w (dcsL.map (·.1))) : OkF T P w mg base 4 d__law_ruled ["_law_box_here", "_law_name_here"] m__law_ruled := by
  obtain ⟨fd, FD⟩ := F.defs 5 d__law_ruled rfl
  refine OkF.mk' (N := ["_law_box_here", "_law_name_here", "_law_act", "_law_ending", "_law_pick", "_law_sort", "_law_city", "_law_since", "_law_until", "_law_above", "_law_given"]) FD sc__law_ruled fun cdv A outer s H E hr => ?_
  show ISs T E _ (defBody (top 54)) b__law_ruled
  exact (is_cons (is_st 2 nd__law_ruled (ie_idxB (by rfl) (by exact hu1 hr) (ie_lst (ia_cons ie_str (ia_cons ie_str (ia_cons ie_str (ia_cons ie_str (ia_cons ie_str ia_nil)))))) (ie_fnF (by exact ok__law_take F hcf hx0 hT TB hD) (by rfl) (by exact hr.mono (by decide)) (by rfl) (by exact F.g "_law_take") kb__law_take_0 (by exact tk_cx) (ak_cons (ia_cons (ie_v 0) (ia_cons ie_int ia_nil)) ik_nil))))
  (is_cons (is_st 3 nd__law_ruled (ie_fnF (by exact ok__law_bound F hcf hx0 hT TB hD) (by rfl) (by exact hr.mono (by decide)) (by rfl) (by exact F.g "_law_bound") kb__law_bound_0 (by exact tk_cx) (ak_cons (ia_cons (ie_v 0) (ia_cons (ie_v 2) ia_nil)) ik_nil)))
  (is_cons (is_st 4 nd__law_ruled (ie_op (oi_mul) (ie_fnF (by exact ok__law_take F hcf hx0 hT TB hD) (by rfl) (by exact hr.mono (by decide)) (by rfl) (by exact F.g "_law_take") kb__law_take_0 (by exact tk_cx) (ak_cons (ia_cons (ie_v 0) (ia_cons ie_int ia_nil)) ik_nil)) (ie_bt (by exact call_int1) bo_int (by rfl) (by exact F.f "int") (by decide +kernel) (ia_cons (ie_cmp (oi_gt) (ie_fnF (by exact ok__law_take F hcf hx0 hT TB hD) (by rfl) (by exact hr.mono (by decide)) (by rfl) (by exact F.g "_law_take") kb__law_take_0 (by exact tk_cx) (ak_cons (ia_cons (ie_v 0) (ia_cons ie_int ia_nil)) ik_nil)) ie_int (by rfl)) ia_nil))))
  (is_cons (is_st 5 nd__law_ruled (ie_idxB (by rfl) (by exact hu1 hr) (ie_lst (ia_cons ie_non (ia_cons ie_str (ia_cons ie_str (ia_cons ie_str (ia_cons ie_str (ia_cons ie_str ia_nil))))))) (ie_v 4)))
  (is_cons (is_st 6 nd__law_ruled (ie_idxB (by rfl) (by exact hu1 hr) (ie_lst (ia_cons ie_non (ia_cons (ie_fnF (by exact ok__law_take F hcf hx0 hT TB hD) (by rfl) (by exact hr.mono (by decide)) (by rfl) (by exact F.g "_law_take") kb__law_take_0 (by exact tk_cx) (ak_cons (ia_cons (ie_v 0) (ia_cons ie_int ia_nil)) ik_nil)) ia_nil))) (ie_fnF (by exact ok__law_take F hcf hx0 hT TB hD) (by rfl) (by exact hr.mono (by decide)) (by rfl) (by exact F.g "_law_take") kb__law_take_0 (by exact tk_cx) (ak_cons (ia_cons (ie_v 0) (ia_cons ie_int ia_nil)) ik_nil))))
  (is_cons (is_st 7 nd__law_ruled (ie_idxB (by rfl) (by exact hu1 hr) (ie_lst (ia_cons ie_int (ia_cons ie_int (ia_cons (ie_fnF (by exact ok__law_take F hcf hx0 hT TB hD) (by rfl) (by exact hr.mono (by decide)) (by rfl) (by exact F.g "_law_take") kb__law_take_0 (by exact tk_cx) (ak_cons (ia_cons (ie_v 0) (ia_cons ie_int ia_nil)) ik_nil)) ia_nil)))) (ie_fnF (by exact ok__law_take F hcf hx0 hT TB hD) (by rfl) (by exact hr.mono (by decide)) (by rfl) (by exact F.g "_law_take") kb__law_take_0 (by exact tk_cx) (ak_cons (ia_cons (ie_v 0) (ia_cons ie_int ia_nil)) ik_nil))))
  (is_cons (is_st 8 nd__law_ruled (ie_idxB (by rfl) (by exact hu1 hr) (ie_lst (ia_cons ie_int (ia_cons ie_int (ia_cons (ie_op (oi_add (by rfl)) (ie_v 7) (ie_fnF (by exact ok__law_take F hcf hx0 hT TB hD) (by rfl) (by exact hr.mono (by decide)) (by rfl) (by exact F.g "_law_take") kb__law_take_0 (by exact tk_cx) (ak_cons (ia_cons (ie_v 0) (ia_cons (ie_op (oi_sub) ie_int (ie_v 7)) ia_nil)) ik_nil))) ia_nil)))) (ie_fnF (by exact ok__law_take F hcf hx0 hT TB hD) (by rfl) (by exact hr.mono (by decide)) (by rfl) (by exact F.g "_law_take") kb__law_take_0 (by exact tk_cx) (ak_cons (ia_cons (ie_v 0) (ia_cons ie_int ia_nil)) ik_nil))))
  (is_cons (is_st 9 nd__law_ruled (ie_idxB (by rfl) (by exact hu1 hr) (ie_lst (ia_cons ie_int (ia_cons ie_int (ia_cons (ie_fnF (by exact ok__law_take F hcf hx0 hT TB hD) (by rfl) (by exact hr.mono (by decide)) (by rfl) (by exact F.g "_law_take") kb__law_take_0 (by exact tk_cx) (ak_cons (ia_cons (ie_v 0) (ia_cons ie_int ia_nil)) ik_nil)) (ia_cons (ie_op (oi_pow) ie_int ie_int) (ia_cons (ie_fnF (by exact ok__law_take F hcf hx0 hT TB hD) (by rfl) (by exact hr.mono (by decide)) (by rfl) (by exact F.g "_law_take") kb__law_take_0 (by exact tk_cx) (ak_cons (ia_cons (ie_v 0) (ia_cons (ie_op (oi_pow) ie_int ie_int) ia_nil)) ik_nil)) ia_nil)))))) (ie_fnF (by exact ok__law_take F hcf hx0 hT TB hD) (by rfl) (by exact hr.mono (by decide)) (by rfl) (by exact F.g "_law_take") kb__law_take_0 (by exact tk_cx) (ak_cons (ia_cons (ie_v 0) (ia_cons ie_int ia_nil)) ik_nil))))
  (is_cons (is_st 10 nd__law_ruled (ie_idxB (by rfl) (by exact hu1 hr) (ie_lst (ia_cons ie_non (ia_cons ie_non (ia_cons ie_bl (ia_cons ie_bl ia_nil))))) (ie_fnF (by exact ok__law_take F hcf hx0 hT TB hD) (by rfl) (by exact hr.mono (by decide)) (by rfl) (by exact F.g "_law_take") kb__law_take_0 (by exact tk_cx) (ak_cons (ia_cons (ie_v 0) (ia_cons ie_int ia_nil)) ik_nil))))
  (is_one (is_ret (ie_tup (ia_cons (ie_v 1) (ia_cons (ie_v 2) (ia_cons (ie_v 3) (ia_cons (ie_v 5) (ia_cons (ie_v 6) (ia_cons (ie_v 7) (ia_cons (ie_v 8) (ia_cons (ie_v 9) (ia_cons (ie_v 10) ia_nil)))))))))))))))))))))
theorem kb__law_ruled_0 (fd : FuncData) (FD : FunD T.K d__law_ruled.name d__law_ruled.qual d__law_ruled.params d__law_ruled.body d__law_ruled.scope (d__law_ruled.dvs T.K) [] (He.fAd T.K d__law_ruled.at_) fd) : KBD T fd ["_law_box_here", "_law_name_here"] 2 [] [(0, 0), (0, 1)] [] :=
  kbd_n FD fun kV doc pm an cdv ct us ws h1 h2 => match us, ws, h1, h2 with | [_, _], [], _, _ => rfl
theorem nd__law_rules : (["_law_box_here", "_law_limit", "_law_found", "_law_turn", "_law_name_here", "_law_row"] : List Str).Nodup := by decide +kernel
theorem sc__law_rules : FnScope ["_law_box_here", "_law_limit", "_law_found", "_law_turn", "_law_name_here", "_law_row"] ["_law_box_here", "_law_limit"] d__law_rules.scope := ⟨rfl, rfl, rfl, nd__law_rules, rfl, by decide +kernel, by decide +kernel⟩
theorem ok__law_rules (F : Fx T mg lw) (hcf : T.cf = cf) (hx0 : T.xc = none) (hT : T.tabs = tabsOf T.K lw.tf) (TB : TabsB T.K mg base (lw.tf.map (·.1))) (hD : DictsK T.K w (dcsL.map (·.1))) : OkF T P w mg base 5 d__law_rules ["_law_box_here", "_law_limit"] m__law_rules := by
  obtain ⟨fd, FD⟩ := F.defs 6 d__law_rules rfl
  refine OkF.mk' (N := ["_law_box_here", "_law_limit", "_law_found", "_law_turn", "_law_name_here", "_law_row"]) FD sc__law_rules fun cdv A outer s H E hr => ?_
  show ISs T E _ (defBody (top 59)) b__law_rules
  exact (is_cons (is_st 2 nd__law_rules (ie_lstM ia_nil))
  (is_cons (is_for (vs := allN 6) (by exact passes_of rfl) (by rfl) (ii_r1 (by rfl) (by exact F.f "range") (ia_cons (ie_fnF (by exact ok__law_take F hcf hx0 hT TB hD) (by rfl) (by exact hr.mono (by decide)) (by rfl) (by exact F.g "_law_take") kb__law_take_0 (by exact tk_cx) (ak_cons (ia_cons (ie_v 0) (ia_cons (ie_op (oi_add (by rfl)) (ie_v 1) ie_int) ia_nil)) ik_nil)) ia_nil)) (ig_n 3 nd__law_rules) (is_cons (is_st 4 nd__law_rules (ie_fnF (by exact ok__law_name F hcf hx0 hT TB hD) (by rfl) (by exact hr.mono (by decide)) (by rfl) (by exact F.g "_law_name") kb__law_name_0 (by exact tk_cx) (ak_cons (ia_cons (ie_v 0) ia_nil) ik_nil)))
  (is_one (is_if (ib_cmp (oi_nin (by rfl) (by exact hr.rm.units)) (ie_v 4) (ie_lcR (own := [("_law_row", 5)]) (by rfl) (by repeat (first | exact pb_yes | exact px_var _ | exact px_c _ | apply px_idxB | apply px_attr | apply px_op | apply pb_val)) (by repeat (first | exact pb_yes | exact px_var _ | exact px_c _ | apply px_idxB | apply px_attr | apply px_op | apply pb_val)) (by rfl) nd__law_rules (ie_v 2) (blk_by (by kernel_rfl)) (fun _ _ _ _ _ => (ig_n 5 nd__law_rules)) (fun _ _ _ _ _ => its_nil) (fun _ _ _ _ _ => (ie_idxB (by rfl) (by exact hu1 hr) (ie_v 5) ie_int))) (by rfl)) (is_one (is_expr (ie_app (by rfl) (ie_v 2) (ie_fnF (by exact ok__law_ruled F hcf hx0 hT TB hD) (by rfl) (by exact hr.mono (by decide)) (by rfl) (by exact F.g "_law_ruled") kb__law_ruled_0 (by exact tk_cx) (ak_cons (ia_cons (ie_v 0) (ia_cons (ie_v 4) ia_nil)) ik_nil))))) is_nil))))
  (is_one (is_ret (ie_frzL (ie_v 2))))))
theorem kb__law_rules_0 (fd : FuncData) (FD : FunD T.K d__law_rules.name d__law_rules.qual d__law_rules.params d__law_rules.body d__law_rules.scope (d__law_rules.dvs T.K) [] (He.fAd T.K d__law_rules.at_) fd) : KBD T fd ["_law_box_here", "_law_limit"] 2 [] [(0, 0), (0, 1)] [] :=
  kbd_n FD fun kV doc pm an cdv ct us ws h1 h2 => match us, ws, h1, h2 with | [_, _], [], _, _ => rfl
theorem nd_Rulebook_init : (["self", "rules", "some", "one"] : List Str).Nodup := by decide +kernel
theorem sc_Rulebook_init : FnScope ["self", "rules", "some", "one"] ["self", "rules"] d_Rulebook_init.scope := ⟨rfl, rfl, rfl, nd_Rulebook_init, rfl, by decide +kernel, by decide +kernel⟩
theorem ok_Rulebook_init (F : Fx T mg lw) (hcf : T.cf = cf) (hx0 : T.xc = none) (hT : T.tabs = tabsOf T.K lw.tf) (TB : TabsB T.K mg base (lw.tf.map (·.1))) (hD : DictsK T.K w (dcsL.map (·.1))) : OkF T P w mg base 1 d_Rulebook_init ["self", "rules"] m_Rulebook_init := by
  obtain ⟨fd, FD⟩ := F.defs 7 d_Rulebook_init rfl
  refine OkF.mk' (N := ["self", "rules", "some", "one"]) FD sc_Rulebook_init fun cdv A outer s H E hr => ?_
  show ISs T E _ (defBody (meth 45 0)) b_Rulebook_init
  exact (is_cons (is_st 2 nd_Rulebook_init (ie_if (ib_cmp (oi_is) (ie_v 1) ie_non (by rfl)) (ie_lst ia_nil) (ie_v 1)))
  (is_cons (is_if (iw_pt (iw_or (ib_not (ib_val (ie_isi (tys := tysL) (Tt := .b "list") (by rfl) (by rfl) (by exact F.f "isinstance") (ie_v 2) (isTy_b (by rfl) (by exact F.f "list") (by decide +kernel)) (by exact F.is' tysL) (by exact F.ki tysL (.b "list"))))) (iw_or (ib_cmp (oi_gt) (ie_b (by exact call_len) bo_lenA (by rfl) (by exact F.f "len") (by decide +kernel) (ia_cons (ie_v 2) ia_nil)) (ie_gint (by rfl) (by exact F.i "MOST_RULES" 8)) (by rfl)) (iw_or1 (ib_not (ib_val (ie_b (by exact cr_all rfl) bo_all (by rfl) (by exact F.f "all") (by decide +kernel) (ia_cons (ie_lc (own := [("one", 3)]) (by rfl) nd_Rulebook_init (ii_any (by rfl) (ie_v 2)) (blk_by (by kernel_rfl)) (fun _ _ _ _ _ => (ig_n 3 nd_Rulebook_init)) (fun _ _ _ _ _ => its_nil) (fun _ _ _ _ _ => (ie_isi (tys := tysL) (Tt := .o "Rule") (by rfl) (by rfl) (by exact F.f "isinstance") (ie_v 3) (isTy_o (by rfl) (by exact F.g "Rule")) (by exact F.is' tysL) (by exact F.ki tysL (.o "Rule"))))) ia_nil)))))))) (is_one is_bad) is_nil)
  (is_cons (is_if (ib_cmp (oi_neP (by rfl) (by exact hr.rm.units)) (ie_lenSet (by rfl) (by rfl) (by rfl) (by exact F.f "len") (by rfl) (by exact F.f "set") (ie_lc (own := [("one", 3)]) (by rfl) nd_Rulebook_init (ii_any (by rfl) (ie_v 2)) (blk_by (by kernel_rfl)) (fun _ _ _ _ _ => (ig_n 3 nd_Rulebook_init)) (fun _ _ _ _ _ => its_nil) (fun _ _ _ _ _ => (ie_attr (by exact hcf) (by rfl) (by exact F.at' ["Rule"] "name") (ie_v 3))))) (ie_b (by exact call_len) bo_lenA (by rfl) (by exact F.f "len") (by decide +kernel) (ia_cons (ie_v 2) ia_nil)) (by rfl)) (is_one is_bad) is_nil)
  (is_one (is_setattr (by rfl) (by exact F.at' ["Rulebook"] "own_rules") (ie_v 0) (ie_bt (by exact call_list_of) bo_list (by rfl) (by exact F.f "list") (by decide +kernel) (ia_cons (ie_v 2) ia_nil)))))))
theorem kb_Rulebook_init_0 (fd : FuncData) (FD : FunD T.K d_Rulebook_init.name d_Rulebook_init.qual d_Rulebook_init.params d_Rulebook_init.body d_Rulebook_init.scope (d_Rulebook_init.dvs T.K) [] (He.fAd T.K d_Rulebook_init.at_) fd) : KBD T fd ["self", "rules"] 2 [] [(0, 0), (0, 1)] [.non] :=
  kbd_d (l := [.non]) FD rfl (by decide) fun Ta kV doc pm an cdv ct us its ws h1 h2 h3 => match us, its, ws, h1, h2, h3 with | [_, _], [_], [], _, _, _ => ⟨_, rfl, rfl⟩
theorem kb_Rulebook_init_1 (fd : FuncData) (FD : FunD T.K d_Rulebook_init.name d_Rulebook_init.qual d_Rulebook_init.params d_Rulebook_init.body d_Rulebook_init.scope (d_Rulebook_init.dvs T.K) [] (He.fAd T.K d_Rulebook_init.at_) fd) : KBD T fd ["self", "rules"] 1 [] [(0, 0), (1, 0)] [.non] :=
  kbd_d (l := [.non]) FD rfl (by decide) fun Ta kV doc pm an cdv ct us its ws h1 h2 h3 => match us, its, ws, h1, h2, h3 with | [_], [_], [], _, _, _ => ⟨_, rfl, rfl⟩
theorem nd_is_name : (["thing", "sign"] : List Str).Nodup := by decide +kernel
theorem sc_is_name : FnScope ["thing", "sign"] ["thing"] d_is_name.scope := ⟨rfl, rfl, rfl, nd_is_name, rfl, by decide +kernel, by decide +kernel⟩
theorem ok_is_name (F : Fx T mg lw) (hcf : T.cf = cf) (hx0 : T.xc = none) (hT : T.tabs = tabsOf T.K lw.tf) (TB : TabsB T.K mg base (lw.tf.map (·.1))) (hD : DictsK T.K w (dcsL.map (·.1))) : OkF T P w mg base 1 d_is_name ["thing"] m_is_name := by
  obtain ⟨fd, FD⟩ := F.defs 8 d_is_name rfl
  refine OkF.mk' (N := ["thing", "sign"]) FD sc_is_name fun cdv A outer s H E hr => ?_
  show ISs T E _ (defBody (top 33)) b_is_name
  exact (is_cons (is_if (iw_pt (iw_or (ib_not (ib_val (ie_isi (tys := tysL) (Tt := .b "str") (by rfl) (by rfl) (by exact F.f "isinstance") (ie_v 0) (isTy_b (by rfl) (by exact F.f "str") (by decide +kernel)) (by exact F.is' tysL) (by exact F.ki tysL (.b "str"))))) (iw_or1 (ib_not (ib_chain (oi_le) (oi_le) ie_int (ie_b (by exact call_len) bo_lenA (by rfl) (by exact F.f "len") (by decide +kernel) (ia_cons (ie_v 0) ia_nil)) (ie_gint (by rfl) (by exact F.i "MOST_LETTERS" 8))))))) (is_one (is_ret ie_bl)) is_nil)
  (is_one (is_ret (ie_b (by exact cr_all rfl) bo_all (by rfl) (by exact F.f "all") (by decide +kernel) (ia_cons (ie_lc (own := [("sign", 1)]) (by rfl) nd_is_name (ii_any (by rfl) (ie_v 0)) (blk_by (by kernel_rfl)) (fun _ _ _ _ _ => (ig_n 1 nd_is_name)) (fun _ _ _ _ _ => its_nil) (fun _ _ _ _ _ => (ie_cmp (oi_inS) (ie_v 1) (ie_gstr (by rfl) (by exact F.s "LETTERS" "abcdefghijklmnopqrstuvwxyz")) (by rfl)))) ia_nil)))))
theorem kb_is_name_0 (fd : FuncData) (FD : FunD T.K d_is_name.name d_is_name.qual d_is_name.params d_is_name.body d_is_name.scope (d_is_name.dvs T.K) [] (He.fAd T.K d_is_name.at_) fd) : KBD T fd ["thing"] 1 [] [(0, 0)] [] :=
  kbd_n FD fun kV doc pm an cdv ct us ws h1 h2 => match us, ws, h1, h2 with | [_], [], _, _ => rfl
theorem nd_is_deed : (["thing"] : List Str).Nodup := by decide +kernel
theorem sc_is_deed : FnScope ["thing"] ["thing"] d_is_deed.scope := ⟨rfl, rfl, rfl, nd_is_deed, rfl, by decide +kernel, by decide +kernel⟩
theorem ok_is_deed (F : Fx T mg lw) (hcf : T.cf = cf) (hx0 : T.xc = none) (hT : T.tabs = tabsOf T.K lw.tf) (TB : TabsB T.K mg base (lw.tf.map (·.1))) (hD : DictsK T.K w (dcsL.map (·.1))) : OkF T P w mg base 1 d_is_deed ["thing"] m_is_deed := by
  obtain ⟨fd, FD⟩ := F.defs 9 d_is_deed rfl
  refine OkF.mk' (N := ["thing"]) FD sc_is_deed fun cdv A outer s H E hr => ?_
  show ISs T E _ (defBody (top 34)) b_is_deed
  exact (is_one (is_ret (ie_and (ie_isi (tys := tysL) (Tt := .b "str") (by rfl) (by rfl) (by exact F.f "isinstance") (ie_v 0) (isTy_b (by rfl) (by exact F.f "str") (by decide +kernel)) (by exact F.is' tysL) (by exact F.ki tysL (.b "str"))) (ie_one (ie_cmp (oi_inK (x := "BOUNDS") (kvs := kv_BOUNDS) (by rfl) (by exact hD "BOUNDS" (by decide)) (by exact F.b 0)) (ie_v 0) (ie_gfn (x := "BOUNDS") (by rfl) (by exact F.g "BOUNDS")) (by rfl))))))
theorem kb_is_deed_0 (fd : FuncData) (FD : FunD T.K d_is_deed.name d_is_deed.qual d_is_deed.params d_is_deed.body d_is_deed.scope (d_is_deed.dvs T.K) [] (He.fAd T.K d_is_deed.at_) fd) : KBD T fd ["thing"] 1 [] [(0, 0)] [] :=
  kbd_n FD fun kV doc pm an cdv ct us ws h1 h2 => match us, ws, h1, h2 with | [_], [], _, _ => rfl
theorem nd_is_whole : (["thing", "low", "high"] : List Str).Nodup := by decide +kernel
theorem sc_is_whole : FnScope ["thing", "low", "high"] ["thing", "low", "high"] d_is_whole.scope := ⟨rfl, rfl, rfl, nd_is_whole, rfl, by decide +kernel, by decide +kernel⟩
theorem ok_is_whole (F : Fx T mg lw) (hcf : T.cf = cf) (hx0 : T.xc = none) (hT : T.tabs = tabsOf T.K lw.tf) (TB : TabsB T.K mg base (lw.tf.map (·.1))) (hD : DictsK T.K w (dcsL.map (·.1))) : OkF T P w mg base 1 d_is_whole ["thing", "low", "high"] m_is_whole := by
  obtain ⟨fd, FD⟩ := F.defs 10 d_is_whole rfl
  refine OkF.mk' (N := ["thing", "low", "high"]) FD sc_is_whole fun cdv A outer s H E hr => ?_
  show ISs T E _ (defBody (top 24)) b_is_whole
  exact (is_one (is_ret (ie_and (ie_isi (tys := tysL) (Tt := .b "int") (by rfl) (by rfl) (by exact F.f "isinstance") (ie_v 0) (isTy_b (by rfl) (by exact F.f "int") (by decide +kernel)) (by exact F.is' tysL) (by exact F.ki tysL (.b "int"))) (ie_and (ie_not (ie_isi (tys := tysL) (Tt := .b "bool") (by rfl) (by rfl) (by exact F.f "isinstance") (ie_v 0) (isTy_b (by rfl) (by exact F.f "bool") (by decide +kernel)) (by exact F.is' tysL) (by exact F.ki tysL (.b "bool")))) (ie_one (ie_chain (oi_le) (oi_le) (ie_v 1) (ie_v 0) (ie_v 2)))))))
theorem kb_is_whole_0 (fd : FuncData) (FD : FunD T.K d_is_whole.name d_is_whole.qual d_is_whole.params d_is_whole.body d_is_whole.scope (d_is_whole.dvs T.K) [] (He.fAd T.K d_is_whole.at_) fd) : KBD T fd ["thing", "low", "high"] 3 [] [(0, 0), (0, 1), (0, 2)] [] :=
  kbd_n FD fun kV doc pm an cdv ct us ws h1 h2 => match us, ws, h1, h2 with | [_, _, _], [], _, _ => rfl
theorem nd_is_kind : (["thing"] : List Str).Nodup := by decide +kernel
theorem sc_is_kind : FnScope ["thing"] ["thing"] d_is_kind.scope := ⟨rfl, rfl, rfl, nd_is_kind, rfl, by decide +kernel, by decide +kernel⟩
theorem ok_is_kind (F : Fx T mg lw) (hcf : T.cf = cf) (hx0 : T.xc = none) (hT : T.tabs = tabsOf T.K lw.tf) (TB : TabsB T.K mg base (lw.tf.map (·.1))) (hD : DictsK T.K w (dcsL.map (·.1))) : OkF T P w mg base 1 d_is_kind ["thing"] m_is_kind := by
  obtain ⟨fd, FD⟩ := F.defs 11 d_is_kind rfl
  refine OkF.mk' (N := ["thing"]) FD sc_is_kind fun cdv A outer s H E hr => ?_
  show ISs T E _ (defBody (top 25)) b_is_kind
  exact (is_one (is_ret (ie_and (ie_isi (tys := tysL) (Tt := .b "str") (by rfl) (by rfl) (by exact F.f "isinstance") (ie_v 0) (isTy_b (by rfl) (by exact F.f "str") (by decide +kernel)) (by exact F.is' tysL) (by exact F.ki tysL (.b "str"))) (ie_one (ie_cmp (oi_in (by rfl) (by exact hr.rm.units)) (ie_v 0) (ie_gtup (l := [.str "bed", .str "fee", .str "meal", .str "ride", .str "sundry"]) (by rfl) (by exact F.g "KINDS") (by exact F.tp 0) rfl) (by rfl))))))
theorem kb_is_kind_0 (fd : FuncData) (FD : FunD T.K d_is_kind.name d_is_kind.qual d_is_kind.params d_is_kind.body d_is_kind.scope (d_is_kind.dvs T.K) [] (He.fAd T.K d_is_kind.at_) fd) : KBD T fd ["thing"] 1 [] [(0, 0)] [] :=
  kbd_n FD fun kV doc pm an cdv ct us ws h1 h2 => match us, ws, h1, h2 with | [_], [], _, _ => rfl
theorem nd_wrong_part : (["name", "deed", "bound", "kind", "town", "first", "last", "over", "paper", "looks", "wrong", "part", "right"] : List Str).Nodup := by decide +kernel
theorem sc_wrong_part : FnScope ["name", "deed", "bound", "kind", "town", "first", "last", "over", "paper", "looks", "wrong", "part", "right"] ["name", "deed", "bound", "kind", "town", "first", "last", "over", "paper"] d_wrong_part.scope := ⟨rfl, rfl, rfl, nd_wrong_part, rfl, by decide +kernel, by decide +kernel⟩
theorem ok_wrong_part (F : Fx T mg lw) (hcf : T.cf = cf) (hx0 : T.xc = none) (hT : T.tabs = tabsOf T.K lw.tf) (TB : TabsB T.K mg base (lw.tf.map (·.1))) (hD : DictsK T.K w (dcsL.map (·.1))) : OkF T P w mg base 2 d_wrong_part ["name", "deed", "bound", "kind", "town", "first", "last", "over", "paper"] m_wrong_part := by
  obtain ⟨fd, FD⟩ := F.defs 12 d_wrong_part rfl
  refine OkF.mk' (N := ["name", "deed", "bound", "kind", "town", "first", "last", "over", "paper", "looks", "wrong", "part", "right"]) FD sc_wrong_part fun cdv A outer s H E hr => ?_
  show ISs T E _ (defBody (top 38)) b_wrong_part
  exact (is_cons (is_st 9 nd_wrong_part (ie_lstM (ia_cons (ie_tup (ia_cons ie_str (ia_cons (ie_fnF (by exact ok_is_name F hcf hx0 hT TB hD) (by rfl) (by exact hr.mono (by decide)) (by rfl) (by exact F.g "is_name") kb_is_name_0 (by exact tk_cx) (ak_cons (ia_cons (ie_v 0) ia_nil) ik_nil)) ia_nil))) (ia_cons (ie_tup (ia_cons ie_str (ia_cons (ie_fnF (by exact ok_is_deed F hcf hx0 hT TB hD) (by rfl) (by exact hr.mono (by decide)) (by rfl) (by exact F.g "is_deed") kb_is_deed_0 (by exact tk_cx) (ak_cons (ia_cons (ie_v 1) ia_nil) ik_nil)) ia_nil))) ia_nil))))
  (is_cons (is_expr (ie_app (by rfl) (ie_v 9) (ie_tup (ia_cons ie_str (ia_cons (ie_and (ie_fnF (by exact ok_is_deed F hcf hx0 hT TB hD) (by rfl) (by exact hr.mono (by decide)) (by rfl) (by exact F.g "is_deed") kb_is_deed_0 (by exact tk_cx) (ak_cons (ia_cons (ie_v 1) ia_nil) ik_nil)) (ie_one (ie_fnF (by exact ok_is_whole F hcf hx0 hT TB hD) (by rfl) (by exact hr.mono (by decide)) (by rfl) (by exact F.g "is_whole") kb_is_whole_0 (by exact tk_cx) (ak_cons (ia_cons (ie_v 2) (ia_cons ie_int (ia_cons (ie_itK (x := "BOUNDS") (kvs := kv_BOUNDS) (by rfl) (by exact hD "BOUNDS" (by decide)) (by exact F.b 0) (by decide) (ie_gfn (x := "BOUNDS") (by rfl) (by exact F.g "BOUNDS")) (ie_v 1)) ia_nil))) ik_nil)))) ia_nil)))))
  (is_cons (is_st 9 nd_wrong_part (ie_addM (ie_v 9) (ie_lst (ia_cons (ie_tup (ia_cons ie_str (ia_cons (ie_or (ie_cmp (oi_is) (ie_v 3) ie_non (by rfl)) (ie_one (ie_fnF (by exact ok_is_kind F hcf hx0 hT TB hD) (by rfl) (by exact hr.mono (by decide)) (by rfl) (by exact F.g "is_kind") kb_is_kind_0 (by exact tk_cx) (ak_cons (ia_cons (ie_v 3) ia_nil) ik_nil)))) ia_nil))) (ia_cons (ie_tup (ia_cons ie_str (ia_cons (ie_or (ie_cmp (oi_is) (ie_v 4) ie_non (by rfl)) (ie_one (ie_fnF (by exact ok_is_whole F hcf hx0 hT TB hD) (by rfl) (by exact hr.mono (by decide)) (by rfl) (by exact F.g "is_whole") kb_is_whole_0 (by exact tk_cx) (ak_cons (ia_cons (ie_v 4) (ia_cons ie_int (ia_cons (ie_gint (by rfl) (by exact F.i "LAST_TOWN" 3)) ia_nil))) ik_nil)))) ia_nil))) ia_nil)))))
  (is_cons (is_expr (ie_app (by rfl) (ie_v 9) (ie_tup (ia_cons ie_str (ia_cons (ie_fnF (by exact ok_is_whole F hcf hx0 hT TB hD) (by rfl) (by exact hr.mono (by decide)) (by rfl) (by exact F.g "is_whole") kb_is_whole_0 (by exact tk_cx) (ak_cons (ia_cons (ie_v 5) (ia_cons ie_int (ia_cons (ie_gint (by rfl) (by exact F.i "LAST_DAY" 59)) ia_nil))) ik_nil)) ia_nil)))))
  (is_cons (is_expr (ie_app (by rfl) (ie_v 9) (ie_tup (ia_cons ie_str (ia_cons (ie_and (ie_fnF (by exact ok_is_whole F hcf hx0 hT TB hD) (by rfl) (by exact hr.mono (by decide)) (by rfl) (by exact F.g "is_whole") kb_is_whole_0 (by exact tk_cx) (ak_cons (ia_cons (ie_v 5) (ia_cons ie_int (ia_cons (ie_gint (by rfl) (by exact F.i "LAST_DAY" 59)) ia_nil))) ik_nil)) (ie_one (ie_fnF (by exact ok_is_whole F hcf hx0 hT TB hD) (by rfl) (by exact hr.mono (by decide)) (by rfl) (by exact F.g "is_whole") kb_is_whole_0 (by exact tk_cx) (ak_cons (ia_cons (ie_v 6) (ia_cons (ie_v 5) (ia_cons (ie_gint (by rfl) (by exact F.i "LAST_DAY" 59)) ia_nil))) ik_nil)))) ia_nil)))))
  (is_cons (is_st 9 nd_wrong_part (ie_addM (ie_v 9) (ie_lst (ia_cons (ie_tup (ia_cons ie_str (ia_cons (ie_fnF (by exact ok_is_whole F hcf hx0 hT TB hD) (by rfl) (by exact hr.mono (by decide)) (by rfl) (by exact F.g "is_whole") kb_is_whole_0 (by exact tk_cx) (ak_cons (ia_cons (ie_v 7) (ia_cons ie_int (ia_cons (ie_gint (by rfl) (by exact F.i "MOST_SHARE" 1000000000000)) ia_nil))) ik_nil)) ia_nil))) (ia_cons (ie_tup (ia_cons ie_str (ia_cons (ie_or (ie_cmp (oi_is) (ie_v 8) ie_non (by rfl)) (ie_one (ie_isi (tys := tysL) (Tt := .b "bool") (by rfl) (by rfl) (by exact F.f "isinstance") (ie_v 8) (isTy_b (by rfl) (by exact F.f "bool") (by decide +kernel)) (by exact F.is' tysL) (by exact F.ki tysL (.b "bool"))))) ia_nil))) ia_nil)))))
  (is_cons (by first | exact (is_setLc (own := [("part", 11), ("right", 12)]) (by rfl) nd_wrong_part (by rfl) (by rfl) (by rfl) (ii_any (by rfl) (ie_frzL (ie_v 9))) (blk_by (by kernel_rfl)) (fun _ _ _ _ _ => (ig_tup (by rfl) (igs_cons (ig_n 11 nd_wrong_part) (igs_cons (ig_n 12 nd_wrong_part) igs_nil)) (len_cons (len_cons len_nil)))) (fun _ _ _ _ _ => (its_one (ib_not (ib_of (by rfl) (ie_v 12))))) (fun _ _ _ _ _ => (ie_v 11))) | exact (is_st 10 nd_wrong_part (ie_lc (own := [("part", 11), ("right", 12)]) (by rfl) nd_wrong_part (ii_any (by rfl) (ie_frzL (ie_v 9))) (blk_by (by kernel_rfl)) (fun _ _ _ _ _ => (ig_tup (by rfl) (igs_cons (ig_n 11 nd_wrong_part) (igs_cons (ig_n 12 nd_wrong_part) igs_nil)) (len_cons (len_cons len_nil)))) (fun _ _ _ _ _ => (its_one (ib_not (ib_of (by rfl) (ie_v 12))))) (fun _ _ _ _ _ => (ie_v 11)))))
  (is_one (is_ret (ie_if (ib_cmp (oi_neP (by rfl) (by exact hr.rm.units)) (ie_v 10) (ie_lst ia_nil) (by rfl)) (ie_idxB (by rfl) (by exact hu1 hr) (ie_v 10) ie_int) ie_non))))))))))
theorem kb_wrong_part_0 (fd : FuncData) (FD : FunD T.K d_wrong_part.name d_wrong_part.qual d_wrong_part.params d_wrong_part.body d_wrong_part.scope (d_wrong_part.dvs T.K) [] (He.fAd T.K d_wrong_part.at_) fd) : KBD T fd ["name", "deed", "bound", "kind", "town", "first", "last", "over", "paper"] 9 [] [(0, 0), (0, 1), (0, 2), (0, 3), (0, 4), (0, 5), (0, 6), (0, 7), (0, 8)] [] :=
  kbd_n FD fun kV doc pm an cdv ct us ws h1 h2 => match us, ws, h1, h2 with | [_, _, _, _, _, _, _, _, _], [], _, _ => rfl
theorem nd_Rule_init : (["self", "name", "deed", "bound", "kind", "town", "first", "last", "over", "paper", "wrong"] : List Str).Nodup := by decide +kernel
theorem sc_Rule_init : FnScope ["self", "name", "deed", "bound", "kind", "town", "first", "last", "over", "paper", "wrong"] ["self", "name", "deed", "bound", "kind", "town", "first", "last", "over", "paper"] d_Rule_init.scope := ⟨rfl, rfl, rfl, nd_Rule_init, rfl, by decide +kernel, by decide +kernel⟩
theorem ok_Rule_init (F : Fx T mg lw) (hcf : T.cf = cf) (hx0 : T.xc = none) (hT : T.tabs = tabsOf T.K lw.tf) (TB : TabsB T.K mg base (lw.tf.map (·.1))) (hD : DictsK T.K w (dcsL.map (·.1))) : OkF T P w mg base 3 d_Rule_init ["self", "name", "deed", "bound", "kind", "town", "first", "last", "over", "paper"] m_Rule_init := by
  obtain ⟨fd, FD⟩ := F.defs 13 d_Rule_init rfl
  refine OkF.mk' (N := ["self", "name", "deed", "bound", "kind", "town", "first", "last", "over", "paper", "wrong"]) FD sc_Rule_init fun cdv A outer s H E hr => ?_
  show ISs T E _ (defBody (meth 39 0)) b_Rule_init
  exact (is_cons (is_st 10 nd_Rule_init (ie_fnF (by exact ok_wrong_part F hcf hx0 hT TB hD) (by rfl) (by exact hr.mono (by decide)) (by rfl) (by exact F.g "wrong_part") kb_wrong_part_0 (by exact tk_cx) (ak_cons (ia_cons (ie_v 1) (ia_cons (ie_v 2) (ia_cons (ie_v 3) (ia_cons (ie_v 4) (ia_cons (ie_v 5) (ia_cons (ie_v 6) (ia_cons (ie_v 7) (ia_cons (ie_v 8) (ia_cons (ie_v 9) ia_nil))))))))) ik_nil)))
  (is_cons (is_if (ib_cmp (oi_isnot) (ie_v 10) ie_non (by rfl)) (is_one is_bad) is_nil)
  (is_cons (is_setattr (by rfl) (by exact F.at' ["Rule"] "name") (ie_v 0) (ie_v 1))
  (is_cons (is_setattr (by rfl) (by exact F.at' ["Rule"] "deed") (ie_v 0) (ie_v 2))
  (is_cons (is_setattr (by rfl) (by exact F.at' ["Rule"] "bound") (ie_v 0) (ie_v 3))
  (is_cons (is_setattr (by rfl) (by exact F.at' ["Rule"] "kind") (ie_v 0) (ie_v 4))
  (is_cons (is_setattr (by rfl) (by exact F.at' ["Rule"] "town") (ie_v 0) (ie_v 5))
  (is_cons (is_setattr (by rfl) (by exact F.at' ["Rule"] "first") (ie_v 0) (ie_v 6))
  (is_cons (is_setattr (by rfl) (by exact F.at' ["Rule"] "last") (ie_v 0) (ie_v 7))
  (is_cons (is_setattr (by rfl) (by exact F.at' ["Rule"] "over") (ie_v 0) (ie_v 8))
  (is_one (is_setattr (by rfl) (by exact F.at' ["Rule"] "paper") (ie_v 0) (ie_v 9)))))))))))))
theorem kb_Rule_init_0 (fd : FuncData) (FD : FunD T.K d_Rule_init.name d_Rule_init.qual d_Rule_init.params d_Rule_init.body d_Rule_init.scope (d_Rule_init.dvs T.K) [] (He.fAd T.K d_Rule_init.at_) fd) : KBD T fd ["self", "name", "deed", "bound", "kind", "town", "first", "last", "over", "paper"] 2 ["deed", "bound", "kind", "town", "first", "last", "over", "paper"] [(0, 0), (0, 1), (2, 0), (2, 1), (2, 2), (2, 3), (2, 4), (2, 5), (2, 6), (2, 7)] [.str "let", .int 0, .non, .non, .int 0, .int 59, .int 0, .non] :=
  kbd_d (l := [.str "let", .int 0, .non, .non, .int 0, .int 59, .int 0, .non]) FD rfl (by decide) fun Ta kV doc pm an cdv ct us its ws h1 h2 h3 => match us, its, ws, h1, h2, h3 with | [_, _], [_, _, _, _, _, _, _, _], [_, _, _, _, _, _, _, _], _, _, _ => ⟨_, rfl, rfl⟩
theorem nd__law_made : (["_law_row"] : List Str).Nodup := by decide +kernel
theorem sc__law_made : FnScope ["_law_row"] ["_law_row"] d__law_made.scope := ⟨rfl, rfl, rfl, nd__law_made, rfl, by decide +kernel, by decide +kernel⟩
theorem ok__law_made (F : Fx T mg lw) (hcf : T.cf = cf) (hx0 : T.xc = none) (hT : T.tabs = tabsOf T.K lw.tf) (TB : TabsB T.K mg base (lw.tf.map (·.1))) (hD : DictsK T.K w (dcsL.map (·.1))) : OkF T P w mg base 5 d__law_made ["_law_row"] m__law_made := by
  obtain ⟨fd, FD⟩ := F.defs 14 d__law_made rfl
  refine OkF.mk' (N := ["_law_row"]) FD sc__law_made fun cdv A outer s H E hr => ?_
  show ISs T E _ (defBody (top 56)) b__law_made
  exact (is_one (is_ret (ie_frz (by exact hcf) (ie_newF (cn := "Rule") (by exact ok_Rule_init F hcf hx0 hT TB hD) (by exact F.mk' "Rule") (by rfl) (by exact hr.mono (by decide)) (by rfl) (by exact F.g "Rule") kb_Rule_init_0 (by exact tk_cx) (ak_cons (ia_cons (ie_idxB (by rfl) (by exact hu1 hr) (ie_v 0) ie_int) ia_nil) (ik_cons (ie_idxB (by rfl) (by exact hu1 hr) (ie_v 0) ie_int) (ik_cons (ie_idxB (by rfl) (by exact hu1 hr) (ie_v 0) ie_int) (ik_cons (ie_idxB (by rfl) (by exact hu1 hr) (ie_v 0) ie_int) (ik_cons (ie_idxB (by rfl) (by exact hu1 hr) (ie_v 0) ie_int) (ik_cons (ie_idxB (by rfl) (by exact hu1 hr) (ie_v 0) ie_int) (ik_cons (ie_idxB (by rfl) (by exact hu1 hr) (ie_v 0) ie_int) (ik_cons (ie_idxB (by rfl) (by exact hu1 hr) (ie_v 0) ie_int) (ik_cons (ie_idxB (by rfl) (by exact hu1 hr) (ie_v 0) ie_int) ik_nil))))))))) rfl))))
theorem kb__law_made_0 (fd : FuncData) (FD : FunD T.K d__law_made.name d__law_made.qual d__law_made.params d__law_made.body d__law_made.scope (d__law_made.dvs T.K) [] (He.fAd T.K d__law_made.at_) fd) : KBD T fd ["_law_row"] 1 [] [(0, 0)] [] :=
  kbd_n FD fun kV doc pm an cdv ct us ws h1 h2 => match us, ws, h1, h2 with | [_], [], _, _ => rfl
theorem nd__law_booked : (["_law_rows", "_law_row"] : List Str).Nodup := by decide +kernel
theorem sc__law_booked : FnScope ["_law_rows", "_law_row"] ["_law_rows"] d__law_booked.scope := ⟨rfl, rfl, rfl, nd__law_booked, rfl, by decide +kernel, by decide +kernel⟩
theorem ok__law_booked (F : Fx T mg lw) (hcf : T.cf = cf) (hx0 : T.xc = none) (hT : T.tabs = tabsOf T.K lw.tf) (TB : TabsB T.K mg base (lw.tf.map (·.1))) (hD : DictsK T.K w (dcsL.map (·.1))) : OkF T P w mg base 6 d__law_booked ["_law_rows"] m__law_booked := by
  obtain ⟨fd, FD⟩ := F.defs 15 d__law_booked rfl
  refine OkF.mk' (N := ["_law_rows", "_law_row"]) FD sc__law_booked fun cdv A outer s H E hr => ?_
  show ISs T E _ (defBody (top 60)) b__law_booked
  exact (is_one (is_ret (ie_frz (by exact hcf) (ie_newF (cn := "Rulebook") (by exact ok_Rulebook_init F hcf hx0 hT TB hD) (by exact F.mk' "Rulebook") (by rfl) (by exact hr.mono (by decide)) (by rfl) (by exact F.g "Rulebook") kb_Rulebook_init_0 (by exact tk_cx) (ak_cons (ia_cons (ie_lc (own := [("_law_row", 1)]) (by rfl) nd__law_booked (ii_any (by rfl) (ie_v 0)) (blk_by (by kernel_rfl)) (fun _ _ _ _ _ => (ig_n 1 nd__law_booked)) (fun _ _ _ _ _ => its_nil) (fun _ _ _ _ _ => (ie_fnF (by exact ok__law_made F hcf hx0 hT TB hD) (by rfl) (by exact hr.mono (by decide)) (by rfl) (by exact F.g "_law_made") kb__law_made_0 (by exact tk_no) (ak_cons (ia_cons (ie_v 1) ia_nil) ik_nil)))) ia_nil) ik_nil) rfl))))
theorem kb__law_booked_0 (fd : FuncData) (FD : FunD T.K d__law_booked.name d__law_booked.qual d__law_booked.params d__law_booked.body d__law_booked.scope (d__law_booked.dvs T.K) [] (He.fAd T.K d__law_booked.at_) fd) : KBD T fd ["_law_rows"] 1 [] [(0, 0)] [] :=
  kbd_n FD fun kV doc pm an cdv ct us ws h1 h2 => match us, ws, h1, h2 with | [_], [], _, _ => rfl
theorem nd__law_spot : (["_law_box_here", "_law_rows", "_law_sort", "_law_ends", "_law_share", "_law_days", "_law_row"] : List Str).Nodup := by decide +kernel
theorem sc__law_spot : FnScope ["_law_box_here", "_law_rows", "_law_sort", "_law_ends", "_law_share", "_law_days", "_law_row"] ["_law_box_here", "_law_rows"] d__law_spot.scope := ⟨rfl, rfl, rfl, nd__law_spot, rfl, by decide +kernel, by decide +kernel⟩
theorem ok__law_spot (F : Fx T mg lw) (hcf : T.cf = cf) (hx0 : T.xc = none) (hT : T.tabs = tabsOf T.K lw.tf) (TB : TabsB T.K mg base (lw.tf.map (·.1))) (hD : DictsK T.K w (dcsL.map (·.1))) : OkF T P w mg base 3 d__law_spot ["_law_box_here", "_law_rows"] m__law_spot := by
  obtain ⟨fd, FD⟩ := F.defs 16 d__law_spot rfl
  refine OkF.mk' (N := ["_law_box_here", "_law_rows", "_law_sort", "_law_ends", "_law_share", "_law_days", "_law_row"]) FD sc__law_spot fun cdv A outer s H E hr => ?_
  show ISs T E _ (defBody (top 57)) b__law_spot
  exact (is_cons (is_st 2 nd__law_spot (ie_idxB (by rfl) (by exact hu1 hr) (ie_lst (ia_cons ie_str (ia_cons ie_str (ia_cons ie_str (ia_cons ie_str (ia_cons ie_str ia_nil)))))) (ie_fnF (by exact ok__law_take F hcf hx0 hT TB hD) (by rfl) (by exact hr.mono (by decide)) (by rfl) (by exact F.g "_law_take") kb__law_take_0 (by exact tk_cx) (ak_cons (ia_cons (ie_v 0) (ia_cons ie_int ia_nil)) ik_nil))))
  (is_cons (is_st 3 nd__law_spot (ie_op (oi_add (by rfl)) (ie_op (oi_add (by rfl)) (ie_lst (ia_cons ie_int (ia_cons ie_int (ia_cons ie_int (ia_cons (ie_op (oi_pow) ie_int ie_int) ia_nil))))) (ie_lc (own := [("_law_row", 6)]) (by rfl) nd__law_spot (ii_any (by rfl) (ie_v 1)) (blk_by (by kernel_rfl)) (fun _ _ _ _ _ => (ig_n 6 nd__law_spot)) (fun _ _ _ _ _ => its_nil) (fun _ _ _ _ _ => (ie_idxB (by rfl) (by exact hu1 hr) (ie_v 6) ie_int)))) (ie_lc (own := [("_law_row", 6)]) (by rfl) nd__law_spot (ii_any (by rfl) (ie_v 1)) (blk_by (by kernel_rfl)) (fun _ _ _ _ _ => (ig_n 6 nd__law_spot)) (fun _ _ _ _ _ => its_nil) (fun _ _ _ _ _ => (ie_idxB (by rfl) (by exact hu1 hr) (ie_v 6) ie_int)))))
  (is_cons (is_st 4 nd__law_spot (ie_op (oi_sub) (ie_op (oi_add (by rfl)) (ie_idxB (by rfl) (by exact hu1 hr) (ie_v 3) (ie_fnF (by exact ok__law_take F hcf hx0 hT TB hD) (by rfl) (by exact hr.mono (by decide)) (by rfl) (by exact F.g "_law_take") kb__law_take_0 (by exact tk_cx) (ak_cons (ia_cons (ie_v 0) (ia_cons (ie_b (by exact call_len) bo_lenA (by rfl) (by exact F.f "len") (by decide +kernel) (ia_cons (ie_v 3) ia_nil)) ia_nil)) ik_nil))) (ie_fnF (by exact ok__law_take F hcf hx0 hT TB hD) (by rfl) (by exact hr.mono (by decide)) (by rfl) (by exact F.g "_law_take") kb__law_take_0 (by exact tk_cx) (ak_cons (ia_cons (ie_v 0) (ia_cons ie_int ia_nil)) ik_nil))) ie_int))
  (is_cons (is_st 4 nd__law_spot (ie_idxB (by rfl) (by exact hu1 hr) (ie_lst (ia_cons (ie_b (by exact call_max2 rfl) bo_max2 (by rfl) (by exact F.f "max") (by decide +kernel) (ia_cons ie_int (ia_cons (ie_b (by exact call_min2 rfl) bo_min2 (by rfl) (by exact F.f "min") (by decide +kernel) (ia_cons (ie_v 4) (ia_cons (ie_op (oi_pow) ie_int ie_int) ia_nil))) ia_nil))) (ia_cons (ie_fnF (by exact ok__law_take F hcf hx0 hT TB hD) (by rfl) (by exact hr.mono (by decide)) (by rfl) (by exact F.g "_law_take") kb__law_take_0 (by exact tk_cx) (ak_cons (ia_cons (ie_v 0) (ia_cons ie_int ia_nil)) ik_nil)) ia_nil))) (ie_fnF (by exact ok__law_take F hcf hx0 hT TB hD) (by rfl) (by exact hr.mono (by decide)) (by rfl) (by exact F.g "_law_take") kb__law_take_0 (by exact tk_cx) (ak_cons (ia_cons (ie_v 0) (ia_cons ie_int ia_nil)) ik_nil))))
  (is_cons (is_st 5 nd__law_spot (ie_op (oi_add (by rfl)) (ie_op (oi_add (by rfl)) (ie_lst (ia_cons ie_int (ia_cons ie_int (ia_cons (ie_fnF (by exact ok__law_take F hcf hx0 hT TB hD) (by rfl) (by exact hr.mono (by decide)) (by rfl) (by exact F.g "_law_take") kb__law_take_0 (by exact tk_cx) (ak_cons (ia_cons (ie_v 0) (ia_cons ie_int ia_nil)) ik_nil)) ia_nil)))) (ie_lc (own := [("_law_row", 6)]) (by rfl) nd__law_spot (ii_any (by rfl) (ie_v 1)) (blk_by (by kernel_rfl)) (fun _ _ _ _ _ => (ig_n 6 nd__law_spot)) (fun _ _ _ _ _ => its_nil) (fun _ _ _ _ _ => (ie_idxB (by rfl) (by exact hu1 hr) (ie_v 6) ie_int)))) (ie_lc (own := [("_law_row", 6)]) (by rfl) nd__law_spot (ii_any (by rfl) (ie_v 1)) (blk_by (by kernel_rfl)) (fun _ _ _ _ _ => (ig_n 6 nd__law_spot)) (fun _ _ _ _ _ => its_nil) (fun _ _ _ _ _ => (ie_idxB (by rfl) (by exact hu1 hr) (ie_v 6) ie_int)))))
  (is_one (is_ret (ie_tup (ia_cons (ie_v 2) (ia_cons (ie_fnF (by exact ok__law_take F hcf hx0 hT TB hD) (by rfl) (by exact hr.mono (by decide)) (by rfl) (by exact F.g "_law_take") kb__law_take_0 (by exact tk_cx) (ak_cons (ia_cons (ie_v 0) (ia_cons ie_int ia_nil)) ik_nil)) (ia_cons (ie_cmp (oi_eqP (by rfl) (by exact hr.rm.units)) (ie_fnF (by exact ok__law_take F hcf hx0 hT TB hD) (by rfl) (by exact hr.mono (by decide)) (by rfl) (by exact F.g "_law_take") kb__law_take_0 (by exact tk_cx) (ak_cons (ia_cons (ie_v 0) (ia_cons ie_int ia_nil)) ik_nil)) ie_int (by rfl)) (ia_cons (ie_idxB (by rfl) (by exact hu1 hr) (ie_v 5) (ie_fnF (by exact ok__law_take F hcf hx0 hT TB hD) (by rfl) (by exact hr.mono (by decide)) (by rfl) (by exact F.g "_law_take") kb__law_take_0 (by exact tk_cx) (ak_cons (ia_cons (ie_v 0) (ia_cons (ie_b (by exact call_len) bo_lenA (by rfl) (by exact F.f "len") (by decide +kernel) (ia_cons (ie_v 5) ia_nil)) ia_nil)) ik_nil))) (ia_cons (ie_v 4) ia_nil)))))))))))))
theorem kb__law_spot_0 (fd : FuncData) (FD : FunD T.K d__law_spot.name d__law_spot.qual d__law_spot.params d__law_spot.body d__law_spot.scope (d__law_spot.dvs T.K) [] (He.fAd T.K d__law_spot.at_) fd) : KBD T fd ["_law_box_here", "_law_rows"] 2 [] [(0, 0), (0, 1)] [] :=
  kbd_n FD fun kV doc pm an cdv ct us ws h1 h2 => match us, ws, h1, h2 with | [_, _], [], _, _ => rfl
theorem nd__law_meets : (["_law_row", "_law_spot_here", "_law_name_here", "_law_act", "_law_ending", "_law_sort", "_law_city", "_law_since", "_law_until", "_law_above", "_law_slip"] : List Str).Nodup := by decide +kernel
theorem sc__law_meets : FnScope ["_law_row", "_law_spot_here", "_law_name_here", "_law_act", "_law_ending", "_law_sort", "_law_city", "_law_since", "_law_until", "_law_above", "_law_slip"] ["_law_row", "_law_spot_here"] d__law_meets.scope := ⟨rfl, rfl, rfl, nd__law_meets, rfl, by decide +kernel, by decide +kernel⟩
theorem ok__law_meets (F : Fx T mg lw) (hcf : T.cf = cf) (hx0 : T.xc = none) (hT : T.tabs = tabsOf T.K lw.tf) (TB : TabsB T.K mg base (lw.tf.map (·.1))) (hD : DictsK T.K w (dcsL.map (·.1))) : OkF T P w mg base 1 d__law_meets ["_law_row", "_law_spot_here"] m__law_meets := by
  obtain ⟨fd, FD⟩ := F.defs 17 d__law_meets rfl
  refine OkF.mk' (N := ["_law_row", "_law_spot_here", "_law_name_here", "_law_act", "_law_ending", "_law_sort", "_law_city", "_law_since", "_law_until", "_law_above", "_law_slip"]) FD sc__law_meets fun cdv A outer s H E hr => ?_
  show ISs T E _ (defBody (top 58)) b__law_meets
  exact (is_cons (is_unp (vs := allN 11) (ie_cut (by rfl) (ie_v 0) io_none (io_some ie_int)) (ig_tup (by rfl) (igs_cons (ig_n 2 nd__law_meets) (igs_cons (ig_n 3 nd__law_meets) (igs_cons (ig_n 4 nd__law_meets) igs_nil))) (len_cons (len_cons (len_cons len_nil)))))
  (is_cons (is_unp (vs := allN 11) (ie_cut (by rfl) (ie_v 0) (io_some ie_int) io_none) (ig_tup (by rfl) (igs_cons (ig_n 5 nd__law_meets) (igs_cons (ig_n 6 nd__law_meets) (igs_cons (ig_n 7 nd__law_meets) (igs_cons (ig_n 8 nd__law_meets) (igs_cons (ig_n 9 nd__law_meets) (igs_cons (ig_n 10 nd__law_meets) igs_nil)))))) (len_cons (len_cons (len_cons (len_cons (len_cons (len_cons len_nil))))))))
  (is_cons (is_if (iw_pt (iw_or (iw_pt (iw_and (ib_cmp (oi_isnot) (ie_v 5) ie_non (by rfl)) (iw_and1 (ib_cmp (oi_neP (by rfl) (by exact hr.rm.units)) (ie_v 5) (ie_idxB (by rfl) (by exact hu1 hr) (ie_v 1) ie_int) (by rfl))))) (iw_or1 (iw_pt (iw_and (ib_cmp (oi_isnot) (ie_v 6) ie_non (by rfl)) (iw_and1 (ib_cmp (oi_neP (by rfl) (by exact hr.rm.units)) (ie_v 6) (ie_idxB (by rfl) (by exact hu1 hr) (ie_v 1) ie_int) (by rfl)))))))) (is_one (is_ret ie_bl)) is_nil)
  (is_cons (is_if (iw_pt (iw_and (ib_cmp (oi_isnot) (ie_v 10) ie_non (by rfl)) (iw_and1 (ib_cmp (oi_neP (by rfl) (by exact hr.rm.units)) (ie_v 10) (ie_idxB (by rfl) (by exact hu1 hr) (ie_v 1) ie_int) (by rfl))))) (is_one (is_ret ie_bl)) is_nil)
  (is_one (is_ret (ie_and (ie_chain (oi_le) (oi_le) (ie_v 7) (ie_idxB (by rfl) (by exact hu1 hr) (ie_v 1) ie_int) (ie_v 8)) (ie_one (ie_cmp (oi_gt) (ie_idxB (by rfl) (by exact hu1 hr) (ie_v 1) ie_int) (ie_v 9) (by rfl))))))))))
theorem kb__law_meets_0 (fd : FuncData) (FD : FunD T.K d__law_meets.name d__law_meets.qual d__law_meets.params d__law_meets.body d__law_meets.scope (d__law_meets.dvs T.K) [] (He.fAd T.K d__law_meets.at_) fd) : KBD T fd ["_law_row", "_law_spot_here"] 2 [] [(0, 0), (0, 1)] [] :=
  kbd_n FD fun kV doc pm an cdv ct us ws h1 h2 => match us, ws, h1, h2 with | [_, _], [], _, _ => rfl
theorem nd__law_whole_to : (["_law_row", "_law_low", "_law_high", "_law_is_whole_deed"] : List Str).Nodup := by decide +kernel
theorem sc__law_whole_to : FnScope ["_law_row", "_law_low", "_law_high", "_law_is_whole_deed"] ["_law_row", "_law_low", "_law_high"] d__law_whole_to.scope := ⟨rfl, rfl, rfl, nd__law_whole_to, rfl, by decide +kernel, by decide +kernel⟩
theorem ok__law_whole_to (F : Fx T mg lw) (hcf : T.cf = cf) (hx0 : T.xc = none) (hT : T.tabs = tabsOf T.K lw.tf) (TB : TabsB T.K mg base (lw.tf.map (·.1))) (hD : DictsK T.K w (dcsL.map (·.1))) : OkF T P w mg base 1 d__law_whole_to ["_law_row", "_law_low", "_law_high"] m__law_whole_to := by
  obtain ⟨fd, FD⟩ := F.defs 18 d__law_whole_to rfl
  refine OkF.mk' (N := ["_law_row", "_law_low", "_law_high", "_law_is_whole_deed"]) FD sc__law_whole_to fun cdv A outer s H E hr => ?_
  show ISs T E _ (defBody (top 61)) b__law_whole_to
  exact (is_cons (is_if (ib_cmp (oi_eqP (by rfl) (by exact hr.rm.units)) (ie_idxB (by rfl) (by exact hu1 hr) (ie_v 0) ie_int) ie_str (by rfl)) (is_one (is_ret (ie_if (ib_cmp (oi_le) (ie_v 1) (ie_idxB (by rfl) (by exact hu1 hr) (ie_v 0) ie_int) (by rfl)) (ie_b (by exact call_min2 rfl) bo_min2 (by rfl) (by exact F.f "min") (by decide +kernel) (ia_cons (ie_v 2) (ia_cons (ie_idxB (by rfl) (by exact hu1 hr) (ie_v 0) ie_int) ia_nil))) ie_non))) is_nil)
  (is_cons (is_st 3 nd__law_whole_to (ie_or (ie_cmp (oi_eqP (by rfl) (by exact hr.rm.units)) (ie_idxB (by rfl) (by exact hu1 hr) (ie_v 0) ie_int) ie_str (by rfl)) (ie_one (ie_cmp (oi_in (by rfl) (by exact hr.rm.units)) (ie_cut (by rfl) (ie_v 0) (io_some ie_int) (io_some ie_int)) (ie_lst (ia_cons (ie_tup (ia_cons ie_str (ia_cons ie_int ia_nil))) (ia_cons (ie_tup (ia_cons ie_str (ia_cons ie_int ia_nil))) ia_nil))) (by rfl)))))
  (is_one (is_ret (ie_if (ib_of (by rfl) (ie_v 3)) (ie_v 2) ie_non)))))
theorem kb__law_whole_to_0 (fd : FuncData) (FD : FunD T.K d__law_whole_to.name d__law_whole_to.qual d__law_whole_to.params d__law_whole_to.body d__law_whole_to.scope (d__law_whole_to.dvs T.K) [] (He.fAd T.K d__law_whole_to.at_) fd) : KBD T fd ["_law_row", "_law_low", "_law_high"] 3 [] [(0, 0), (0, 1), (0, 2)] [] :=
  kbd_n FD fun kV doc pm an cdv ct us ws h1 h2 => match us, ws, h1, h2 with | [_, _, _], [], _, _ => rfl
theorem nd__law_room : (["_law_rows", "_law_fit", "_law_limit", "_law_ends", "_law_found", "_law_low", "_law_behind", "_law_some", "_law_high", "_law_best", "_law_row"] : List Str).Nodup := by decide +kernel
theorem sc__law_room : FnScope ["_law_rows", "_law_fit", "_law_limit", "_law_ends", "_law_found", "_law_low", "_law_behind", "_law_some", "_law_high", "_law_best", "_law_row"] ["_law_rows", "_law_fit", "_law_limit"] d__law_room.scope := ⟨rfl, rfl, rfl, nd__law_room, rfl, by decide +kernel, by decide +kernel⟩
theorem ok__law_room (F : Fx T mg lw) (hcf : T.cf = cf) (hx0 : T.xc = none) (hT : T.tabs = tabsOf T.K lw.tf) (TB : TabsB T.K mg base (lw.tf.map (·.1))) (hD : DictsK T.K w (dcsL.map (·.1))) : OkF T P w mg base 2 d__law_room ["_law_rows", "_law_fit", "_law_limit"] m__law_room := by
  obtain ⟨fd, FD⟩ := F.defs 19 d__law_room rfl
  refine OkF.mk' (N := ["_law_rows", "_law_fit", "_law_limit", "_law_ends", "_law_found", "_law_low", "_law_behind", "_law_some", "_law_high", "_law_best", "_law_row"]) FD sc__law_room fun cdv A outer s H E hr => ?_
  show ISs T E _ (defBody (top 62)) b__law_room
  exact (is_cons (is_st 3 nd__law_room (ie_sortSet (by rfl) (by rfl) (by rfl) (by exact F.f "sorted") (by rfl) (by exact F.f "set") (ie_op (oi_add (by rfl)) (ie_lst (ia_cons ie_int (ia_cons (ie_op (oi_add (by rfl)) (ie_op (oi_pow) ie_int ie_int) ie_int) ia_nil))) (ie_lc (own := [("_law_row", 10)]) (by rfl) nd__law_room (ii_any (by rfl) (ie_v 0)) (blk_by (by kernel_rfl)) (fun _ _ _ _ _ => (ig_n 10 nd__law_room)) (fun _ _ _ _ _ => its_nil) (fun _ _ _ _ _ => (ie_op (oi_add (by rfl)) (ie_idxB (by rfl) (by exact hu1 hr) (ie_v 10) ie_int) ie_int))))))
  (is_cons (is_st 4 nd__law_room ie_non)
  (is_cons (is_for (vs := allN 11) (by exact passes_of rfl) (by rfl) (ii_zip (by rfl) (by rfl) (by exact F.f "zip") (ia_cons (ie_cut (by rfl) (ie_v 3) io_none (io_some (ie_neg ie_int))) (ia_cons (ie_cut (by rfl) (ie_v 3) (io_some ie_int) io_none) ia_nil))) (ig_tup (by rfl) (igs_cons (ig_n 5 nd__law_room) (igs_cons (ig_n 6 nd__law_room) igs_nil)) (len_cons (len_cons len_nil))) (is_cons (by first | exact (is_setLc (own := [("_law_row", 10)]) (by rfl) nd__law_room (by rfl) (by rfl) (by rfl) (ii_any (by rfl) (ie_v 0)) (blk_by (by kernel_rfl)) (fun _ _ _ _ _ => (ig_n 10 nd__law_room)) (fun _ _ _ _ _ => (its_one (ib_val (ie_fnF (by exact ok__law_meets F hcf hx0 hT TB hD) (by rfl) (by exact hr.mono (by decide)) (by rfl) (by exact F.g "_law_meets") kb__law_meets_0 (by exact tk_no) (ak_cons (ia_cons (ie_v 10) (ia_cons (ie_op (oi_add (by rfl)) (ie_cut (by rfl) (ie_v 1) io_none (io_some ie_int)) (ie_tup (ia_cons (ie_v 5) ia_nil))) ia_nil)) ik_nil))))) (fun _ _ _ _ _ => (ie_v 10))) | exact (is_st 7 nd__law_room (ie_lc (own := [("_law_row", 10)]) (by rfl) nd__law_room (ii_any (by rfl) (ie_v 0)) (blk_by (by kernel_rfl)) (fun _ _ _ _ _ => (ig_n 10 nd__law_room)) (fun _ _ _ _ _ => (its_one (ib_val (ie_fnF (by exact ok__law_meets F hcf hx0 hT TB hD) (by rfl) (by exact hr.mono (by decide)) (by rfl) (by exact F.g "_law_meets") kb__law_meets_0 (by exact tk_no) (ak_cons (ia_cons (ie_v 10) (ia_cons (ie_op (oi_add (by rfl)) (ie_cut (by rfl) (ie_v 1) io_none (io_some ie_int)) (ie_tup (ia_cons (ie_v 5) ia_nil))) ia_nil)) ik_nil))))) (fun _ _ _ _ _ => (ie_v 10)))))
  (is_cons (is_st 8 nd__law_room (ie_b (by exact call_min2 rfl) bo_min2 (by rfl) (by exact F.f "min") (by decide +kernel) (ia_cons (ie_op (oi_sub) (ie_v 6) ie_int) (ia_cons (ie_v 2) ia_nil))))
  (is_one (is_if (iw_pt (iw_and (ib_cmp (oi_neP (by rfl) (by exact hr.rm.units)) (ie_v 7) (ie_lst ia_nil) (by rfl)) (iw_and1 (ib_cmp (oi_le) (ie_v 5) (ie_v 8) (by rfl))))) (is_cons (is_st 9 nd__law_room (ie_fnF (by exact ok__law_whole_to F hcf hx0 hT TB hD) (by rfl) (by exact hr.mono (by decide)) (by rfl) (by exact F.g "_law_whole_to") kb__law_whole_to_0 (by exact tk_cx) (ak_cons (ia_cons (ie_idxB (by rfl) (by exact hu1 hr) (ie_v 7) ie_int) (ia_cons (ie_v 5) (ia_cons (ie_v 8) ia_nil))) ik_nil)))
  (is_one (is_st 4 nd__law_room (ie_if (ib_cmp (oi_isnot) (ie_v 9) ie_non (by rfl)) (ie_v 9) (ie_v 4))))) is_nil)))))
  (is_one (is_ret (ie_v 4))))))
theorem kb__law_room_0 (fd : FuncData) (FD : FunD T.K d__law_room.name d__law_room.qual d__law_room.params d__law_room.body d__law_room.scope (d__law_room.dvs T.K) [] (He.fAd T.K d__law_room.at_) fd) : KBD T fd ["_law_rows", "_law_fit", "_law_limit"] 3 [] [(0, 0), (0, 1), (0, 2)] [] :=
  kbd_n FD fun kV doc pm an cdv ct us ws h1 h2 => match us, ws, h1, h2 with | [_, _, _], [], _, _ => rfl
theorem nd_need_share : (["share"] : List Str).Nodup := by decide +kernel
theorem sc_need_share : FnScope ["share"] ["share"] d_need_share.scope := ⟨rfl, rfl, rfl, nd_need_share, rfl, by decide +kernel, by decide +kernel⟩
theorem ok_need_share (F : Fx T mg lw) (hcf : T.cf = cf) (hx0 : T.xc = none) (hT : T.tabs = tabsOf T.K lw.tf) (TB : TabsB T.K mg base (lw.tf.map (·.1))) (hD : DictsK T.K w (dcsL.map (·.1))) : OkF T P w mg base 2 d_need_share ["share"] m_need_share := by
  obtain ⟨fd, FD⟩ := F.defs 20 d_need_share rfl
  refine OkF.mk' (N := ["share"]) FD sc_need_share fun cdv A outer s H E hr => ?_
  show ISs T E _ (defBody (top 37)) b_need_share
  exact (is_one (is_if (ib_not (ib_val (ie_fnF (by exact ok_is_whole F hcf hx0 hT TB hD) (by rfl) (by exact hr.mono (by decide)) (by rfl) (by exact F.g "is_whole") kb_is_whole_0 (by exact tk_cx) (ak_cons (ia_cons (ie_v 0) (ia_cons ie_int (ia_cons (ie_gint (by rfl) (by exact F.i "MOST_SHARE" 1000000000000)) ia_nil))) ik_nil)))) (is_one (is_raise0 (c := "NoShare") (by rfl) (by rfl) (by exact tk_cx) (by exact He_exc F 0) (by rfl) (by exact F.g "NoShare"))) is_nil))
theorem kb_need_share_0 (fd : FuncData) (FD : FunD T.K d_need_share.name d_need_share.qual d_need_share.params d_need_share.body d_need_share.scope (d_need_share.dvs T.K) [] (He.fAd T.K d_need_share.at_) fd) : KBD T fd ["share"] 1 [] [(0, 0)] [] :=
  kbd_n FD fun kV doc pm an cdv ct us ws h1 h2 => match us, ws, h1, h2 with | [_], [], _, _ => rfl
theorem nd_Rule_meets_spot : (["self", "spot", "kind", "town", "paper", "day", "share"] : List Str).Nodup := by decide +kernel
theorem sc_Rule_meets_spot : FnScope ["self", "spot", "kind", "town", "paper", "day", "share"] ["self", "spot"] d_Rule_meets_spot.scope := ⟨rfl, rfl, rfl, nd_Rule_meets_spot, rfl, by decide +kernel, by decide +kernel⟩
theorem ok_Rule_meets_spot (F : Fx T mg lw) (hcf : T.cf = cf) (hx0 : T.xc = none) (hT : T.tabs = tabsOf T.K lw.tf) (TB : TabsB T.K mg base (lw.tf.map (·.1))) (hD : DictsK T.K w (dcsL.map (·.1))) : OkF T P w mg base 1 d_Rule_meets_spot ["self", "spot"] m_Rule_meets_spot := by
  obtain ⟨fd, FD⟩ := F.defs 21 d_Rule_meets_spot rfl
  refine OkF.mk' (N := ["self", "spot", "kind", "town", "paper", "day", "share"]) FD sc_Rule_meets_spot fun cdv A outer s H E hr => ?_
  show ISs T E _ (defBody (meth 39 4)) b_Rule_meets_spot
  exact (is_cons (is_unp (vs := allN 7) (ie_v 1) (ig_tup (by rfl) (igs_cons (ig_n 2 nd_Rule_meets_spot) (igs_cons (ig_n 3 nd_Rule_meets_spot) (igs_cons (ig_n 4 nd_Rule_meets_spot) (igs_cons (ig_n 5 nd_Rule_meets_spot) (igs_cons (ig_n 6 nd_Rule_meets_spot) igs_nil))))) (len_cons (len_cons (len_cons (len_cons (len_cons len_nil)))))))
  (is_cons (is_if (iw_pt (iw_or (iw_pt (iw_and (ib_cmp (oi_isnot) (ie_attr (by exact hcf) (by rfl) (by exact F.at' ["Rule"] "kind") (ie_v 0)) ie_non (by rfl)) (iw_and1 (ib_cmp (oi_neP (by rfl) (by exact hr.rm.units)) (ie_attr (by exact hcf) (by rfl) (by exact F.at' ["Rule"] "kind") (ie_v 0)) (ie_v 2) (by rfl))))) (iw_or1 (iw_pt (iw_and (ib_cmp (oi_isnot) (ie_attr (by exact hcf) (by rfl) (by exact F.at' ["Rule"] "town") (ie_v 0)) ie_non (by rfl)) (iw_and1 (ib_cmp (oi_neP (by rfl) (by exact hr.rm.units)) (ie_attr (by exact hcf) (by rfl) (by exact F.at' ["Rule"] "town") (ie_v 0)) (ie_v 3) (by rfl)))))))) (is_one (is_ret ie_bl)) is_nil)
  (is_cons (is_if (iw_pt (iw_and (ib_cmp (oi_isnot) (ie_attr (by exact hcf) (by rfl) (by exact F.at' ["Rule"] "paper") (ie_v 0)) ie_non (by rfl)) (iw_and1 (ib_cmp (oi_neP (by rfl) (by exact hr.rm.units)) (ie_attr (by exact hcf) (by rfl) (by exact F.at' ["Rule"] "paper") (ie_v 0)) (ie_v 4) (by rfl))))) (is_one (is_ret ie_bl)) is_nil)
  (is_one (is_ret (ie_and (ie_chain (oi_le) (oi_le) (ie_attr (by exact hcf) (by rfl) (by exact F.at' ["Rule"] "first") (ie_v 0)) (ie_v 5) (ie_attr (by exact hcf) (by rfl) (by exact F.at' ["Rule"] "last") (ie_v 0))) (ie_one (ie_cmp (oi_gt) (ie_v 6) (ie_attr (by exact hcf) (by rfl) (by exact F.at' ["Rule"] "over") (ie_v 0)) (by rfl)))))))))
theorem kb_Rule_meets_spot_0 (fd : FuncData) (FD : FunD T.K d_Rule_meets_spot.name d_Rule_meets_spot.qual d_Rule_meets_spot.params d_Rule_meets_spot.body d_Rule_meets_spot.scope (d_Rule_meets_spot.dvs T.K) [] (He.fAd T.K d_Rule_meets_spot.at_) fd) : KBD T fd ["self", "spot"] 2 [] [(0, 0), (0, 1)] [] :=
  kbd_n FD fun kV doc pm an cdv ct us ws h1 h2 => match us, ws, h1, h2 with | [_, _], [], _, _ => rfl
theorem nd_first_met : (["rules", "spot", "place", "rule"] : List Str).Nodup := by decide +kernel
theorem sc_first_met : FnScope ["rules", "spot", "place", "rule"] ["rules", "spot"] d_first_met.scope := ⟨rfl, rfl, rfl, nd_first_met, rfl, by decide +kernel, by decide +kernel⟩
theorem ok_first_met (F : Fx T mg lw) (hcf : T.cf = cf) (hx0 : T.xc = none) (hT : T.tabs = tabsOf T.K lw.tf) (TB : TabsB T.K mg base (lw.tf.map (·.1))) (hD : DictsK T.K w (dcsL.map (·.1))) : OkF T P w mg base 2 d_first_met ["rules", "spot"] m_first_met := by
  obtain ⟨fd, FD⟩ := F.defs 22 d_first_met rfl
  refine OkF.mk' (N := ["rules", "spot", "place", "rule"]) FD sc_first_met fun cdv A outer s H E hr => ?_
  show ISs T E _ (defBody (top 42)) b_first_met
  exact (is_cons (is_for (vs := allN 4) (by exact passes_of rfl) (by rfl) (ii_enum (by rfl) (by rfl) (by exact F.f "enumerate") (ia_cons (ie_v 0) ia_nil)) (ig_tup (by rfl) (igs_cons (ig_n 2 nd_first_met) (igs_cons (ig_n 3 nd_first_met) igs_nil)) (len_cons (len_cons len_nil))) (is_one (is_if (ib_val (ie_methF (cn := "Rule") (mn := "meets_spot") (n := 1) (by exact hcf) (by exact ok_Rule_meets_spot F hcf hx0 hT TB hD) (by rfl) (by exact hr.mono (by decide)) (by exact F.c "Rule") (by exact F.m "Rule" "meets_spot") kb_Rule_meets_spot_0 (by exact tk_cx) (ie_v 3) (ak_cons (ia_cons (ie_v 1) ia_nil) ik_nil) rfl)) (is_one (is_ret (ie_v 2))) is_nil)))
  (is_one (is_ret ie_non)))
theorem kb_first_met_0 (fd : FuncData) (FD : FunD T.K d_first_met.name d_first_met.qual d_first_met.params d_first_met.body d_first_met.scope (d_first_met.dvs T.K) [] (He.fAd T.K d_first_met.at_) fd) : KBD T fd ["rules", "spot"] 2 [] [(0, 0), (0, 1)] [] :=
  kbd_n FD fun kV doc pm an cdv ct us ws h1 h2 => match us, ws, h1, h2 with | [_, _], [], _, _ => rfl
theorem nd_most_whole : (["rule", "low", "high"] : List Str).Nodup := by decide +kernel
theorem sc_most_whole : FnScope ["rule", "low", "high"] ["rule", "low", "high"] d_most_whole.scope := ⟨rfl, rfl, rfl, nd_most_whole, rfl, by decide +kernel, by decide +kernel⟩
theorem ok_most_whole (F : Fx T mg lw) (hcf : T.cf = cf) (hx0 : T.xc = none) (hT : T.tabs = tabsOf T.K lw.tf) (TB : TabsB T.K mg base (lw.tf.map (·.1))) (hD : DictsK T.K w (dcsL.map (·.1))) : OkF T P w mg base 1 d_most_whole ["rule", "low", "high"] m_most_whole := by
  obtain ⟨fd, FD⟩ := F.defs 23 d_most_whole rfl
  refine OkF.mk' (N := ["rule", "low", "high"]) FD sc_most_whole fun cdv A outer s H E hr => ?_
  show ISs T E _ (defBody (top 44)) b_most_whole
  exact (is_cons (is_if (ib_cmp (oi_eqP (by rfl) (by exact hr.rm.units)) (ie_attr (by exact hcf) (by rfl) (by exact F.at' ["Rule"] "deed") (ie_v 0)) ie_str (by rfl)) (is_one (is_st 2 nd_most_whole (ie_b (by exact call_min2 rfl) bo_min2 (by rfl) (by exact F.f "min") (by decide +kernel) (ia_cons (ie_v 2) (ia_cons (ie_attr (by exact hcf) (by rfl) (by exact F.at' ["Rule"] "bound") (ie_v 0)) ia_nil))))) is_nil)
  (is_cons (is_if (iw_pt (iw_or (iw_pt (iw_and (ib_cmp (oi_eqP (by rfl) (by exact hr.rm.units)) (ie_attr (by exact hcf) (by rfl) (by exact F.at' ["Rule"] "deed") (ie_v 0)) ie_str (by rfl)) (iw_and1 (ib_cmp (oi_neP (by rfl) (by exact hr.rm.units)) (ie_attr (by exact hcf) (by rfl) (by exact F.at' ["Rule"] "bound") (ie_v 0)) ie_int (by rfl))))) (iw_or1 (ib_cmp (oi_eqP (by rfl) (by exact hr.rm.units)) (ie_attr (by exact hcf) (by rfl) (by exact F.at' ["Rule"] "deed") (ie_v 0)) ie_str (by rfl))))) (is_one (is_ret ie_non)) is_nil)
  (is_cons (is_if (iw_pt (iw_or (iw_pt (iw_and (ib_cmp (oi_eqP (by rfl) (by exact hr.rm.units)) (ie_attr (by exact hcf) (by rfl) (by exact F.at' ["Rule"] "deed") (ie_v 0)) ie_str (by rfl)) (iw_and1 (ib_cmp (oi_neP (by rfl) (by exact hr.rm.units)) (ie_attr (by exact hcf) (by rfl) (by exact F.at' ["Rule"] "bound") (ie_v 0)) ie_int (by rfl))))) (iw_or1 (ib_cmp (oi_gt) (ie_v 1) (ie_v 2) (by rfl))))) (is_one (is_ret ie_non)) is_nil)
  (is_one (is_ret (ie_v 2))))))
theorem kb_most_whole_0 (fd : FuncData) (FD : FunD T.K d_most_whole.name d_most_whole.qual d_most_whole.params d_most_whole.body d_most_whole.scope (d_most_whole.dvs T.K) [] (He.fAd T.K d_most_whole.at_) fd) : KBD T fd ["rule", "low", "high"] 3 [] [(0, 0), (0, 1), (0, 2)] [] :=
  kbd_n FD fun kV doc pm an cdv ct us ws h1 h2 => match us, ws, h1, h2 with | [_, _, _], [], _, _ => rfl
theorem nd_Rulebook_room : (["self", "kind", "town", "day", "paper", "most", "edges", "found", "low", "high", "place", "best", "one"] : List Str).Nodup := by decide +kernel
theorem sc_Rulebook_room : FnScope ["self", "kind", "town", "day", "paper", "most", "edges", "found", "low", "high", "place", "best", "one"] ["self", "kind", "town", "day", "paper", "most"] d_Rulebook_room.scope := ⟨rfl, rfl, rfl, nd_Rulebook_room, rfl, by decide +kernel, by decide +kernel⟩
theorem ok_Rulebook_room (F : Fx T mg lw) (hcf : T.cf = cf) (hx0 : T.xc = none) (hT : T.tabs = tabsOf T.K lw.tf) (TB : TabsB T.K mg base (lw.tf.map (·.1))) (hD : DictsK T.K w (dcsL.map (·.1))) : OkF T P w mg base 3 d_Rulebook_room ["self", "kind", "town", "day", "paper", "most"] m_Rulebook_room := by
  obtain ⟨fd, FD⟩ := F.defs 24 d_Rulebook_room rfl
  refine OkF.mk' (N := ["self", "kind", "town", "day", "paper", "most", "edges", "found", "low", "high", "place", "best", "one"]) FD sc_Rulebook_room fun cdv A outer s H E hr => ?_
  show ISs T E _ (defBody (meth 45 10)) b_Rulebook_room
  exact (is_cons (is_expr (ie_fnF (by exact ok_need_share F hcf hx0 hT TB hD) (by rfl) (by exact hr.mono (by decide)) (by rfl) (by exact F.g "need_share") kb_need_share_0 (by exact tk_cx) (ak_cons (ia_cons (ie_v 5) ia_nil) ik_nil)))
  (is_cons (is_st 6 nd_Rulebook_room (ie_sortSet (by rfl) (by rfl) (by rfl) (by exact F.f "sorted") (by rfl) (by exact F.f "set") (ie_op (oi_add (by rfl)) (ie_lst (ia_cons ie_int (ia_cons (ie_gint (by rfl) (by exact F.i "MOST_SHARE" 1000000000000)) ia_nil))) (ie_lc (own := [("one", 12)]) (by rfl) nd_Rulebook_room (ii_any (by rfl) (ie_attr (by exact hcf) (by rfl) (by exact F.at' ["Rulebook"] "own_rules") (ie_v 0))) (blk_by (by kernel_rfl)) (fun _ _ _ _ _ => (ig_n 12 nd_Rulebook_room)) (fun _ _ _ _ _ => its_nil) (fun _ _ _ _ _ => (ie_attr (by exact hcf) (by rfl) (by exact F.at' ["Rule"] "over") (ie_v 12)))))))
  (is_cons (is_st 7 nd_Rulebook_room ie_non)
  (is_cons (is_for (vs := allN 13) (by exact passes_of rfl) (by rfl) (ii_zip (by rfl) (by rfl) (by exact F.f "zip") (ia_cons (ie_cut (by rfl) (ie_v 6) io_none (io_some (ie_neg ie_int))) (ia_cons (ie_cut (by rfl) (ie_v 6) (io_some ie_int) io_none) ia_nil))) (ig_tup (by rfl) (igs_cons (ig_n 8 nd_Rulebook_room) (igs_cons (ig_n 9 nd_Rulebook_room) igs_nil)) (len_cons (len_cons len_nil))) (is_cons (by first | exact (is_par2 8 9 nd_Rulebook_room (ia_cons (ie_op (oi_add (by rfl)) (ie_v 8) ie_int) (ia_cons (ie_b (by exact call_min2 rfl) bo_min2 (by rfl) (by exact F.f "min") (by decide +kernel) (ia_cons (ie_v 9) (ia_cons (ie_v 5) ia_nil))) ia_nil))) | exact (is_par2u (is_unp (vs := allN 13) (ie_tup (ia_cons (ie_op (oi_add (by rfl)) (ie_v 8) ie_int) (ia_cons (ie_b (by exact call_min2 rfl) bo_min2 (by rfl) (by exact F.f "min") (by decide +kernel) (ia_cons (ie_v 9) (ia_cons (ie_v 5) ia_nil))) ia_nil))) (ig_tup (by rfl) (igs_cons (ig_n 8 nd_Rulebook_room) (igs_cons (ig_n 9 nd_Rulebook_room) igs_nil)) (len_cons (len_cons len_nil))))))
  (is_cons (is_st 10 nd_Rulebook_room (ie_fnF (by exact ok_first_met F hcf hx0 hT TB hD) (by rfl) (by exact hr.mono (by decide)) (by rfl) (by exact F.g "first_met") kb_first_met_0 (by exact tk_cx) (ak_cons (ia_cons (ie_attr (by exact hcf) (by rfl) (by exact F.at' ["Rulebook"] "own_rules") (ie_v 0)) (ia_cons (ie_tup (ia_cons (ie_v 1) (ia_cons (ie_v 2) (ia_cons (ie_v 4) (ia_cons (ie_v 3) (ia_cons (ie_v 8) ia_nil)))))) ia_nil)) ik_nil)))
  (is_one (is_if (iw_pt (iw_and (ib_cmp (oi_isnot) (ie_v 10) ie_non (by rfl)) (iw_and1 (ib_cmp (oi_le) (ie_v 8) (ie_v 9) (by rfl))))) (is_cons (is_st 11 nd_Rulebook_room (ie_fnF (by exact ok_most_whole F hcf hx0 hT TB hD) (by rfl) (by exact hr.mono (by decide)) (by rfl) (by exact F.g "most_whole") kb_most_whole_0 (by exact tk_cx) (ak_cons (ia_cons (ie_idxB (by rfl) (by exact hu1 hr) (ie_attr (by exact hcf) (by rfl) (by exact F.at' ["Rulebook"] "own_rules") (ie_v 0)) (ie_v 10)) (ia_cons (ie_v 8) (ia_cons (ie_v 9) ia_nil))) ik_nil)))
  (is_one (is_st 7 nd_Rulebook_room (ie_if (ib_cmp (oi_is) (ie_v 11) ie_non (by rfl)) (ie_v 7) (ie_v 11))))) is_nil)))))
  (is_one (is_ret (ie_v 7)))))))
theorem kb_Rulebook_room_0 (fd : FuncData) (FD : FunD T.K d_Rulebook_room.name d_Rulebook_room.qual d_Rulebook_room.params d_Rulebook_room.body d_Rulebook_room.scope (d_Rulebook_room.dvs T.K) [] (He.fAd T.K d_Rulebook_room.at_) fd) : KBD T fd ["self", "kind", "town", "day", "paper", "most"] 6 [] [(0, 0), (0, 1), (0, 2), (0, 3), (0, 4), (0, 5)] [.bl true, .int 1000000] :=
  kbd_d (l := [.bl true, .int 1000000]) FD rfl (by decide) fun Ta kV doc pm an cdv ct us its ws h1 h2 h3 => match us, its, ws, h1, h2, h3 with | [_, _, _, _, _, _], [_, _], [], _, _, _ => ⟨_, rfl, rfl⟩
theorem kb_Rulebook_room_1 (fd : FuncData) (FD : FunD T.K d_Rulebook_room.name d_Rulebook_room.qual d_Rulebook_room.params d_Rulebook_room.body d_Rulebook_room.scope (d_Rulebook_room.dvs T.K) [] (He.fAd T.K d_Rulebook_room.at_) fd) : KBD T fd ["self", "kind", "town", "day", "paper", "most"] 1 ["kind", "town", "day", "most", "paper"] [(0, 0), (2, 0), (2, 1), (2, 2), (2, 4), (2, 3)] [.bl true, .int 1000000] :=
  kbd_d (l := [.bl true, .int 1000000]) FD rfl (by decide) fun Ta kV doc pm an cdv ct us its ws h1 h2 h3 => match us, its, ws, h1, h2, h3 with | [_], [_, _], [_, _, _, _, _], _, _, _ => ⟨_, rfl, rfl⟩
theorem kb_Rulebook_room_2 (fd : FuncData) (FD : FunD T.K d_Rulebook_room.name d_Rulebook_room.qual d_Rulebook_room.params d_Rulebook_room.body d_Rulebook_room.scope (d_Rulebook_room.dvs T.K) [] (He.fAd T.K d_Rulebook_room.at_) fd) : KBD T fd ["self", "kind", "town", "day", "paper", "most"] 4 [] [(0, 0), (0, 1), (0, 2), (0, 3), (1, 0), (1, 1)] [.bl true, .int 1000000] :=
  kbd_d (l := [.bl true, .int 1000000]) FD rfl (by decide) fun Ta kV doc pm an cdv ct us its ws h1 h2 h3 => match us, its, ws, h1, h2, h3 with | [_, _, _, _], [_, _], [], _, _, _ => ⟨_, rfl, rfl⟩
theorem nd_is_spot : (["thing"] : List Str).Nodup := by decide +kernel
theorem sc_is_spot : FnScope ["thing"] ["thing"] d_is_spot.scope := ⟨rfl, rfl, rfl, nd_is_spot, rfl, by decide +kernel, by decide +kernel⟩
theorem ok_is_spot (F : Fx T mg lw) (hcf : T.cf = cf) (hx0 : T.xc = none) (hT : T.tabs = tabsOf T.K lw.tf) (TB : TabsB T.K mg base (lw.tf.map (·.1))) (hD : DictsK T.K w (dcsL.map (·.1))) : OkF T P w mg base 2 d_is_spot ["thing"] m_is_spot := by
  obtain ⟨fd, FD⟩ := F.defs 25 d_is_spot rfl
  refine OkF.mk' (N := ["thing"]) FD sc_is_spot fun cdv A outer s H E hr => ?_
  show ISs T E _ (defBody (top 35)) b_is_spot
  exact (is_cons (is_if (iw_pt (iw_or (ib_not (ib_val (ie_isi (tys := tysL) (Tt := .b "tuple") (by rfl) (by rfl) (by exact F.f "isinstance") (ie_v 0) (isTy_b (by rfl) (by exact F.f "tuple") (by decide +kernel)) (by exact F.is' tysL) (by exact F.ki tysL (.b "tuple"))))) (iw_or (ib_cmp (oi_neP (by rfl) (by exact hr.rm.units)) (ie_b (by exact call_len) bo_lenA (by rfl) (by exact F.f "len") (by decide +kernel) (ia_cons (ie_v 0) ia_nil)) ie_int (by rfl)) (iw_or1 (ib_not (ib_val (ie_fnF (by exact ok_is_kind F hcf hx0 hT TB hD) (by rfl) (by exact hr.mono (by decide)) (by rfl) (by exact F.g "is_kind") kb_is_kind_0 (by exact tk_cx) (ak_cons (ia_cons (ie_idxB (by rfl) (by exact hu1 hr) (ie_v 0) ie_int) ia_nil) ik_nil)))))))) (is_one (is_ret ie_bl)) is_nil)
  (is_cons (is_if (iw_pt (iw_or (ib_not (ib_val (ie_fnF (by exact ok_is_whole F hcf hx0 hT TB hD) (by rfl) (by exact hr.mono (by decide)) (by rfl) (by exact F.g "is_whole") kb_is_whole_0 (by exact tk_cx) (ak_cons (ia_cons (ie_idxB (by rfl) (by exact hu1 hr) (ie_v 0) ie_int) (ia_cons ie_int (ia_cons (ie_gint (by rfl) (by exact F.i "LAST_TOWN" 3)) ia_nil))) ik_nil)))) (iw_or1 (ib_not (ib_val (ie_isi (tys := tysL) (Tt := .b "bool") (by rfl) (by rfl) (by exact F.f "isinstance") (ie_idxB (by rfl) (by exact hu1 hr) (ie_v 0) ie_int) (isTy_b (by rfl) (by exact F.f "bool") (by decide +kernel)) (by exact F.is' tysL) (by exact F.ki tysL (.b "bool")))))))) (is_one (is_ret ie_bl)) is_nil)
  (is_one (is_ret (ie_and (ie_fnF (by exact ok_is_whole F hcf hx0 hT TB hD) (by rfl) (by exact hr.mono (by decide)) (by rfl) (by exact F.g "is_whole") kb_is_whole_0 (by exact tk_cx) (ak_cons (ia_cons (ie_idxB (by rfl) (by exact hu1 hr) (ie_v 0) ie_int) (ia_cons ie_int (ia_cons (ie_gint (by rfl) (by exact F.i "LAST_DAY" 59)) ia_nil))) ik_nil)) (ie_one (ie_fnF (by exact ok_is_whole F hcf hx0 hT TB hD) (by rfl) (by exact hr.mono (by decide)) (by rfl) (by exact F.g "is_whole") kb_is_whole_0 (by exact tk_cx) (ak_cons (ia_cons (ie_idxB (by rfl) (by exact hu1 hr) (ie_v 0) ie_int) (ia_cons ie_int (ia_cons (ie_gint (by rfl) (by exact F.i "MOST_SHARE" 1000000000000)) ia_nil))) ik_nil))))))))
theorem kb_is_spot_0 (fd : FuncData) (FD : FunD T.K d_is_spot.name d_is_spot.qual d_is_spot.params d_is_spot.body d_is_spot.scope (d_is_spot.dvs T.K) [] (He.fAd T.K d_is_spot.at_) fd) : KBD T fd ["thing"] 1 [] [(0, 0)] [] :=
  kbd_n FD fun kV doc pm an cdv ct us ws h1 h2 => match us, ws, h1, h2 with | [_], [], _, _ => rfl
theorem nd_need_spot : (["spot"] : List Str).Nodup := by decide +kernel
theorem sc_need_spot : FnScope ["spot"] ["spot"] d_need_spot.scope := ⟨rfl, rfl, rfl, nd_need_spot, rfl, by decide +kernel, by decide +kernel⟩
theorem ok_need_spot (F : Fx T mg lw) (hcf : T.cf = cf) (hx0 : T.xc = none) (hT : T.tabs = tabsOf T.K lw.tf) (TB : TabsB T.K mg base (lw.tf.map (·.1))) (hD : DictsK T.K w (dcsL.map (·.1))) : OkF T P w mg base 3 d_need_spot ["spot"] m_need_spot := by
  obtain ⟨fd, FD⟩ := F.defs 26 d_need_spot rfl
  refine OkF.mk' (N := ["spot"]) FD sc_need_spot fun cdv A outer s H E hr => ?_
  show ISs T E _ (defBody (top 36)) b_need_spot
  exact (is_one (is_if (ib_not (ib_val (ie_fnF (by exact ok_is_spot F hcf hx0 hT TB hD) (by rfl) (by exact hr.mono (by decide)) (by rfl) (by exact F.g "is_spot") kb_is_spot_0 (by exact tk_cx) (ak_cons (ia_cons (ie_v 0) ia_nil) ik_nil)))) (is_one is_bad) is_nil))
theorem kb_need_spot_0 (fd : FuncData) (FD : FunD T.K d_need_spot.name d_need_spot.qual d_need_spot.params d_need_spot.body d_need_spot.scope (d_need_spot.dvs T.K) [] (He.fAd T.K d_need_spot.at_) fd) : KBD T fd ["spot"] 1 [] [(0, 0)] [] :=
  kbd_n FD fun kV doc pm an cdv ct us ws h1 h2 => match us, ws, h1, h2 with | [_], [], _, _ => rfl
theorem nd_Rule_pays_of : (["self", "share"] : List Str).Nodup := by decide +kernel
theorem sc_Rule_pays_of : FnScope ["self", "share"] ["self", "share"] d_Rule_pays_of.scope := ⟨rfl, rfl, rfl, nd_Rule_pays_of, rfl, by decide +kernel, by decide +kernel⟩
theorem ok_Rule_pays_of (F : Fx T mg lw) (hcf : T.cf = cf) (hx0 : T.xc = none) (hT : T.tabs = tabsOf T.K lw.tf) (TB : TabsB T.K mg base (lw.tf.map (·.1))) (hD : DictsK T.K w (dcsL.map (·.1))) : OkF T P w mg base 1 d_Rule_pays_of ["self", "share"] m_Rule_pays_of := by
  obtain ⟨fd, FD⟩ := F.defs 27 d_Rule_pays_of rfl
  refine OkF.mk' (N := ["self", "share"]) FD sc_Rule_pays_of fun cdv A outer s H E hr => ?_
  show ISs T E _ (defBody (meth 39 6)) b_Rule_pays_of
  exact (is_cons (is_if (ib_cmp (oi_eqP (by rfl) (by exact hr.rm.units)) (ie_attr (by exact hcf) (by rfl) (by exact F.at' ["Rule"] "deed") (ie_v 0)) ie_str (by rfl)) (is_one (is_ret (ie_v 1))) is_nil)
  (is_cons (is_if (ib_cmp (oi_eqP (by rfl) (by exact hr.rm.units)) (ie_attr (by exact hcf) (by rfl) (by exact F.at' ["Rule"] "deed") (ie_v 0)) ie_str (by rfl)) (is_one (is_ret (ie_b (by exact call_min2 rfl) bo_min2 (by rfl) (by exact F.f "min") (by decide +kernel) (ia_cons (ie_v 1) (ia_cons (ie_attr (by exact hcf) (by rfl) (by exact F.at' ["Rule"] "bound") (ie_v 0)) ia_nil))))) is_nil)
  (is_cons (is_if (ib_cmp (oi_eqP (by rfl) (by exact hr.rm.units)) (ie_attr (by exact hcf) (by rfl) (by exact F.at' ["Rule"] "deed") (ie_v 0)) ie_str (by rfl)) (is_one (is_ret (ie_op (oi_mul) (ie_v 1) (ie_attr (by exact hcf) (by rfl) (by exact F.at' ["Rule"] "bound") (ie_v 0))))) is_nil)
  (is_cons (is_if (ib_cmp (oi_eqP (by rfl) (by exact hr.rm.units)) (ie_attr (by exact hcf) (by rfl) (by exact F.at' ["Rule"] "deed") (ie_v 0)) ie_str (by rfl)) (is_one (is_ret (ie_op (oi_fdiv) (ie_op (oi_mul) (ie_v 1) (ie_attr (by exact hcf) (by rfl) (by exact F.at' ["Rule"] "bound") (ie_v 0))) ie_int))) is_nil)
  (is_one (is_ret ie_int))))))
theorem kb_Rule_pays_of_0 (fd : FuncData) (FD : FunD T.K d_Rule_pays_of.name d_Rule_pays_of.qual d_Rule_pays_of.params d_Rule_pays_of.body d_Rule_pays_of.scope (d_Rule_pays_of.dvs T.K) [] (He.fAd T.K d_Rule_pays_of.at_) fd) : KBD T fd ["self", "share"] 2 [] [(0, 0), (0, 1)] [] :=
  kbd_n FD fun kV doc pm an cdv ct us ws h1 h2 => match us, ws, h1, h2 with | [_, _], [], _, _ => rfl
theorem nd_paid_by : (["rules", "spot", "place"] : List Str).Nodup := by decide +kernel
theorem sc_paid_by : FnScope ["rules", "spot", "place"] ["rules", "spot"] d_paid_by.scope := ⟨rfl, rfl, rfl, nd_paid_by, rfl, by decide +kernel, by decide +kernel⟩
theorem ok_paid_by (F : Fx T mg lw) (hcf : T.cf = cf) (hx0 : T.xc = none) (hT : T.tabs = tabsOf T.K lw.tf) (TB : TabsB T.K mg base (lw.tf.map (·.1))) (hD : DictsK T.K w (dcsL.map (·.1))) : OkF T P w mg base 3 d_paid_by ["rules", "spot"] m_paid_by := by
  obtain ⟨fd, FD⟩ := F.defs 28 d_paid_by rfl
  refine OkF.mk' (N := ["rules", "spot", "place"]) FD sc_paid_by fun cdv A outer s H E hr => ?_
  show ISs T E _ (defBody (top 43)) b_paid_by
  exact (is_cons (is_st 2 nd_paid_by (ie_fnF (by exact ok_first_met F hcf hx0 hT TB hD) (by rfl) (by exact hr.mono (by decide)) (by rfl) (by exact F.g "first_met") kb_first_met_0 (by exact tk_cx) (ak_cons (ia_cons (ie_v 0) (ia_cons (ie_v 1) ia_nil)) ik_nil)))
  (is_cons (is_if (ib_cmp (oi_is) (ie_v 2) ie_non (by rfl)) (is_one (is_ret (ie_tup (ia_cons ie_int (ia_cons ie_non ia_nil))))) is_nil)
  (is_one (is_ret (ie_tup (ia_cons (ie_methF (cn := "Rule") (mn := "pays_of") (n := 1) (by exact hcf) (by exact ok_Rule_pays_of F hcf hx0 hT TB hD) (by rfl) (by exact hr.mono (by decide)) (by exact F.c "Rule") (by exact F.m "Rule" "pays_of") kb_Rule_pays_of_0 (by exact tk_cx) (ie_idxB (by rfl) (by exact hu1 hr) (ie_v 0) (ie_v 2)) (ak_cons (ia_cons (ie_idxB (by rfl) (by exact hu1 hr) (ie_v 1) ie_int) ia_nil) ik_nil) rfl) (ia_cons (ie_attr (by exact hcf) (by rfl) (by exact F.at' ["Rule"] "name") (ie_idxB (by rfl) (by exact hu1 hr) (ie_v 0) (ie_v 2))) ia_nil)))))))
theorem kb_paid_by_0 (fd : FuncData) (FD : FunD T.K d_paid_by.name d_paid_by.qual d_paid_by.params d_paid_by.body d_paid_by.scope (d_paid_by.dvs T.K) [] (He.fAd T.K d_paid_by.at_) fd) : KBD T fd ["rules", "spot"] 2 [] [(0, 0), (0, 1)] [] :=
  kbd_n FD fun kV doc pm an cdv ct us ws h1 h2 => match us, ws, h1, h2 with | [_, _], [], _, _ => rfl
theorem nd_Rulebook_paid_of : (["self", "spot"] : List Str).Nodup := by decide +kernel
theorem sc_Rulebook_paid_of : FnScope ["self", "spot"] ["self", "spot"] d_Rulebook_paid_of.scope := ⟨rfl, rfl, rfl, nd_Rulebook_paid_of, rfl, by decide +kernel, by decide +kernel⟩
theorem ok_Rulebook_paid_of (F : Fx T mg lw) (hcf : T.cf = cf) (hx0 : T.xc = none) (hT : T.tabs = tabsOf T.K lw.tf) (TB : TabsB T.K mg base (lw.tf.map (·.1))) (hD : DictsK T.K w (dcsL.map (·.1))) : OkF T P w mg base 4 d_Rulebook_paid_of ["self", "spot"] m_Rulebook_paid_of := by
  obtain ⟨fd, FD⟩ := F.defs 29 d_Rulebook_paid_of rfl
  refine OkF.mk' (N := ["self", "spot"]) FD sc_Rulebook_paid_of fun cdv A outer s H E hr => ?_
  show ISs T E _ (defBody (meth 45 9)) b_Rulebook_paid_of
  exact (is_cons (is_expr (ie_fnF (by exact ok_need_spot F hcf hx0 hT TB hD) (by rfl) (by exact hr.mono (by decide)) (by rfl) (by exact F.g "need_spot") kb_need_spot_0 (by exact tk_cx) (ak_cons (ia_cons (ie_v 1) ia_nil) ik_nil)))
  (is_one (is_ret (ie_fnF (by exact ok_paid_by F hcf hx0 hT TB hD) (by rfl) (by exact hr.mono (by decide)) (by rfl) (by exact F.g "paid_by") kb_paid_by_0 (by exact tk_cx) (ak_cons (ia_cons (ie_attr (by exact hcf) (by rfl) (by exact F.at' ["Rulebook"] "own_rules") (ie_v 0)) (ia_cons (ie_v 1) ia_nil)) ik_nil)))))
theorem kb_Rulebook_paid_of_0 (fd : FuncData) (FD : FunD T.K d_Rulebook_paid_of.name d_Rulebook_paid_of.qual d_Rulebook_paid_of.params d_Rulebook_paid_of.body d_Rulebook_paid_of.scope (d_Rulebook_paid_of.dvs T.K) [] (He.fAd T.K d_Rulebook_paid_of.at_) fd) : KBD T fd ["self", "spot"] 2 [] [(0, 0), (0, 1)] [] :=
  kbd_n FD fun kV doc pm an cdv ct us ws h1 h2 => match us, ws, h1, h2 with | [_, _], [], _, _ => rfl
theorem nd__law_right : (["_law_book", "_law_rows", "_law_fit", "_law_limit", "_law_due", "_law_found"] : List Str).Nodup := by decide +kernel
theorem sc__law_right : FnScope ["_law_book", "_law_rows", "_law_fit", "_law_limit", "_law_due", "_law_found"] ["_law_book", "_law_rows", "_law_fit", "_law_limit"] d__law_right.scope := ⟨rfl, rfl, rfl, nd__law_right, rfl, by decide +kernel, by decide +kernel⟩
theorem ok__law_right (F : Fx T mg lw) (hcf : T.cf = cf) (hx0 : T.xc = none) (hT : T.tabs = tabsOf T.K lw.tf) (TB : TabsB T.K mg base (lw.tf.map (·.1))) (hD : DictsK T.K w (dcsL.map (·.1))) : OkF T P w mg base 5 d__law_right ["_law_book", "_law_rows", "_law_fit", "_law_limit"] m__law_right := by
  obtain ⟨fd, FD⟩ := F.defs 30 d__law_right rfl
  refine OkF.mk' (N := ["_law_book", "_law_rows", "_law_fit", "_law_limit", "_law_due", "_law_found"]) FD sc__law_right fun cdv A outer s H E hr => ?_
  show ISs T E _ (defBody (top 63)) b__law_right
  exact (is_cons (is_st 4 nd__law_right (ie_fnF (by exact ok__law_room F hcf hx0 hT TB hD) (by rfl) (by exact hr.mono (by decide)) (by rfl) (by exact F.g "_law_room") kb__law_room_0 (by exact tk_cx) (ak_cons (ia_cons (ie_v 1) (ia_cons (ie_v 2) (ia_cons (ie_v 3) ia_nil))) ik_nil)))
  (is_cons (is_st 5 nd__law_right (ie_lstM (ia_cons (ie_methF (cn := "Rulebook") (mn := "room") (n := 5) (by exact hcf) (by exact ok_Rulebook_room F hcf hx0 hT TB hD) (by rfl) (by exact hr.mono (by decide)) (by exact F.c "Rulebook") (by exact F.m "Rulebook" "room") kb_Rulebook_room_0 (by exact tk_cx) (ie_v 0) (ak_cons (ia_cons (ie_idxB (by rfl) (by exact hu1 hr) (ie_v 2) ie_int) (ia_cons (ie_idxB (by rfl) (by exact hu1 hr) (ie_v 2) ie_int) (ia_cons (ie_idxB (by rfl) (by exact hu1 hr) (ie_v 2) ie_int) (ia_cons (ie_idxB (by rfl) (by exact hu1 hr) (ie_v 2) ie_int) (ia_cons (ie_v 3) ia_nil))))) ik_nil) rfl) ia_nil)))
  (is_cons (is_expr (ie_app (by rfl) (ie_v 5) (ie_methF (cn := "Rulebook") (mn := "room") (n := 0) (by exact hcf) (by exact ok_Rulebook_room F hcf hx0 hT TB hD) (by rfl) (by exact hr.mono (by decide)) (by exact F.c "Rulebook") (by exact F.m "Rulebook" "room") kb_Rulebook_room_1 (by exact tk_cx) (ie_v 0) (ak_nil (ik_cons (ie_idxB (by rfl) (by exact hu1 hr) (ie_v 2) ie_int) (ik_cons (ie_idxB (by rfl) (by exact hu1 hr) (ie_v 2) ie_int) (ik_cons (ie_idxB (by rfl) (by exact hu1 hr) (ie_v 2) ie_int) (ik_cons (ie_v 3) (ik_cons (ie_idxB (by rfl) (by exact hu1 hr) (ie_v 2) ie_int) ik_nil)))))) rfl)))
  (is_cons (is_if (ib_cmp (oi_neP (by rfl) (by exact hr.rm.units)) (ie_bS (by exact call_reprX rfl hr.gd hr.rm.units) bo_reprS (by rfl) (by exact F.f "repr") (by decide +kernel) (ia_cons (ie_v 5) ia_nil)) (ie_b (by exact call_reprX rfl hr.gd hr.rm.units) bo_reprX (by rfl) (by exact F.f "repr") (by decide +kernel) (ia_cons (ie_lst (ia_cons (ie_v 4) (ia_cons (ie_v 4) ia_nil))) ia_nil)) (by rfl)) (is_one (is_ret ie_bl)) is_nil)
  (is_one (is_ret (ie_or (ie_cmp (oi_is) (ie_v 4) ie_non (by rfl)) (ie_one (ie_cmp (oi_eqP (by rfl) (by exact hr.rm.units)) (ie_idxB (by rfl) (by exact hu1 hr) (ie_methF (cn := "Rulebook") (mn := "paid_of") (n := 1) (by exact hcf) (by exact ok_Rulebook_paid_of F hcf hx0 hT TB hD) (by rfl) (by exact hr.mono (by decide)) (by exact F.c "Rulebook") (by exact F.m "Rulebook" "paid_of") kb_Rulebook_paid_of_0 (by exact tk_cx) (ie_v 0) (ak_cons (ia_cons (ie_op (oi_add (by rfl)) (ie_cut (by rfl) (ie_v 2) io_none (io_some ie_int)) (ie_tup (ia_cons (ie_v 4) ia_nil))) ia_nil) ik_nil) rfl) ie_int) (ie_v 4) (by rfl))))))))))
theorem kb__law_right_0 (fd : FuncData) (FD : FunD T.K d__law_right.name d__law_right.qual d__law_right.params d__law_right.body d__law_right.scope (d__law_right.dvs T.K) [] (He.fAd T.K d__law_right.at_) fd) : KBD T fd ["_law_book", "_law_rows", "_law_fit", "_law_limit"] 4 [] [(0, 0), (0, 1), (0, 2), (0, 3)] [] :=
  kbd_n FD fun kV doc pm an cdv ct us ws h1 h2 => match us, ws, h1, h2 with | [_, _, _, _], [], _, _ => rfl
theorem nd__law_family : (["_law_e", "_law_some"] : List Str).Nodup := by decide +kernel
theorem sc__law_family : FnScope ["_law_e", "_law_some"] ["_law_e"] d__law_family.scope := ⟨rfl, rfl, rfl, nd__law_family, rfl, by decide +kernel, by decide +kernel⟩
theorem bi__law_family (fd : FuncData) (FD : FunD T.K d__law_family.name d__law_family.qual d__law_family.params d__law_family.body d__law_family.scope (d__law_family.dvs T.K) [] (He.fAd T.K d__law_family.at_) fd) : L2.Binds T.K fd ["_law_e"] [] := FunD.bindsN FD fun _ _ _ _ _ _ us hl => match us, hl with | [_], _ => rfl
theorem ok__law_family (F : Fx T mg lw) (hcf : T.cf = cf) (cn : String) (hcn : cn ∈ cnsL) : OkP T P w mg base 1 d__law_family ["_law_e"] cn (m__law_family cn) := by
  obtain ⟨fd, FD⟩ := F.defs 31 d__law_family rfl
  refine OkP.mk' (N := ["_law_e", "_law_some"]) FD sc__law_family fun cdv A outer s H p z hx hz hr => ?_
  show ISs (T.at (some z)) E00 _ (defBody (top 50)) (b__law_family cn)
  exact (is_cons (is_st 1 nd__law_family (ie_lst (ia_cons (ie_isX (Tt := .o "NoRates") (by exact List.mem_singleton.mpr rfl) hx (by rfl) (by rw [hz]; exact xkX F cn hcn) (by rw [hz]; exact kxX F cn hcn (.o "NoRates")) (by rfl) (by exact F.f "isinstance") (ie_v 0) (isTy_o (by rfl) (by exact F.g "NoRates"))) (ia_cons (ie_isX (Tt := .o "NoSpot") (by exact List.mem_singleton.mpr rfl) hx (by rfl) (by rw [hz]; exact xkX F cn hcn) (by rw [hz]; exact kxX F cn hcn (.o "NoSpot")) (by rfl) (by exact F.f "isinstance") (ie_v 0) (isTy_o (by rfl) (by exact F.g "NoSpot"))) (ia_cons (ie_isX (Tt := .o "NoShare") (by exact List.mem_singleton.mpr rfl) hx (by rfl) (by rw [hz]; exact xkX F cn hcn) (by rw [hz]; exact kxX F cn hcn (.o "NoShare")) (by rfl) (by exact F.f "isinstance") (ie_v 0) (isTy_o (by rfl) (by exact F.g "NoShare"))) (ia_cons (ie_isX (Tt := .o "NoBook") (by exact List.mem_singleton.mpr rfl) hx (by rfl) (by rw [hz]; exact xkX F cn hcn) (by rw [hz]; exact kxX F cn hcn (.o "NoBook")) (by rfl) (by exact F.f "isinstance") (ie_v 0) (isTy_o (by rfl) (by exact F.g "NoBook"))) ia_nil))))))
  (is_cons (is_st 1 nd__law_family (ie_op (oi_add (by rfl)) (ie_v 1) (ie_lst (ia_cons (ie_isX (Tt := .o "NoPlace") (by exact List.mem_singleton.mpr rfl) hx (by rfl) (by rw [hz]; exact xkX F cn hcn) (by rw [hz]; exact kxX F cn hcn (.o "NoPlace")) (by rfl) (by exact F.f "isinstance") (ie_v 0) (isTy_o (by rfl) (by exact F.g "NoPlace"))) (ia_cons (ie_isX (Tt := .o "Absent") (by exact List.mem_singleton.mpr rfl) hx (by rfl) (by rw [hz]; exact xkX F cn hcn) (by rw [hz]; exact kxX F cn hcn (.o "Absent")) (by rfl) (by exact F.f "isinstance") (ie_v 0) (isTy_o (by rfl) (by exact F.g "Absent"))) (ia_cons (ie_isX (Tt := .o "Nothing") (by exact List.mem_singleton.mpr rfl) hx (by rfl) (by rw [hz]; exact xkX F cn hcn) (by rw [hz]; exact kxX F cn hcn (.o "Nothing")) (by rfl) (by exact F.f "isinstance") (ie_v 0) (isTy_o (by rfl) (by exact F.g "Nothing"))) (ia_cons (ie_isX (Tt := .o "NoTable") (by exact List.mem_singleton.mpr rfl) hx (by rfl) (by rw [hz]; exact xkX F cn hcn) (by rw [hz]; exact kxX F cn hcn (.o "NoTable")) (by rfl) (by exact F.f "isinstance") (ie_v 0) (isTy_o (by rfl) (by exact F.g "NoTable"))) ia_nil)))))))
  (is_cons (is_st 1 nd__law_family (ie_op (oi_add (by rfl)) (ie_v 1) (ie_lst (ia_cons (ie_isX (Tt := .o "NoLine") (by exact List.mem_singleton.mpr rfl) hx (by rfl) (by rw [hz]; exact xkX F cn hcn) (by rw [hz]; exact kxX F cn hcn (.o "NoLine")) (by rfl) (by exact F.f "isinstance") (ie_v 0) (isTy_o (by rfl) (by exact F.g "NoLine"))) (ia_cons (ie_isX (Tt := .o "NoSpending") (by exact List.mem_singleton.mpr rfl) hx (by rfl) (by rw [hz]; exact xkX F cn hcn) (by rw [hz]; exact kxX F cn hcn (.o "NoSpending")) (by rfl) (by exact F.f "isinstance") (ie_v 0) (isTy_o (by rfl) (by exact F.g "NoSpending"))) (ia_cons (ie_isX (Tt := .o "NoRule") (by exact List.mem_singleton.mpr rfl) hx (by rfl) (by rw [hz]; exact xkX F cn hcn) (by rw [hz]; exact kxX F cn hcn (.o "NoRule")) (by rfl) (by exact F.f "isinstance") (ie_v 0) (isTy_o (by rfl) (by exact F.g "NoRule"))) (ia_cons (ie_isX (Tt := .o "NoJourney") (by exact List.mem_singleton.mpr rfl) hx (by rfl) (by rw [hz]; exact xkX F cn hcn) (by rw [hz]; exact kxX F cn hcn (.o "NoJourney")) (by rfl) (by exact F.f "isinstance") (ie_v 0) (isTy_o (by rfl) (by exact F.g "NoJourney"))) ia_nil)))))))
  (is_cons (is_st 1 nd__law_family (ie_op (oi_add (by rfl)) (ie_v 1) (ie_lst (ia_cons (ie_isX (Tt := .o "NoText") (by exact List.mem_singleton.mpr rfl) hx (by rfl) (by rw [hz]; exact xkX F cn hcn) (by rw [hz]; exact kxX F cn hcn (.o "NoText")) (by rfl) (by exact F.f "isinstance") (ie_v 0) (isTy_o (by rfl) (by exact F.g "NoText"))) (ia_cons (ie_isX (Tt := .o "TooMany") (by exact List.mem_singleton.mpr rfl) hx (by rfl) (by rw [hz]; exact xkX F cn hcn) (by rw [hz]; exact kxX F cn hcn (.o "TooMany")) (by rfl) (by exact F.f "isinstance") (ie_v 0) (isTy_o (by rfl) (by exact F.g "TooMany"))) (ia_cons (ie_isX (Tt := .o "NoRate") (by exact List.mem_singleton.mpr rfl) hx (by rfl) (by rw [hz]; exact xkX F cn hcn) (by rw [hz]; exact kxX F cn hcn (.o "NoRate")) (by rfl) (by exact F.f "isinstance") (ie_v 0) (isTy_o (by rfl) (by exact F.g "NoRate"))) (ia_cons (ie_isX (Tt := .o "NoDay") (by exact List.mem_singleton.mpr rfl) hx (by rfl) (by rw [hz]; exact xkX F cn hcn) (by rw [hz]; exact kxX F cn hcn (.o "NoDay")) (by rfl) (by exact F.f "isinstance") (ie_v 0) (isTy_o (by rfl) (by exact F.g "NoDay"))) ia_nil)))))))
  (is_one (is_ret (ie_op (oi_add (by rfl)) (ie_v 1) (ie_lst (ia_cons (ie_isX (Tt := .o "NoName") (by exact List.mem_singleton.mpr rfl) hx (by rfl) (by rw [hz]; exact xkX F cn hcn) (by rw [hz]; exact kxX F cn hcn (.o "NoName")) (by rfl) (by exact F.f "isinstance") (ie_v 0) (isTy_o (by rfl) (by exact F.g "NoName"))) (ia_cons (ie_isX (Tt := .o "NoHeads") (by exact List.mem_singleton.mpr rfl) hx (by rfl) (by rw [hz]; exact xkX F cn hcn) (by rw [hz]; exact kxX F cn hcn (.o "NoHeads")) (by rfl) (by exact F.f "isinstance") (ie_v 0) (isTy_o (by rfl) (by exact F.g "NoHeads"))) ia_nil))))))))))
theorem nd__law_word : (["_law_e", "_law_some", "_law_words", "_law_at", "_law_kinds", "_law_due"] : List Str).Nodup := by decide +kernel
theorem sc__law_word : FnScope ["_law_e", "_law_some", "_law_words", "_law_at", "_law_kinds", "_law_due"] ["_law_e"] d__law_word.scope := ⟨rfl, rfl, rfl, nd__law_word, rfl, by decide +kernel, by decide +kernel⟩
theorem bi__law_word (fd : FuncData) (FD : FunD T.K d__law_word.name d__law_word.qual d__law_word.params d__law_word.body d__law_word.scope (d__law_word.dvs T.K) [] (He.fAd T.K d__law_word.at_) fd) : L2.Binds T.K fd ["_law_e"] [] := FunD.bindsN FD fun _ _ _ _ _ _ us hl => match us, hl with | [_], _ => rfl
theorem ok__law_word (F : Fx T mg lw) (hcf : T.cf = cf) (cn : String) (hcn : cn ∈ cnsL) : OkP T P w mg base 2 d__law_word ["_law_e"] cn (m__law_word cn) := by
  obtain ⟨fd, FD⟩ := F.defs 32 d__law_word rfl
  refine OkP.mk' (N := ["_law_e", "_law_some", "_law_words", "_law_at", "_law_kinds", "_law_due"]) FD sc__law_word fun cdv A outer s H p z hx hz hr => ?_
  show ISs (T.at (some z)) E00 _ (defBody (top 51)) (b__law_word cn)
  exact (is_cons (is_st 1 nd__law_word (ie_fnP (by exact List.mem_singleton.mpr rfl) hx hz (ok__law_family F hcf cn hcn) (by rfl) (by exact hr.mono (by decide)) (by rfl) (by exact F.g "_law_family") bi__law_family (by exact tk_no) (ie_v 0)))
  (is_cons (is_st 2 nd__law_word (ie_lst (ia_cons ie_str (ia_cons ie_str (ia_cons ie_str (ia_cons ie_str (ia_cons ie_str (ia_cons ie_str (ia_cons ie_str (ia_cons ie_str (ia_cons ie_str (ia_cons ie_str (ia_cons ie_str ia_nil)))))))))))))
  (is_cons (is_st 2 nd__law_word (ie_op (oi_add (by rfl)) (ie_v 2) (ie_lst (ia_cons ie_str (ia_cons ie_str (ia_cons ie_str (ia_cons ie_str (ia_cons ie_str (ia_cons ie_str (ia_cons ie_str ia_nil))))))))))
  (is_cons (is_if (ib_cmp (oi_neP (by rfl) (by exact hr.hu)) (ie_count (by rfl) (by exact hr.hu65) (ie_v 1) ie_bl) ie_int (by rfl)) (is_one (is_ret ie_str)) is_nil)
  (is_cons (is_st 3 nd__law_word (ie_index (by rfl) (by exact hr.hu65) (ie_v 1) ie_bl))
  (is_cons (is_st 4 nd__law_word (ie_lst (ia_cons (ie_isX (Tt := .o "PenceError") (by exact List.mem_singleton.mpr rfl) hx (by rfl) (by rw [hz]; exact xkX F cn hcn) (by rw [hz]; exact kxX F cn hcn (.o "PenceError")) (by rfl) (by exact F.f "isinstance") (ie_v 0) (isTy_o (by rfl) (by exact F.g "PenceError"))) (ia_cons (ie_isX (Tt := .b "ValueError") (by exact List.mem_singleton.mpr rfl) hx (by rfl) (by rw [hz]; exact xkX F cn hcn) (by rw [hz]; exact kxX F cn hcn (.b "ValueError")) (by rfl) (by exact F.f "isinstance") (ie_v 0) (isTy_b (by rfl) (by exact F.f "ValueError") (by decide +kernel))) (ia_cons (ie_isX (Tt := .b "KeyError") (by exact List.mem_singleton.mpr rfl) hx (by rfl) (by rw [hz]; exact xkX F cn hcn) (by rw [hz]; exact kxX F cn hcn (.b "KeyError")) (by rfl) (by exact F.f "isinstance") (ie_v 0) (isTy_b (by rfl) (by exact F.f "KeyError") (by decide +kernel))) ia_nil)))))
  (is_cons (is_st 4 nd__law_word (ie_op (oi_add (by rfl)) (ie_v 4) (ie_lst (ia_cons (ie_isX (Tt := .b "IndexError") (by exact List.mem_singleton.mpr rfl) hx (by rfl) (by rw [hz]; exact xkX F cn hcn) (by rw [hz]; exact kxX F cn hcn (.b "IndexError")) (by rfl) (by exact F.f "isinstance") (ie_v 0) (isTy_b (by rfl) (by exact F.f "IndexError") (by decide +kernel))) (ia_cons (ie_isX (Tt := .b "LookupError") (by exact List.mem_singleton.mpr rfl) hx (by rfl) (by rw [hz]; exact xkX F cn hcn) (by rw [hz]; exact kxX F cn hcn (.b "LookupError")) (by rfl) (by exact F.f "isinstance") (ie_v 0) (isTy_b (by rfl) (by exact F.f "LookupError") (by decide +kernel))) (ia_cons (ie_isX (Tt := .b "ZeroDivisionError") (by exact List.mem_singleton.mpr rfl) hx (by rfl) (by rw [hz]; exact xkX F cn hcn) (by rw [hz]; exact kxX F cn hcn (.b "ZeroDivisionError")) (by rfl) (by exact F.f "isinstance") (ie_v 0) (isTy_b (by rfl) (by exact F.f "ZeroDivisionError") (by decide +kernel))) ia_nil))))))
  (is_cons (is_st 5 nd__law_word (ie_lst (ia_cons ie_bl (ia_cons ie_bl (ia_cons ie_bl (ia_cons ie_bl (ia_cons ie_bl (ia_cons ie_bl ia_nil))))))))
  (is_cons (is_if (ib_cmp (oi_gt) (ie_v 3) ie_int (by rfl)) (is_one (is_st 5 nd__law_word (ie_lst (ia_cons ie_bl (ia_cons ie_bl (ia_cons (ie_cmp (oi_eqP (by rfl) (by exact hr.hu)) (ie_v 3) ie_int (by rfl)) (ia_cons (ie_cmp (oi_eqP (by rfl) (by exact hr.hu)) (ie_v 3) ie_int (by rfl)) (ia_cons (ie_cmp (oi_ltA (by rfl) (by exact hr.hu0)) (ie_v 3) ie_int (by rfl)) (ia_cons (ie_cmp (oi_eqP (by rfl) (by exact hr.hu)) (ie_v 3) ie_int (by rfl)) ia_nil))))))))) is_nil)
  (is_one (is_ret (ie_if (ib_cmp (oi_eqP (by rfl) (by exact hr.hu)) (ie_v 4) (ie_v 5) (by rfl)) (ie_idxB (by rfl) (by exact hr.hu1) (ie_v 2) (ie_v 3)) ie_str))))))))))))
theorem nd__law_said : (["_law_call", "_law_e", "_law_word_here"] : List Str).Nodup := by decide +kernel
theorem sc__law_said : FnScope ["_law_call", "_law_e", "_law_word_here"] ["_law_call"] d__law_said.scope := ⟨rfl, rfl, rfl, nd__law_said, rfl, by decide +kernel, by decide +kernel⟩
theorem bi__law_said (fd : FuncData) (FD : FunD T.K d__law_said.name d__law_said.qual d__law_said.params d__law_said.body d__law_said.scope (d__law_said.dvs T.K) [] (He.fAd T.K d__law_said.at_) fd) : L2.Binds T.K fd ["_law_call"] [] := FunD.bindsN FD fun _ _ _ _ _ _ us hl => match us, hl with | [_], _ => rfl
def hdsX : List ExceptHandler := match defBody (top 52) with | [.Try _ h _ _ _] => h | _ => []
theorem hda (F : Fx T mg lw) (hcf : T.cf = cf) (cdv : Value) (A : Around) (outer : List PySem.Env) (s : Shared) (H : Hp) (hr0 : RG 2 (A.deeper (envOfC d__law_said.qual d__law_said.scope s.heap.objs.size (He.fAd T.K d__law_said.at_) cdv))) :
    HdA (cxOf (L2.CX P w) P w T.K mg base ["_law_call", "_law_e", "_law_word_here"] d__law_said.qual d__law_said.scope (He.fAd T.K d__law_said.at_) cdv A outer s H E00) "_law_e" hdsX (clsL T cnsL (clX T)) :=
  (HdA.cons (names_of (c := "PenceError") (by rfl) (by exact F.g "PenceError")) (fun a oe cls d pn hz hf => suite_of hz hf fun cn hcn z p hx hz => by
    have hr := hr0.mark (some (.ref z.a))
    exact (is_cons (is_st 2 nd__law_said (ie_fnP (by exact List.mem_cons_self) hx hz (ok__law_word F hcf cn hcn) (by rfl) (by exact hr.mono (by decide)) (by rfl) (by exact F.g "_law_word") bi__law_word (by exact tk_no) (ie_v 1)))
  (is_cons (is_if (ib_cmp (oi_in (by rfl) (by exact hr.hu)) (ie_v 2) (ie_lst (ia_cons ie_str (ia_cons ie_str (ia_cons ie_str ia_nil)))) (by rfl)) (is_one (is_ret (ie_tup (ia_cons (ie_v 2) (ia_cons (ie_xf (fn := "part") hx hz hcf (by rfl) (xfX F cn hcn "part") (ie_v 1)) ia_nil))))) is_nil)
  (is_cons (is_if (ib_cmp (oi_eqP (by rfl) (by exact hr.hu)) (ie_v 2) ie_str (by rfl)) (is_one (is_ret (ie_tup (ia_cons (ie_v 2) (ia_cons (ie_xf (fn := "row") hx hz hcf (by rfl) (xfX F cn hcn "row") (ie_v 1)) ia_nil))))) is_nil)
  (is_one (is_ret (ie_if (ib_cmp (oi_eqP (by rfl) (by exact hr.hu)) (ie_v 2) ie_str (by rfl)) (ie_tup (ia_cons (ie_v 2) (ia_cons (ie_xf (fn := "many") hx hz hcf (by rfl) (xfX F cn hcn "many") (ie_v 1)) (ia_cons (ie_xf (fn := "most") hx hz hcf (by rfl) (xfX F cn hcn "most") (ie_v 1)) ia_nil)))) (ie_tup (ia_cons (ie_v 2) ia_nil))))))))) (HdA.cons (names_of (c := "NoHeads") (by rfl) (by exact F.g "NoHeads")) (fun a oe cls d pn hz hf => suite_of hz hf fun cn hcn z p hx hz => by
    have hr := hr0.mark (some (.ref z.a))
    exact (is_one (is_ret (ie_tup (ia_cons (ie_fnP (by exact List.mem_cons_self) hx hz (ok__law_word F hcf cn hcn) (by rfl) (by exact hr.mono (by decide)) (by rfl) (by exact F.g "_law_word") bi__law_word (by exact tk_no) (ie_v 1)) (ia_cons (ie_xf (fn := "heads") hx hz hcf (by rfl) (xfX F cn hcn "heads") (ie_v 1)) ia_nil)))))) (HdA.cons (names_of (c := "NoName") (by rfl) (by exact F.g "NoName")) (fun a oe cls d pn hz hf => suite_of hz hf fun cn hcn z p hx hz => by
    have hr := hr0.mark (some (.ref z.a))
    exact (is_one (is_ret (ie_tup (ia_cons (ie_fnP (by exact List.mem_cons_self) hx hz (ok__law_word F hcf cn hcn) (by rfl) (by exact hr.mono (by decide)) (by rfl) (by exact F.g "_law_word") bi__law_word (by exact tk_no) (ie_v 1)) (ia_cons (ie_xf (fn := "name") hx hz hcf (by rfl) (xfX F cn hcn "name") (ie_v 1)) ia_nil)))))) (HdA.cons (names_of (c := "NoDay") (by rfl) (by exact F.g "NoDay")) (fun a oe cls d pn hz hf => suite_of hz hf fun cn hcn z p hx hz => by
    have hr := hr0.mark (some (.ref z.a))
    exact (is_one (is_ret (ie_tup (ia_cons (ie_fnP (by exact List.mem_cons_self) hx hz (ok__law_word F hcf cn hcn) (by rfl) (by exact hr.mono (by decide)) (by rfl) (by exact F.g "_law_word") bi__law_word (by exact tk_no) (ie_v 1)) (ia_cons (ie_xf (fn := "day") hx hz hcf (by rfl) (xfX F cn hcn "day") (ie_v 1)) ia_nil)))))) (HdA.cons (names_of (c := "NoRate") (by rfl) (by exact F.g "NoRate")) (fun a oe cls d pn hz hf => suite_of hz hf fun cn hcn z p hx hz => by
    have hr := hr0.mark (some (.ref z.a))
    exact (is_one (is_ret (ie_tup (ia_cons (ie_fnP (by exact List.mem_cons_self) hx hz (ok__law_word F hcf cn hcn) (by rfl) (by exact hr.mono (by decide)) (by rfl) (by exact F.g "_law_word") bi__law_word (by exact tk_no) (ie_v 1)) (ia_cons (ie_xf (fn := "money") hx hz hcf (by rfl) (xfX F cn hcn "money") (ie_v 1)) (ia_cons (ie_xf (fn := "day") hx hz hcf (by rfl) (xfX F cn hcn "day") (ie_v 1)) ia_nil))))))) HdA.nil)))))
theorem pk_NoShare (F : Fx T mg lw) : pickF T.K (.ref (He.ga T.K ("NoShare" : PySem.Str))) (clX T) = some sx_0 := by
  have e0 := He.exm_ok (x := "NoShare") (y := "PenceError") (b := true) (F.fa 1)
  simp only [clX, pickF, e0]
theorem pl_NoShare (fs : List D) (r : D) (S : Store) (h : refL cnsL "NoShare" fs = some r) : sx_0 "NoShare" ((List.replicate 3 none).set 1 (some (.thk 0 fs))) S = .ok (.rt r) S := by
  match fs, h with
  | [], h => cases h; kernel_rfl
  | _ :: _, h => exact absurd h (by simp [refL, refD])
theorem hpkX (F : Fx T mg lw) : ∀ cn ∈ cnsL, ∃ sx, pickF T.K (.ref (He.ga T.K (cn : PySem.Str))) (clX T) = some sx ∧ ∀ fs r S, refL cnsL cn fs = some r → sx cn ((List.replicate 3 none).set 1 (some (.thk 0 fs))) S = .ok (.rt r) S := by
  intro cn hcn
  simp only [cnsL, List.mem_cons, List.not_mem_nil, or_false] at hcn
  rcases hcn with rfl
  · exact ⟨_, pk_NoShare F, pl_NoShare⟩
theorem ie_sd {E : XK} {q : He.Defn} {qs : String} {k : Nat} {m : EX} {N0 : List Str} {q0 : Str} {sc0 : Scope} {ad0 : Addr} {cdv0 : Value} {A0 : Around} {outer0 : List PySem.Env} {s0 : Shared} {H0 : Hp} {E0 : XK} {p lpos pos : Pos} {params : Arguments} {body : Expr} {scope : Scope}
    (F : Fx T mg lw) (hcf : T.cf = cf) (hx0 : T.xc = none) (hT : T.tabs = tabsOf T.K lw.tf) (TB : TabsB T.K mg base (lw.tf.map (·.1))) (hq : (q, qs) ∈ lw.tf) (hqs : q0 ++ (".<locals>." : PySem.Str) = (qs : PySem.Str)) (hkw : 2 ≤ k + 1)
    (hcd : cdv0 = .ref (He.codeOf T.K q)) (hr : RG (k + 2) (cxOf (L2.CX P w) P w T.K mg base N0 q0 sc0 ad0 cdv0 A0 outer0 s0 H0 E0).A) (hg : Gl (cxOf (L2.CX P w) P w T.K mg base N0 q0 sc0 ad0 cdv0 A0 outer0 s0 H0 E0) "_law_said") (L : LamS sc0 scope) (hdef : defaultsOf params (envOfC q0 sc0 s0.heap.objs.size ad0 cdv0) = ([], []))
    (hbind : ∀ (q : Str) (cl : List (Str × Addr)) (pm cv ctv : Value), bindArgs (PySem.W.kla_fn "<lambda>" q params body scope cl pm cv ctv) ⟨[], []⟩ = pure [])
    (hbody : ∀ (A : Around) (outer : List PySem.Env) (s : Shared) (H : Hp) (E' : XK) (f c' : Addr), RG k (A.deeper (lamEnv (cxOf (L2.CX P w) P w T.K mg base N0 q0 sc0 ad0 cdv0 A0 outer0 s0 H0 E0) scope s.heap.objs.size f c')) → IE T E' (lamCx (cxOf (L2.CX P w) P w T.K mg base N0 q0 sc0 ad0 cdv0 A0 outer0 s0 H0 E0) A outer s H E' scope f c') body m) :
    IE T E (cxOf (L2.CX P w) P w T.K mg base N0 q0 sc0 ad0 cdv0 A0 outer0 s0 H0 E0) (.Call (.Name "_law_said" p) [.Lambda params body scope lpos] [] pos) (eSaid "told" (refL cnsL) m) := by
  exact ie_said (k := k) (i := 1) (d := d__law_said) (cns := cnsL) (cl := clX T) (hp := refL cnsL) (m := m) rfl hx0 hg (F.g "_law_said") (F.defs 33 d__law_said rfl) rfl rfl (by rfl) bi__law_said sc__law_said rfl (.inl rfl) nd__law_said rfl (by decide) rfl (fun cdv s H hr => hda F hcf cdv _ _ s H (hr.mono hkw)) refL_nt refL_in (hpkX F)
    (TB.at_ q (List.mem_map.mpr ⟨_, hq, rfl⟩)) hcd (by
      show (_, (q0 ++ (".<locals>." : PySem.Str)) ++ ("<lambda>" : PySem.Str)) ∈ T.tabs
      rw [hqs, hT]; exact tab_in q qs hq) (by
      show ∀ p ∈ T.tabs, p.1 = _ → p.2 = (q0 ++ (".<locals>." : PySem.Str)) ++ ("<lambda>" : PySem.Str)
      rw [hqs, hT]; exact tab_one F.tfn q qs hq) hr L hdef hbind hbody
theorem nd_law : (["_law_script", "_law_k", "_law_box_here", "_law_rows", "_law_book", "_law_turn", "_law_bad", "_law_fit", "_law_mosts", "_law_upto", "_law_row"] : List Str).Nodup := by decide +kernel
theorem sc_law : FnScope ["_law_script", "_law_k", "_law_box_here", "_law_rows", "_law_book", "_law_turn", "_law_bad", "_law_fit", "_law_mosts", "_law_upto", "_law_row"] ["_law_script"] d_law.scope := ⟨rfl, rfl, rfl, nd_law, rfl, by decide +kernel, by decide +kernel⟩
theorem ok_law (F : Fx T mg lw) (hcf : T.cf = cf) (hx0 : T.xc = none) (hT : T.tabs = tabsOf T.K lw.tf) (TB : TabsB T.K mg base (lw.tf.map (·.1))) (hD : DictsK T.K w (dcsL.map (·.1))) : OkF T P w mg base 7 d_law ["_law_script"] m_law := by
  obtain ⟨fd, FD⟩ := F.defs 34 d_law rfl
  refine OkF.mkL (N := ["_law_script", "_law_k", "_law_box_here", "_law_rows", "_law_book", "_law_turn", "_law_bad", "_law_fit", "_law_mosts", "_law_upto", "_law_row"]) FD sc_law fun cdv A outer s H E hcd hr => ?_
  show ISs T E _ (defBody (top 64)) b_law
  exact (is_cons (is_for (vs := allN 11) (by exact passes_of rfl) (by rfl) (ii_r1 (by rfl) (by exact F.f "range") (ia_cons (ie_b (by exact call_max2 rfl) bo_max2 (by rfl) (by exact F.f "max") (by decide +kernel) (ia_cons ie_int (ia_cons (ie_b (by exact call_min2 rfl) bo_min2 (by rfl) (by exact F.f "min") (by decide +kernel) (ia_cons (ie_b (by exact call_len) bo_lenA (by rfl) (by exact F.f "len") (by decide +kernel) (ia_cons (ie_v 0) ia_nil)) (ia_cons ie_int ia_nil))) ia_nil))) ia_nil)) (ig_n 1 nd_law) (is_cons (is_st 2 nd_law (ie_fnF (by exact ok__law_box F hcf hx0 hT TB hD) (by rfl) (by exact hr.mono (by decide)) (by rfl) (by exact F.g "_law_box") kb__law_box_0 (by exact tk_cx) (ak_cons (ia_cons (ie_v 0) (ia_cons (ie_v 1) ia_nil)) ik_nil)))
  (is_cons (is_st 3 nd_law (ie_cut (by rfl) (ie_fnF (by exact ok__law_rules F hcf hx0 hT TB hD) (by rfl) (by exact hr.mono (by decide)) (by rfl) (by exact F.g "_law_rules") kb__law_rules_0 (by exact tk_cx) (ak_cons (ia_cons (ie_v 2) (ia_cons ie_int ia_nil)) ik_nil)) io_none (io_some ie_int)))
  (is_cons (is_st 4 nd_law (ie_fnF (by exact ok__law_booked F hcf hx0 hT TB hD) (by rfl) (by exact hr.mono (by decide)) (by rfl) (by exact F.g "_law_booked") kb__law_booked_0 (by exact tk_cx) (ak_cons (ia_cons (ie_v 3) ia_nil) ik_nil)))
  (is_cons (is_for (vs := allN 11) (by exact passes_of rfl) (by rfl) (ii_r1 (by rfl) (by exact F.f "range") (ia_cons ie_int ia_nil)) (ig_n 5 nd_law) (is_cons (is_st 7 nd_law (ie_fnF (by exact ok__law_spot F hcf hx0 hT TB hD) (by rfl) (by exact hr.mono (by decide)) (by rfl) (by exact F.g "_law_spot") kb__law_spot_0 (by exact tk_cx) (ak_cons (ia_cons (ie_v 2) (ia_cons (ie_v 3) ia_nil)) ik_nil)))
  (is_cons (is_st 8 nd_law (ie_op (oi_add (by rfl)) (ie_lst (ia_cons ie_int (ia_cons ie_int (ia_cons (ie_op (oi_pow) ie_int ie_int) (ia_cons (ie_fnF (by exact ok__law_take F hcf hx0 hT TB hD) (by rfl) (by exact hr.mono (by decide)) (by rfl) (by exact F.g "_law_take") kb__law_take_0 (by exact tk_cx) (ak_cons (ia_cons (ie_v 2) (ia_cons (ie_op (oi_pow) ie_int ie_int) ia_nil)) ik_nil)) (ia_cons (ie_fnF (by exact ok__law_take F hcf hx0 hT TB hD) (by rfl) (by exact hr.mono (by decide)) (by rfl) (by exact F.g "_law_take") kb__law_take_0 (by exact tk_cx) (ak_cons (ia_cons (ie_v 2) (ia_cons ie_int ia_nil)) ik_nil)) ia_nil)))))) (ie_lc (own := [("_law_row", 10)]) (by rfl) nd_law (ii_any (by rfl) (ie_v 3)) (blk_by (by kernel_rfl)) (fun _ _ _ _ _ => (ig_n 10 nd_law)) (fun _ _ _ _ _ => its_nil) (fun _ _ _ _ _ => (ie_idxB (by rfl) (by exact hu1 hr) (ie_v 10) ie_int)))))
  (is_cons (is_for (vs := allN 11) (by exact passes_of rfl) (by rfl) (ii_any (by rfl) (ie_op (oi_add (by rfl)) (ie_v 8) (ie_lc (own := [("_law_row", 10)]) (by rfl) nd_law (ii_any (by rfl) (ie_v 3)) (blk_by (by kernel_rfl)) (fun _ _ _ _ _ => (ig_n 10 nd_law)) (fun _ _ _ _ _ => its_nil) (fun _ _ _ _ _ => (ie_idxB (by rfl) (by exact hu1 hr) (ie_v 10) ie_int))))) (ig_n 9 nd_law) (is_one (is_if (ib_not (ib_val (ie_fnF (by exact ok__law_right F hcf hx0 hT TB hD) (by rfl) (by exact hr.mono (by decide)) (by rfl) (by exact F.g "_law_right") kb__law_right_0 (by exact tk_cx) (ak_cons (ia_cons (ie_v 4) (ia_cons (ie_v 3) (ia_cons (ie_v 7) (ia_cons (ie_v 9) ia_nil)))) ik_nil)))) (is_one (is_ret ie_bl)) is_nil)))
  (is_one (is_if (ib_cmp (oi_neP (by rfl) (by exact hr.rm.units)) (ie_methF (cn := "Rulebook") (mn := "room") (n := 3) (by exact hcf) (by exact ok_Rulebook_room F hcf hx0 hT TB hD) (by rfl) (by exact hr.mono (by decide)) (by exact F.c "Rulebook") (by exact F.m "Rulebook" "room") kb_Rulebook_room_2 (by exact tk_cx) (ie_v 4) (ak_cons (ia_cons (ie_idxB (by rfl) (by exact hu1 hr) (ie_v 7) ie_int) (ia_cons (ie_idxB (by rfl) (by exact hu1 hr) (ie_v 7) ie_int) (ia_cons (ie_idxB (by rfl) (by exact hu1 hr) (ie_v 7) ie_int) ia_nil))) ik_nil) rfl) (ie_fnF (by exact ok__law_room F hcf hx0 hT TB hD) (by rfl) (by exact hr.mono (by decide)) (by rfl) (by exact F.g "_law_room") kb__law_room_0 (by exact tk_cx) (ak_cons (ia_cons (ie_v 3) (ia_cons (ie_op (oi_add (by rfl)) (ie_op (oi_add (by rfl)) (ie_cut (by rfl) (ie_v 7) io_none (io_some ie_int)) (ie_tup (ia_cons ie_bl ia_nil))) (ie_cut (by rfl) (ie_v 7) (io_some ie_int) io_none)) (ia_cons ie_int ia_nil))) ik_nil)) (by rfl)) (is_one (is_ret ie_bl)) is_nil))))))
  (is_cons (is_for (vs := allN 11) (by exact passes_of rfl) (by rfl) (ii_any (by rfl) (ie_lst (ia_cons (ie_neg ie_int) (ia_cons (ie_op (oi_add (by rfl)) (ie_op (oi_pow) ie_int ie_int) ie_int) (ia_cons ie_bl (ia_cons ie_non (ia_cons ie_str (ia_cons (ie_op (oi_pow) ie_int ie_int) ia_nil)))))))) (ig_n 6 nd_law) (is_one (is_if (ib_cmp (oi_neP (by rfl) (by exact hr.rm.units)) (ie_sd (q := ("law", none)) (qs := "law.<locals>.") (k := 3) (m := (eMeth cf "Rulebook" "room" (callM m_Rulebook_room 6 0 6 [(0, 0), (0, 1), (0, 2), (0, 3), (0, 4), (0, 5)] [.bl true, .int 1000000]) (eVar 4) (aCons (eC (.str "meal")) (aCons (eC (.int 0)) (aCons (eC (.int 5)) (aCons (eC (.bl true)) (aCons (eVar 6) aNil))))) aNil)) F hcf hx0 hT TB (by decide +kernel) (by decide +kernel) (by decide) (by exact hcd) (by exact hr.mono (by decide)) (by rfl) (lamS_by (by kernel_rfl)) (by rfl) (fun _ _ _ _ _ => by rfl) (fun A outer s H E f c hr => (ie_methF (cn := "Rulebook") (mn := "room") (n := 5) (by exact hcf) (by exact ok_Rulebook_room F hcf hx0 hT TB hD) (by rfl) (by exact hr.mono (by decide)) (by exact F.c "Rulebook") (by exact F.m "Rulebook" "room") kb_Rulebook_room_0 (by exact tk_lam) (ie_v 4) (ak_cons (ia_cons ie_str (ia_cons ie_int (ia_cons ie_int (ia_cons ie_bl (ia_cons (ie_v 6) ia_nil))))) ik_nil) rfl))) (ie_tup (ia_cons ie_str ia_nil)) (by rfl)) (is_one (is_ret ie_bl)) is_nil)))
  (is_one (is_if (ib_cmp (oi_isnot) (ie_methF (cn := "Rulebook") (mn := "room") (n := 3) (by exact hcf) (by exact ok_Rulebook_room F hcf hx0 hT TB hD) (by rfl) (by exact hr.mono (by decide)) (by exact F.c "Rulebook") (by exact F.m "Rulebook" "room") kb_Rulebook_room_2 (by exact tk_cx) (ie_frz (by exact hcf) (ie_newF (cn := "Rulebook") (by exact ok_Rulebook_init F hcf hx0 hT TB hD) (by exact F.mk' "Rulebook") (by rfl) (by exact hr.mono (by decide)) (by rfl) (by exact F.g "Rulebook") kb_Rulebook_init_1 (by exact tk_cx) (ak_nil ik_nil) rfl)) (ak_cons (ia_cons ie_str (ia_cons ie_int (ia_cons ie_int ia_nil))) ik_nil) rfl) ie_non (by rfl)) (is_one (is_ret ie_bl)) is_nil))))))))
  (is_one (is_ret ie_bl)))
end
end Ro
end
section
set_option Elab.async false
set_option linter.all false
set_option maxRecDepth 100000
set_option maxHeartbeats 0
namespace Ro
open PySem PySem.Spec PyProof.Rows L2
theorem ob_eq (s : PySem.W.SharedT) : ob s = hk.obs s.abs := obM_eq (HandSHeadRun.getT_eq s)
theorem run (w : World) : HandSHeadRun.RunEq RW qv hk ob 30000 nms w :=
  PySem.W.byRow2 "special-get-raises" (P := fun w => HandSHeadRun.RunEq RW qv hk ob 30000 nms w) runF runT w
theorem law_binds (T : Tb) (fd : FuncData) (FD : FunD T.K d_law.name d_law.qual d_law.params d_law.body d_law.scope (d_law.dvs T.K) [] (He.fAd T.K d_law.at_) fd) (s : Shared) (u : Value) : BindsTo s fd ⟨[u], []⟩ [("_law_script", u)] :=
  (FunD.bindsA (ps := ["_law_script"]) FD fun _ _ _ _ _ _ us hl => match us, hl with | [_], _ => rfl) s [u] rfl
theorem at_law : d_law.at_ = (("law" : PySem.Str), none) := rfl
theorem fAd_none {K : PySem.W.Frag} {x : PySem.Str} : He.fAd K (x, none) = He.ga K x := rfl
theorem ref_uniq {mg : PySem.Str → Option Value} {x : PySem.Str} {a b : Addr} (h1 : mg x = some (.ref a)) (h2 : mg x = some (.ref b)) : b = a := by
  rw [h1] at h2
  have h3 := Option.some.inj h2
  injection h3 with h4
  exact h4.symm
theorem law_from (hm : ∀ ns : List Int, ns.length ≤ 63 → (∀ z ∈ ns, bits20 z) → ∃ S, m_law [.scr ns] [] = .ok (.bl true) S) : PySem.Challenge.rw_roadpence_k13_room_under_rules.Holds := by
  w_on; o_law
  refine HandSHeadRun.head_any (r := PySem.W.OpenLaw.row PySem.Challenge.rw_roadpence_k13_room_under_rules) (q := PySem.W.view (PySem.W.OpenLaw.row PySem.Challenge.rw_roadpence_k13_room_under_rules).prog [64]) (H := hk) (ob := ob) (M := 30000) (loose := nms) (d := HandSHeadRun.topDef (PySem.W.OpenLaw.row PySem.Challenge.rw_roadpence_k13_room_under_rules).prog 64) (kwd := []) ob_eq
    (by kernel_rfl) (fun s => by kernel_rfl) run (by kernel_rfl) (by kernel_rfl) (by kernel_rfl) (by rfl) (by first | assumption | decide +kernel) (by decide +kernel) ⟨rfl, rfl, rfl, rfl, rfl, by decide +kernel⟩ ?hw ?hc
  case hw => w_witness2
  case hc =>
    refine walkGT (l := PySem.Challenge.rw_roadpence_k13_room_under_rules) (n := 63) (k := 7) (x := "_law_script") (m := m_law) rfl (by decide) (by kernel_rfl) (by decide) ?F hm
    intro w mg fa h Y G hmg0
    obtain ⟨K, KX, c⟩ := Y
    have hmg : mg ("law" : PySem.Str) = some (.ref fa) := by
      have e : (HandSHeadRun.topDef (PySem.W.OpenLaw.row PySem.Challenge.rw_roadpence_k13_room_under_rules).prog 64).name = ("law" : PySem.Str) := by kernel_rfl
      rw [← e]
      exact hmg0
    obtain ⟨F, tF⟩ := says_fx (T := ⟨K, cf, tabsOf K lw.tf, none⟩) KX G c
    obtain ⟨fd0, FD0⟩ := F.defs 34 d_law rfl
    refine ⟨⟨K, cf, tabsOf K lw.tf, none⟩, fd0, lw.tf, rfl, KX, tF, law_binds _ fd0 FD0, fun base _ _ TB => ?_⟩
    have e : He.fAd K d_law.at_ = fa := by
      rw [at_law, fAd_none]
      exact ref_uniq hmg (F.g "law")
    have hD : DictsK K w (dcsL.map (·.1)) := dicts_of c.t
    obtain ⟨fd', FD', GG⟩ := (ok_law (P := (PySem.Challenge.rw_roadpence_k13_room_under_rules).prog) (w := w) F rfl rfl rfl TB hD).ex
    rw [funD_uniq FD0 FD'] at GG
    rw [← e]
    exact GG
end Ro
end
section
set_option Elab.async false
set_option linter.all false
set_option maxRecDepth 100000
set_option maxHeartbeats 4000000
namespace Ro
open PySem
variable {S : Store}
@[simp] theorem ty_int (i : Int) : tyD (.int i) S = some (.b "int") := rfl
@[simp] theorem ty_bl (i : Bool) : tyD (.bl i) S = some (.b "bool") := rfl
@[simp] theorem ty_str (i : Str) : tyD (.str i) S = some (.b "str") := rfl
@[simp] theorem ty_tup (i : List D) : tyD (.tup i) S = some (.b "tuple") := rfl
@[simp] theorem ty_lst (i : List D) : tyD (.lst i) S = some (.b "list") := rfl
@[simp] theorem ty_non : tyD .non S = some (.b "NoneType") := rfl
@[simp] theorem ty_dct (i : List (D × D)) : tyD (.dct i) S = some (.b "dict") := rfl
def kinds : List Str := ["bed", "fee", "meal", "ride", "sundry"]
@[simp] theorem at_2 (d e c : D) (l : List D) : atP (d :: e :: c :: l) 2 = some c := by
  have : pyIx (d :: e :: c :: l).length 2 = some 2 := ix_nn _ 2 (by simp)
  unfold atP
  rw [this]
  rfl
@[simp] theorem at_3 (d e c b : D) (l : List D) : atP (d :: e :: c :: b :: l) 3 = some b := by
  have : pyIx (d :: e :: c :: b :: l).length 3 = some 3 := ix_nn _ 3 (by simp)
  unfold atP
  rw [this]
  rfl
/-- a comprehension whose parts only tell -/
theorem lc_pure {tg : Pat} {c : BX} {el : EX} {env0 : Env} {p : D → Bool} {g : D → D} : ∀ {xs acc : List D}, acc.length + xs.length ≤ LINE → (∀ x ∈ xs, ∃ e, tg x env0 = some e ∧ c e S = .ok (p x) S ∧ (p x = true → el e S = .ok (g x) S)) →
    lcLoop tg c el env0 xs acc S = .ok (acc ++ (xs.filter p).map g) S
  | [], acc, _, _ => by simp [lcLoop]
  | x :: xs, acc, hl, h => by
    obtain ⟨e, h1, h2, h3⟩ := h x (by simp)
    unfold lcLoop
    rw [h1]
    dsimp only
    rw [h2, nox_ok, bnd_ok]
    cases z : p x with
    | true =>
      rw [if_pos rfl, h3 z, nox_ok, bnd_ok, if_pos (by simp at hl ⊢; omega), lc_pure (acc := acc ++ [g x]) (by simp at hl ⊢; omega) (fun y hy => h y (by simp [hy]))]
      simp [List.filter_cons, z]
    | false =>
      rw [if_neg Bool.false_ne_true, lc_pure (by simp at hl ⊢; omega) (fun y hy => h y (by simp [hy]))]
      simp [List.filter_cons, z]
theorem pick_ok {l : List D} {i : Int} {P : D → Prop} (h0 : 0 ≤ i) (h1 : i < l.length) (h : ∀ d ∈ l, P d) : ∃ d, atP l i = some d ∧ P d := by
  have hl : i.toNat < l.length := by omega
  have e : (i.toNat : Int) = i := Int.toNat_of_nonneg h0
  refine ⟨l[i.toNat], ?_, h _ (List.getElem_mem hl)⟩
  have e2 : pyIx l.length i = some i.toNat := by
    have := ix_nn _ _ hl
    rw [e] at this
    exact this
  unfold atP
  rw [e2]
  simp [hl]
structure Fr (b : Nat) (S S' : Store) : Prop where
  bx : Bx S' b
  le : S.length ≤ S'.length
  keep : ∀ n, n < S.length → n ≠ b → S'[n]? = S[n]?
theorem Fr.trans {b : Nat} {S1 S2 : Store} (h : Fr b S S1) (k : Fr b S1 S2) : Fr b S S2 := ⟨k.bx, Nat.le_trans h.le k.le, fun n h1 h2 => (k.keep n (Nat.lt_of_lt_of_le h1 h.le) h2).trans (h.keep n h1 h2)⟩
theorem Bx.app {b : Nat} (h : Bx S b) (l : Store) : Bx (S ++ l) b := by
  obtain ⟨x, y, e, h1, h2⟩ := h
  exact ⟨x, y, by rw [List.getElem?_append_left (List.getElem?_eq_some_iff.mp e).1]; exact e, h1, h2⟩
theorem Fr.app {b : Nat} (h : Bx S b) (l : Store) : Fr b S (S ++ l) := ⟨h.app l, by simp, fun n h1 _ => List.getElem?_append_left h1⟩
theorem Fr.put {b m : Nat} {S1 : Store} (h : Fr b S S1) (hm : S.length ≤ m) (hb : b < S.length) (c : Cell) : Fr b S (S1.set m c) := by
  obtain ⟨⟨x, y, e, h1, h2⟩, h3, h4⟩ := h
  exact ⟨⟨x, y, by rw [List.getElem?_set_ne (by omega)]; exact e, h1, h2⟩, by simpa using h3, fun n k1 k2 => by rw [List.getElem?_set_ne (by omega)]; exact h4 n k1 k2⟩
@[simp] theorem u_sRaise {c : String} {a : AX} {env : Env} : sRaise c a env S = (a env S).bnd fun fs S1 => .err c fs S1 := rfl
@[simp] theorem u_aChk {n : Nat} {fa : AX} {env : Env} : aChk n fa env S = (fa env S).bnd fun ds S1 => if ds.length = n ∧ ds.length ≤ 1000 then .ok ds S1 else .bad := rfl
theorem ne_str (s : Str) : neD (.str s) (.str s) = some (.bl false) := by
  unfold neD
  have h : plD (.str s) = true := rfl
  rw [h]
  simp
end Ro
end
section
set_option Elab.async false
set_option linter.all false
set_option maxRecDepth 100000
set_option maxHeartbeats 1000000
namespace Ro
open PySem
variable {S : Store}
def okD : D → Bool
  | .str s => decide (s.length ≤ LINE)
  | .non => true
  | .bl _ => true
  | .int _ => true
  | .tup _ => true
  | .lst _ => true
  | .dct _ => true
  | _ => false
def lets : List Nat := ("abcdefghijklmnopqrstuvwxyz" : Str).cps.toList
def nameOk (z : Str) : Bool := (decide (1 ≤ z.length) && decide (z.length ≤ 8)) && z.cps.toList.all (fun c => decide (c ∈ lets))
def deeds : List Str := ["let", "cut", "each", "hundredths", "refuse"]
def lim (z : Str) : Int := if z = "cut" then 1000000000000 else if z = "each" then 1000 else if z = "hundredths" then 100 else 0
def wholeB (d : D) (lo hi : Int) : Bool := match d with
  | .int i => decide (lo ≤ i) && decide (i ≤ hi)
  | _ => false
def nameB : D → Bool
  | .str z => nameOk z
  | _ => false
def deedB : D → Bool
  | .str z => decide (z ∈ deeds)
  | _ => false
def limD : D → Int
  | .str z => lim z
  | _ => 0
def kindB : D → Bool
  | .str z => decide (z ∈ kinds)
  | _ => false
def blB : D → Bool
  | .bl _ => true
  | _ => false
@[simp] theorem st_int_int : subTy (.b "int") (.b "int") = true := by decide
@[simp] theorem st_bool_int : subTy (.b "bool") (.b "int") = true := by decide
@[simp] theorem st_NoneType_int : subTy (.b "NoneType") (.b "int") = false := by decide
@[simp] theorem st_str_int : subTy (.b "str") (.b "int") = false := by decide
@[simp] theorem st_tuple_int : subTy (.b "tuple") (.b "int") = false := by decide
@[simp] theorem st_list_int : subTy (.b "list") (.b "int") = false := by decide
@[simp] theorem st_dict_int : subTy (.b "dict") (.b "int") = false := by decide
@[simp] theorem st_int_bool : subTy (.b "int") (.b "bool") = false := by decide
@[simp] theorem st_bool_bool : subTy (.b "bool") (.b "bool") = true := by decide
@[simp] theorem st_NoneType_bool : subTy (.b "NoneType") (.b "bool") = false := by decide
@[simp] theorem st_str_bool : subTy (.b "str") (.b "bool") = false := by decide
@[simp] theorem st_tuple_bool : subTy (.b "tuple") (.b "bool") = false := by decide
@[simp] theorem st_list_bool : subTy (.b "list") (.b "bool") = false := by decide
@[simp] theorem st_dict_bool : subTy (.b "dict") (.b "bool") = false := by decide
@[simp] theorem st_int_str : subTy (.b "int") (.b "str") = false := by decide
@[simp] theorem st_bool_str : subTy (.b "bool") (.b "str") = false := by decide
@[simp] theorem st_NoneType_str : subTy (.b "NoneType") (.b "str") = false := by decide
@[simp] theorem st_str_str : subTy (.b "str") (.b "str") = true := by decide
@[simp] theorem st_tuple_str : subTy (.b "tuple") (.b "str") = false := by decide
@[simp] theorem st_list_str : subTy (.b "list") (.b "str") = false := by decide
@[simp] theorem st_dict_str : subTy (.b "dict") (.b "str") = false := by decide
@[simp] theorem st_int_tuple : subTy (.b "int") (.b "tuple") = false := by decide
@[simp] theorem st_bool_tuple : subTy (.b "bool") (.b "tuple") = false := by decide
@[simp] theorem st_NoneType_tuple : subTy (.b "NoneType") (.b "tuple") = false := by decide
@[simp] theorem st_str_tuple : subTy (.b "str") (.b "tuple") = false := by decide
@[simp] theorem st_tuple_tuple : subTy (.b "tuple") (.b "tuple") = true := by decide
@[simp] theorem st_list_tuple : subTy (.b "list") (.b "tuple") = false := by decide
@[simp] theorem st_dict_tuple : subTy (.b "dict") (.b "tuple") = false := by decide
@[simp] theorem tl_int : Ty.b "int" ∈ tysL := by decide
@[simp] theorem tl_bool : Ty.b "bool" ∈ tysL := by decide
@[simp] theorem tl_NoneType : Ty.b "NoneType" ∈ tysL := by decide
@[simp] theorem tl_str : Ty.b "str" ∈ tysL := by decide
@[simp] theorem tl_tuple : Ty.b "tuple" ∈ tysL := by decide
@[simp] theorem tl_list : Ty.b "list" ∈ tysL := by decide
@[simp] theorem tl_dict : Ty.b "dict" ∈ tysL := by decide
theorem whole_b {d : D} (hd : okD d = true) (lo hi : Int) : m_is_whole [d, .int lo, .int hi] S = .ok (.bl (wholeB d lo hi)) S := by
  unfold m_is_whole b_is_whole
  cases d with
  | int i => by_cases c : lo ≤ i <;> simp [c, wholeB]
  | scr l => cases hd
  | obj c l => cases hd
  | ref n => cases hd
  | fn n => cases hd
  | thk n l => cases hd
  | _ => simp [wholeB]
theorem kinds_d (z : Str) : (decide (("bed" : Str) = z) || (decide (("fee" : Str) = z) || (decide (("meal" : Str) = z) || (decide (("ride" : Str) = z) || decide (("sundry" : Str) = z))))) = decide (z ∈ kinds) := by
  unfold kinds
  simp only [List.mem_cons, List.not_mem_nil, or_false, Bool.decide_or]
  simp only [eq_comm (a := z)]
theorem kind_b {d : D} (hd : okD d = true) : m_is_kind [d] S = .ok (.bl (kindB d)) S := by
  unfold m_is_kind b_is_kind
  cases d with
  | str z => simp [inD, kinds_d, kindB]
  | scr l => cases hd
  | obj c l => cases hd
  | ref n => cases hd
  | fn n => cases hd
  | thk n l => cases hd
  | _ => simp [kindB]
theorem find_deed (z : Str) : (kv_BOUNDS.find? fun q => decide (q.1 = z)).isSome = decide (z ∈ deeds) := by
  unfold kv_BOUNDS deeds
  simp only [List.find?_cons, List.find?_nil, List.mem_cons, List.not_mem_nil, or_false]
  by_cases h1 : ("let" : Str) = z
  · simp [h1]
  by_cases h2 : ("cut" : Str) = z
  · simp [h1, h2]
  by_cases h3 : ("each" : Str) = z
  · simp [h1, h2, h3]
  by_cases h4 : ("hundredths" : Str) = z
  · simp [h1, h2, h3, h4]
  by_cases h5 : ("refuse" : Str) = z
  · simp [h1, h2, h3, h4, h5]
  simp [h1, h2, h3, h4, h5, Ne.symm h1, Ne.symm h2, Ne.symm h3, Ne.symm h4, Ne.symm h5]
theorem deed_b {d : D} (hd : okD d = true) : m_is_deed [d] S = .ok (.bl (deedB d)) S := by
  unfold m_is_deed b_is_deed
  cases d with
  | str z => simp [inKD, find_deed, deedB]
  | scr l => cases hd
  | obj c l => cases hd
  | ref n => cases hd
  | fn n => cases hd
  | thk n l => cases hd
  | _ => simp [deedB]
theorem it_lim {z : Str} (h : z ∈ deeds) : itKD "BOUNDS" kv_BOUNDS (.fn "BOUNDS") (.str z) = some (.int (lim z)) := by
  unfold deeds at h
  simp at h
  rcases h with rfl | rfl | rfl | rfl | rfl <;> rfl
theorem dBls_map (l : List D) (p : D → Bool) : dBls (l.map fun x => .bl (p x)) = some (l.map p) := by
  induction l with
  | nil => rfl
  | cons x l ih => rw [List.map_cons, dBls, ih]; rfl
theorem all_map (l : List D) (p : D → Bool) : bAll [.lst (l.map fun x => .bl (p x))] = some (.bl (l.all p)) := by
  show Option.map (fun bs => D.bl (bs.all id)) (dBls (l.map fun x => D.bl (p x))) = _
  rw [dBls_map]
  simp [List.all_map, Function.comp_def]
def signB : D → Bool
  | .str s => match s.cps.toList with
    | [c] => decide (c ∈ lets)
    | _ => false
  | _ => false
theorem name_b {d : D} (hd : okD d = true) : m_is_name [d] S = .ok (.bl (nameB d)) S := by
  unfold m_is_name b_is_name
  cases d with
  | str z =>
    have hz : z.length ≤ 16777216 := of_decide_eq_true hd
    by_cases h1 : 1 ≤ z.length
    · by_cases h8 : z.length ≤ 8
      · have l1 : lcLoop (pName 1) bYes (eOp inSD (eVar 1) (eC (.str "abcdefghijklmnopqrstuvwxyz"))) (wipeE [some (.str z), none] [1]) (z.cps.toList.map fun c => .str ⟨#[c]⟩) [] S = .ok ((((z.cps.toList.map fun c => D.str ⟨#[c]⟩).filter fun _ => true)).map fun x => .bl (signB x)) S := by
          refine lc_pure (by
            have : z.cps.toList.length = z.length := by simp [Str.length]
            simp only [List.length_nil, List.length_map, this, LINE_eq]
            omega) fun x hx => ?_
          obtain ⟨c, hc, rfl⟩ := List.mem_map.mp hx
          exact ⟨_, rfl, rfl, fun _ => rfl⟩
        have ft : ∀ l : List D, l.filter (fun _ => true) = l := fun l => by simp
        rw [ft] at l1
        have b1 := all_map (z.cps.toList.map fun c => D.str ⟨#[c]⟩) signB
        have e1 : (z.cps.toList.map fun c => D.str ⟨#[c]⟩).all signB = z.cps.toList.all (fun c => decide (c ∈ lets)) := by
          rw [List.all_map]
          rfl
        rw [e1] at b1
        generalize ((z.cps.toList.map fun c => D.str ⟨#[c]⟩).map fun x => D.bl (signB x)) = L at l1 b1
        have i1 : (1 : Int) ≤ z.length := by omega
        have i8 : (z.length : Int) ≤ 8 := by omega
        simp [bLenA, bLen, lenD, hz, i1, i8, l1, b1, nameB, nameOk, h1, h8]
      · have i1 : (1 : Int) ≤ z.length := by omega
        have i8 : ¬ (z.length : Int) ≤ 8 := by omega
        simp [bLenA, bLen, lenD, hz, i1, i8, nameB, nameOk, h1, h8]
    · have i1 : ¬ (1 : Int) ≤ z.length := by omega
      simp [bLenA, bLen, lenD, hz, i1, nameB, nameOk, h1]
  | scr l => cases hd
  | obj c l => cases hd
  | ref n => cases hd
  | fn n => cases hd
  | thk n l => cases hd
  | _ => simp [nameB]
end Ro
end
section
set_option Elab.async false
set_option linter.all false
set_option maxRecDepth 100000
set_option maxHeartbeats 1000000
namespace Ro
open PySem
variable {S : Store} {env : Env}
theorem app_step {f : EX} {i n : Nat} {l : List D} {v : D} (h1 : env[i]? = some (some (.ref n))) (hn : S[n]? = some (.lst l)) (h2 : f env S = .ok v S) (hl : l.length < 16777216) : eApp (eVar i) f env S = .ok .non (S.set n (.lst (l ++ [v]))) := by
  unfold eApp
  rw [u_eVar, h1]
  dsimp only
  rw [bnd_ok]
  have t : tyD (.ref n) S = some (.b "list") := by unfold tyD; simp only [hn]
  rw [if_pos t, h2, bnd_ok]
  unfold appM
  dsimp only
  rw [hn]
  dsimp only
  rw [if_pos (by simpa using hl)]
theorem addM_step {f g : EX} {n : Nat} {l m : List D} (h1 : f env S = .ok (.ref n) S) (hn : S[n]? = some (.lst l)) (h2 : g env S = .ok (.lst m) S) (hl : l.length + m.length ≤ 16777216) : eAddM f g env S = .ok (.ref S.length) (S ++ [.lst (l ++ m)]) := by
  unfold eAddM
  rw [h1, bnd_ok, h2, bnd_ok]
  have e : catS (.ref n) (.lst m) S = some (l ++ m) := by
    unfold catS
    have e1 : seeD (.ref n) S = .lst l := by unfold seeD; dsimp only; rw [hn]
    rw [e1]
    show (if l.length + m.length ≤ LINE then some (l ++ m) else none) = _
    rw [if_pos (by simpa using hl)]
  rw [e]
theorem frz_step {f : EX} {n : Nat} {l : List D} (h1 : f env S = .ok (.ref n) S) (hn : S[n]? = some (.lst l)) : eFrzL f env S = .ok (.lst l) (S.set n .dead) := by
  unfold eFrzL
  rw [h1, bnd_ok]
  unfold frzL
  dsimp only
  rw [hn]
def wholeL (d lo : D) : Bool := match lo with
  | .int i => wholeB d i 59
  | _ => false
def looks (d0 d1 d2 d3 d4 d5 d6 d7 d8 : D) : List (Str × Bool) := [("name", nameB d0), ("deed", deedB d1), ("bound", deedB d1 && wholeB d2 0 (limD d1)), ("kind", isNonD d3 || kindB d3), ("town", isNonD d4 || wholeB d4 0 3), ("first", wholeB d5 0 59),
  ("last", wholeB d5 0 59 && wholeL d6 d5), ("over", wholeB d7 0 1000000000000), ("paper", isNonD d8 || blB d8)]
def firstW (l : List (Str × Bool)) : D := match l.filter (fun p => !p.2) with
  | [] => .non
  | p :: _ => .str p.1
def pairD (p : Str × Bool) : D := .tup [.str p.1, .bl p.2]
theorem bound_e {d1 d2 : D} (h1 : env[1]? = some (some d1)) (h2 : env[2]? = some (some d2)) (k1 : okD d1 = true) (k2 : okD d2 = true) :
    eAnd (eFn (callM m_is_deed 1 0 1 [(0, 0)] []) (aCons (eVar 1) aNil) aNil) (eFn (callM m_is_whole 3 0 3 [(0, 0), (0, 1), (0, 2)] []) (aCons (eVar 2) (aCons (eC (.int 0)) (aCons (eOp (itKD "BOUNDS" kv_BOUNDS) (eC (.fn "BOUNDS")) (eVar 1)) aNil))) aNil) env S = .ok (.bl (deedB d1 && wholeB d2 0 (limD d1))) S := by
  cases z : deedB d1 with
  | false => simp [h1, deed_b k1, z]
  | true =>
    cases d1 with
    | str y =>
      have hy : y ∈ deeds := of_decide_eq_true z
      simp [h1, h2, deed_b k1, z, it_lim hy, whole_b k2, limD]
    | _ => cases z
theorem opt_e {d : D} {i : Nat} {f : EX} {b : Bool} (h : env[i]? = some (some d)) (hf : f env S = .ok (.bl b) S) : eOr (eOp isND (eVar i) (eC .non)) f env S = .ok (.bl (isNonD d || b)) S := by
  have e : isND d .non = some (.bl (isNonD d)) := rfl
  cases z : isNonD d <;> simp [h, e, z, hf]
theorem last_e {d5 d6 : D} (h5 : env[5]? = some (some d5)) (h6 : env[6]? = some (some d6)) (k5 : okD d5 = true) (k6 : okD d6 = true) :
    eAnd (eFn (callM m_is_whole 3 0 3 [(0, 0), (0, 1), (0, 2)] []) (aCons (eVar 5) (aCons (eC (.int 0)) (aCons (eC (.int 59)) aNil))) aNil) (eFn (callM m_is_whole 3 0 3 [(0, 0), (0, 1), (0, 2)] []) (aCons (eVar 6) (aCons (eVar 5) (aCons (eC (.int 59)) aNil))) aNil) env S = .ok (.bl (wholeB d5 0 59 && wholeL d6 d5)) S := by
  cases z : wholeB d5 0 59 with
  | false => simp [h5, whole_b k5, z]
  | true =>
    cases d5 with
    | int y => simp [h5, h6, whole_b k5, z, whole_b k6, wholeL]
    | _ => cases z
theorem isbl_e {d : D} {i : Nat} (h : env[i]? = some (some d)) (k : okD d = true) : eIsI tysL (.b "bool") (eVar i) env S = .ok (.bl (blB d)) S := by
  cases d with
  | scr l => cases k
  | obj c l => cases k
  | ref n => cases k
  | fn n => cases k
  | thk n l => cases k
  | _ => simp [h, blB]
theorem ne_nil {l : List D} (h : l.all (plN 7) = true) : neD (.lst l) (.lst []) = some (.bl (!l.isEmpty)) := by
  unfold neD
  have e1 : plD (.lst l) = true := h
  have e2 : plD (.lst []) = true := rfl
  rw [if_pos (by rw [e1, e2]; rfl), pyEq_lst]
  cases l with
  | nil => rw [pyEqs_nil]; rfl
  | cons x l => rw [pyEqs_cn]; rfl
def wrB : D → Bool
  | .tup [_, .bl b] => !b
  | _ => false
def wrG : D → D
  | .tup [a, _] => a
  | _ => .non
theorem wr_lc {env0 : Env} {lk : List (Str × Bool)} (hl : lk.length ≤ 100) (he : env0.length = 13) : lcLoop (pTup (pCons (pName 11) (pCons (pName 12) pNil))) (bNot (bOf (eVar 12))) (eVar 11) env0 (lk.map pairD) [] S = .ok ((lk.filter (fun p => !p.2)).map fun p => .str p.1) S := by
  have l1 : lcLoop (pTup (pCons (pName 11) (pCons (pName 12) pNil))) (bNot (bOf (eVar 12))) (eVar 11) env0 (lk.map pairD) [] S = .ok (((lk.map pairD).filter wrB).map wrG) S := by
    refine lc_pure (by simp; omega) fun x hx => ?_
    obtain ⟨p, hp, rfl⟩ := List.mem_map.mp hx
    refine ⟨_, rfl, ?_, fun _ => ?_⟩
    · simp [he, truth, wrB, pairD]
    · simp [he, wrG, pairD]
  rw [l1, List.filter_map, List.map_map]
  rfl
theorem first_e {env : Env} {lk : List (Str × Bool)} (h : env[10]? = some (some (.lst ((lk.filter (fun p => !p.2)).map fun p => .str p.1)))) : t_wrong_part_8 env S = .ok (.rt (firstW lk)) S := by
  unfold t_wrong_part_8
  have h1 : ((lk.filter (fun p => !p.2)).map fun p => D.str p.1).all (plN 7) = true := by
    rw [List.all_map]
    simp
  have h2 := ne_nil h1
  unfold firstW
  cases z : lk.filter (fun p => !p.2) with
  | nil =>
    rw [z] at h h2
    simp at h h2
    simp [h, h2]
  | cons p r =>
    rw [z] at h h2
    simp at h h2
    simp [h, h2]
theorem wrong_b {d0 d1 d2 d3 d4 d5 d6 d7 d8 : D} (k0 : okD d0 = true) (k1 : okD d1 = true) (k2 : okD d2 = true) (k3 : okD d3 = true) (k4 : okD d4 = true) (k5 : okD d5 = true) (k6 : okD d6 = true) (k7 : okD d7 = true) (k8 : okD d8 = true) :
    ∃ X, m_wrong_part [d0, d1, d2, d3, d4, d5, d6, d7, d8] S = .ok (firstW (looks d0 d1 d2 d3 d4 d5 d6 d7 d8)) (S ++ X) := by
  have e2 := fun x9 x10 x11 x12 S => bound_e (env := [some d0, some d1, some d2, some d3, some d4, some d5, some d6, some d7, some d8, x9, x10, x11, x12]) (S := S) rfl rfl k1 k2
  have e3 := fun x9 x10 x11 x12 S => opt_e (env := [some d0, some d1, some d2, some d3, some d4, some d5, some d6, some d7, some d8, x9, x10, x11, x12]) (S := S) (i := 3) (f := eFn (callM m_is_kind 1 0 1 [(0, 0)] []) (aCons (eVar 3) aNil) aNil) (b := kindB d3) rfl (by simp [kind_b k3])
  have e4 := fun x9 x10 x11 x12 S => opt_e (env := [some d0, some d1, some d2, some d3, some d4, some d5, some d6, some d7, some d8, x9, x10, x11, x12]) (S := S) (i := 4) (f := eFn (callM m_is_whole 3 0 3 [(0, 0), (0, 1), (0, 2)] []) (aCons (eVar 4) (aCons (eC (.int 0)) (aCons (eC (.int 3)) aNil))) aNil) (b := wholeB d4 0 3) rfl (by simp [whole_b k4])
  have e6 := fun x9 x10 x11 x12 S => last_e (env := [some d0, some d1, some d2, some d3, some d4, some d5, some d6, some d7, some d8, x9, x10, x11, x12]) (S := S) rfl rfl k5 k6
  have e8 := fun x9 x10 x11 x12 S => opt_e (env := [some d0, some d1, some d2, some d3, some d4, some d5, some d6, some d7, some d8, x9, x10, x11, x12]) (S := S) (i := 8) (f := eIsI tysL (.b "bool") (eVar 8)) (b := blB d8) rfl (isbl_e rfl k8)
  unfold m_wrong_part
  rw [u_fnM, x_wrong_part]
  simp [name_b k0, deed_b k1]
  generalize hb : (deedB d1 && wholeB d2 0 (limD d1)) = B2 at e2
  generalize hk : (isNonD d3 || kindB d3) = B3 at e3
  generalize ht : (isNonD d4 || wholeB d4 0 3) = B4 at e4
  generalize hla : (wholeB d5 0 59 && wholeL d6 d5) = B6 at e6
  generalize hp : (isNonD d8 || blB d8) = B8 at e8
  unfold t_wrong_part_2
  rw [u_sSeq, u_sExpr, app_step (n := S.length) (l := [.tup [.str "name", .bl (nameB d0)], .tup [.str "deed", .bl (deedB d1)]]) (v := pairD ("bound", B2)) rfl (by simp) (by simp [-u_eOr, -u_eAnd, e2, pairD]) (by simp)]
  simp
  unfold t_wrong_part_3
  rw [u_sSeq, u_sSet, addM_step (n := S.length) (l := [.tup [.str "name", .bl (nameB d0)], .tup [.str "deed", .bl (deedB d1)], pairD ("bound", B2)]) (m := [pairD ("kind", B3), pairD ("town", B4)]) (by simp) (by simp) (by simp [-u_eOr, -u_eAnd, e3, e4, pairD]) (by simp)]
  simp
  unfold t_wrong_part_4
  rw [u_sSeq, u_sExpr, app_step (n := S.length + 1) (l := [.tup [.str "name", .bl (nameB d0)], .tup [.str "deed", .bl (deedB d1)], pairD ("bound", B2), pairD ("kind", B3), pairD ("town", B4)]) (v := pairD ("first", wholeB d5 0 59)) rfl (by simp) (by simp [pairD, whole_b k5]) (by simp)]
  simp
  unfold t_wrong_part_5
  rw [u_sSeq, u_sExpr, app_step (n := S.length + 1) (l := [.tup [.str "name", .bl (nameB d0)], .tup [.str "deed", .bl (deedB d1)], pairD ("bound", B2), pairD ("kind", B3), pairD ("town", B4), pairD ("first", wholeB d5 0 59)]) (v := pairD ("last", B6)) rfl (by simp) (by simp [-u_eOr, -u_eAnd, e6, pairD]) (by simp)]
  simp
  unfold t_wrong_part_6
  rw [u_sSeq, u_sSet, addM_step (n := S.length + 1) (l := [.tup [.str "name", .bl (nameB d0)], .tup [.str "deed", .bl (deedB d1)], pairD ("bound", B2), pairD ("kind", B3), pairD ("town", B4), pairD ("first", wholeB d5 0 59), pairD ("last", B6)]) (m := [pairD ("over", wholeB d7 0 1000000000000), pairD ("paper", B8)]) (by simp) (by simp) (by simp [-u_eOr, -u_eAnd, e8, whole_b k7, pairD]) (by simp)]
  simp
  unfold t_wrong_part_7
  obtain ⟨LK, hLK⟩ : ∃ LK : List (Str × Bool), LK = ([("name", nameB d0), ("deed", deedB d1), ("bound", B2), ("kind", B3), ("town", B4), ("first", wholeB d5 0 59), ("last", B6), ("over", wholeB d7 0 1000000000000), ("paper", B8)] : List (Str × Bool)) := ⟨_, rfl⟩
  have lce : ∀ (env0 : Env) (S : Store), env0.length = 13 → lcLoop (pTup (pCons (pName 11) (pCons (pName 12) pNil))) (bNot (bOf (eVar 12))) (eVar 11) env0 (LK.map pairD) [] S = .ok ((LK.filter (fun p => !p.2)).map fun p => .str p.1) S := fun env0 S he => wr_lc (S := S) (env0 := env0) (lk := LK) (by simp [hLK]) he
  have fe := fun env S h => first_e (S := S) (env := env) (lk := LK) h
  have elk : looks d0 d1 d2 d3 d4 d5 d6 d7 d8 = LK := by
    unfold looks
    rw [hb, hk, ht, hla, hp, hLK]
  rw [elk]
  rw [u_sSeq, u_sSet, u_eLC, u_itAny, frz_step (n := S.length + 2) (l := [pairD ("name", nameB d0), pairD ("deed", deedB d1), pairD ("bound", B2), pairD ("kind", B3), pairD ("town", B4), pairD ("first", wholeB d5 0 59), pairD ("last", B6), pairD ("over", wholeB d7 0 1000000000000), pairD ("paper", B8)]) (by simp) (by simp [pairD])]
  rw [bnd_ok]
  dsimp only
  rw [bnd_ok]
  have e9 : LK.map pairD = [pairD ("name", nameB d0), pairD ("deed", deedB d1), pairD ("bound", B2), pairD ("kind", B3), pairD ("town", B4), pairD ("first", wholeB d5 0 59), pairD ("last", B6), pairD ("over", wholeB d7 0 1000000000000), pairD ("paper", B8)] := by rw [hLK]; rfl
  rw [e9] at lce
  rw [lce _ _ rfl, bnd_ok, bnd_ok, bnd_ok]
  dsimp only
  rw [fe _ _ rfl, bnd_ok]
  dsimp only
  exact ⟨_, by rw [List.set_append_right _ _ (by omega)]⟩
end Ro
end
section
set_option Elab.async false
set_option linter.all false
set_option maxRecDepth 100000
set_option maxHeartbeats 1000000
namespace Ro
open PySem
variable {S : Store} {env : Env}
def oS : Option Str → D
  | none => .non
  | some z => .str z
def oI : Option Int → D
  | none => .non
  | some z => .int z
def oB : Option Bool → D
  | none => .non
  | some z => .bl z
structure Ru where
  name : Str
  deed : Str
  bound : Int
  kind : Option Str
  town : Option Int
  first : Int
  last : Int
  over : Int
  paper : Option Bool
def Ru.ds (r : Ru) : List D := [.str r.name, .str r.deed, .int r.bound, oS r.kind, oI r.town, .int r.first, .int r.last, .int r.over, oB r.paper]
def Ru.obj (r : Ru) : D := .obj "Rule" r.ds
structure Ru.ok (r : Ru) : Prop where
  name : nameOk r.name = true
  deed : r.deed ∈ deeds
  b0 : 0 ≤ r.bound
  b1 : r.bound ≤ lim r.deed
  kind : ∀ z, r.kind = some z → z ∈ kinds
  town : ∀ z, r.town = some z → 0 ≤ z ∧ z ≤ 3
  f0 : 0 ≤ r.first
  fl : r.first ≤ r.last
  l1 : r.last ≤ 59
  o0 : 0 ≤ r.over
  o1 : r.over ≤ 1000000000000
theorem lim_bd {z : Str} : 0 ≤ lim z ∧ lim z ≤ 1000000000000 := by
  unfold lim
  split
  · decide
  · split
    · decide
    · split <;> decide
theorem nameOk_len {z : Str} (h : nameOk z = true) : 1 ≤ z.length ∧ z.length ≤ 8 := by
  unfold nameOk at h
  simp only [Bool.and_eq_true, decide_eq_true_eq] at h
  exact h.1
theorem deed_len {z : Str} (h : z ∈ deeds) : z.length ≤ 100 := by
  unfold deeds at h
  simp at h
  rcases h with rfl | rfl | rfl | rfl | rfl <;> decide
theorem kind_len {z : Str} (h : z ∈ kinds) : z.length ≤ 100 := by
  unfold kinds at h
  simp at h
  rcases h with rfl | rfl | rfl | rfl | rfl <;> decide
theorem okD_str {z : Str} (h : z.length ≤ 16777216) : okD (.str z) = true := decide_eq_true h
theorem Ru.ok.looks {r : Ru} (h : r.ok) : firstW (looks (.str r.name) (.str r.deed) (.int r.bound) (oS r.kind) (oI r.town) (.int r.first) (.int r.last) (.int r.over) (oB r.paper)) = .non := by
  have h1 := h.b0
  have h2 := h.b1
  have h3 := h.f0
  have h4 := h.fl
  have h5 := h.l1
  have h6 := h.o0
  have h7 := h.o1
  have h8 : r.first ≤ 59 := by omega
  have a1 : (isNonD (oS r.kind) || kindB (oS r.kind)) = true := by
    cases z : r.kind with
    | none => rfl
    | some k => simp [oS, kindB, h.kind k z]
  have a2 : (isNonD (oI r.town) || wholeB (oI r.town) 0 3) = true := by
    cases z : r.town with
    | none => rfl
    | some k => simp [oI, wholeB, h.town k z]
  have a3 : (isNonD (oB r.paper) || blB (oB r.paper)) = true := by
    cases z : r.paper with
    | none => rfl
    | some k => rfl
  unfold firstW Ro.looks
  rw [a1, a2, a3]
  simp [nameB, h.name, deedB, h.deed, limD, wholeB, wholeL, h1, h2, h3, h4, h5, h6, h7, h8]
theorem Ru.ok.okDs {r : Ru} (h : r.ok) : ∀ d ∈ r.ds, okD d = true := by
  have a1 := nameOk_len h.name
  have a2 := deed_len h.deed
  have e1 : okD (.str r.name) = true := okD_str (by omega)
  have e2 : okD (.str r.deed) = true := okD_str (by omega)
  have e3 : okD (oS r.kind) = true := by
    cases z : r.kind with
    | none => rfl
    | some k => exact okD_str (by have := kind_len (h.kind k z); omega)
  have e4 : okD (oI r.town) = true := by cases r.town <;> rfl
  have e5 : okD (oB r.paper) = true := by cases r.paper <;> rfl
  unfold Ru.ds
  intro d hd
  simp at hd
  rcases hd with rfl | rfl | rfl | rfl | rfl | rfl | rfl | rfl | rfl <;> first | assumption | rfl
theorem Ru.ok.wrong {r : Ru} (h : r.ok) : ∃ X, m_wrong_part r.ds S = .ok .non (S ++ X) := by
  have k := h.okDs
  unfold Ru.ds at k
  simp only [List.mem_cons, List.not_mem_nil, or_false, forall_eq_or_imp, forall_eq] at k
  obtain ⟨k0, k1, k2, k3, k4, k5, k6, k7, k8⟩ := k
  obtain ⟨X, e⟩ := wrong_b (S := S) k0 k1 k2 k3 k4 k5 k6 k7 k8
  rw [h.looks] at e
  exact ⟨X, e⟩
theorem init_ok {n : Nat} {r : Ru} (h : r.ok) (hS : S[n]? = some (.ins "Rule" [])) : ∃ X, m_Rule_init (.ref n :: r.ds) S = .ok .non (S.set n (.ins "Rule" [("name", .str r.name), ("deed", .str r.deed), ("bound", .int r.bound), ("kind", oS r.kind), ("town", oI r.town), ("first", .int r.first), ("last", .int r.last), ("over", .int r.over), ("paper", oB r.paper)]) ++ X) := by
  have hn : n < S.length := (List.getElem?_eq_some_iff.mp hS).1
  obtain ⟨X, e⟩ := h.wrong (S := S)
  unfold Ru.ds at e ⊢
  have g : ∀ c : Cell, (S.set n c ++ X)[n]? = some c := fun c => by rw [List.getElem?_append_left (by simpa using hn), List.getElem?_set_self hn]
  have g0 : (S ++ X)[n]? = some (.ins "Rule" []) := by rw [List.getElem?_append_left hn, hS]
  have s0 : ∀ c : Cell, (S ++ X).set n c = S.set n c ++ X := fun c => by rw [List.set_append_left _ _ hn]
  have s1 : ∀ c c' : Cell, (S.set n c ++ X).set n c' = S.set n c' ++ X := fun c c' => by rw [List.set_append_left _ _ (by simpa using hn), List.set_set]
  have en : notND .non .non = some (.bl false) := rfl
  refine ⟨X, ?_⟩
  unfold m_Rule_init b_Rule_init
  simp [e, en, -List.getElem?_append, -List.set_append, g, g0, s0, s1, setF]
theorem frz_rule {xs zs : List D} {pk : List (Nat × Nat)} {n kn : Nat} {dfs : List D} {r : Ru} (h : r.ok) (hp : pick pk (.ref S.length :: xs) dfs zs = .ref S.length :: r.ds) (h1 : xs.length + 1 = n) (h2 : zs.length = kn) :
    ∃ X, frzM cf (newM "Rule" (callM m_Rule_init n kn 10 pk dfs) xs zs S) = .ok r.obj (S ++ X) := by
  have hS : (S ++ [Cell.ins "Rule" []])[S.length]? = some (.ins "Rule" []) := by simp
  obtain ⟨X, e⟩ := init_ok (S := S ++ [.ins "Rule" []]) h hS
  refine ⟨.dead :: X, ?_⟩
  unfold newM
  rw [u_callM, if_pos ⟨by simp [← h1], h2, by rw [hp]; simp [Ru.ds]⟩, hp, e]
  simp [frzM, cf, Ru.obj, Ru.ds]
theorem made_ok {r : Ru} (h : r.ok) : ∃ X, m__law_made [.tup r.ds] S = .ok r.obj (S ++ X) := by
  obtain ⟨X, hn⟩ := frz_rule (S := S) (r := r) (n := 2) (kn := 8) (xs := [.str r.name]) (zs := [.str r.deed, .int r.bound, oS r.kind, oI r.town, .int r.first, .int r.last, .int r.over, oB r.paper]) (pk := [(0, 0), (0, 1), (2, 0), (2, 1), (2, 2), (2, 3), (2, 4), (2, 5), (2, 6), (2, 7)]) (dfs := [.str "let", .int 0, .non, .non, .int 0, .int 59, .int 0, .non]) h rfl rfl rfl
  refine ⟨X, ?_⟩
  unfold m__law_made b__law_made
  have d0 : ∀ S : Store, idxB (.tup r.ds) (.int 0) S = some (.str r.name) := fun _ => rfl
  have d1 : ∀ S : Store, idxB (.tup r.ds) (.int 1) S = some (.str r.deed) := fun _ => rfl
  have d2 : ∀ S : Store, idxB (.tup r.ds) (.int 2) S = some (.int r.bound) := fun _ => rfl
  have d3 : ∀ S : Store, idxB (.tup r.ds) (.int 3) S = some (oS r.kind) := fun _ => rfl
  have d4 : ∀ S : Store, idxB (.tup r.ds) (.int 4) S = some (oI r.town) := fun _ => rfl
  have d5 : ∀ S : Store, idxB (.tup r.ds) (.int 5) S = some (.int r.first) := fun _ => rfl
  have d6 : ∀ S : Store, idxB (.tup r.ds) (.int 6) S = some (.int r.last) := fun _ => rfl
  have d7 : ∀ S : Store, idxB (.tup r.ds) (.int 7) S = some (.int r.over) := fun _ => rfl
  have d8 : ∀ S : Store, idxB (.tup r.ds) (.int 8) S = some (oB r.paper) := fun _ => rfl
  simp [-idx_tup, d0, d1, d2, d3, d4, d5, d6, d7, d8, hn]
end Ro
end
section
set_option Elab.async false
set_option linter.all false
set_option maxRecDepth 100000
set_option maxHeartbeats 1000000
namespace Ro
open PySem
variable {S : Store} {env : Env}
theorem Bs.refl {b : Nat} (h : Bx S b) : Bs S b S := by
  obtain ⟨x, y, e, h1, h2⟩ := h
  exact ⟨x, y, h1, h2, (set_same e).symm⟩
theorem lbound_ok {b : Nat} {act : Str} (hB : Bx S b) (ha : act ∈ deeds) : W (m__law_bound [.ref b, .str act] S) fun d S' => ∃ i : Int, d = .int i ∧ 0 ≤ i ∧ i ≤ lim act ∧ Bs S b S' := by
  unfold m__law_bound
  rw [x__law_bound]
  unfold t__law_bound_2
  unfold deeds at ha
  simp only [List.mem_cons, List.not_mem_nil, or_false] at ha
  have eqs : ∀ x y : Str, eqD (.str x) (.str y) = some (.bl (decide (x = y))) := fun x y => rfl
  rcases ha with rfl | rfl | rfl | rfl | rfl
  · unfold t__law_bound_4 t__law_bound_6 t__law_bound_8
    have e1 : ¬ ("let" : Str) = "cut" := by decide
    have e2 : ¬ ("let" : Str) = "each" := by decide
    have e3 : ¬ ("let" : Str) = "hundredths" := by decide
    simp [eqs, e1, e2, e3]
    exact ⟨by decide, Bs.refl hB⟩
  · simp [eqs]
    refine (take_ok hB (by decide)).mono ?_
    rintro _ S1 ⟨⟨i1, rfl, a1, b1⟩, s1⟩
    have B1 := s1.bx hB.lt
    try simp
    refine (take_ok B1 (by decide)).mono ?_
    rintro _ S2 ⟨⟨i2, rfl, a2, b2⟩, s2⟩
    have B2 := s2.bx B1.lt
    try simp
    refine (take_ok B2 (by decide)).mono ?_
    rintro _ S3 ⟨⟨i3, rfl, a3, b3⟩, s3⟩
    obtain ⟨_, ek, k, rfl, k1, k2⟩ := pick_ok (l := [.int 0, .int (1 + i1), .int 1000000000000, .int i2]) (P := fun d => ∃ z : Int, d = .int z ∧ 0 ≤ z ∧ z ≤ 1000000000000) a3 (by simpa using b3) (by simp; omega)
    simp [ek]
    exact ⟨k1, k2, (s1.trans s2).trans s3⟩
  · unfold t__law_bound_4
    have e1 : ¬ ("each" : Str) = "cut" := by decide
    simp [eqs, e1]
    refine (take_ok hB (by decide)).mono ?_
    rintro _ S1 ⟨⟨i1, rfl, a1, b1⟩, s1⟩
    have B1 := s1.bx hB.lt
    try simp
    refine (take_ok B1 (by decide)).mono ?_
    rintro _ S2 ⟨⟨i2, rfl, a2, b2⟩, s2⟩
    obtain ⟨_, ek, k, rfl, k1, k2⟩ := pick_ok (l := [.int 0, .int 1, .int 2, .int 1000, .int i1]) (P := fun d => ∃ z : Int, d = .int z ∧ 0 ≤ z ∧ z ≤ 1000) a2 (by simpa using b2) (by simp; omega)
    simp [ek]
    exact ⟨k1, k2, s1.trans s2⟩
  · unfold t__law_bound_4 t__law_bound_6
    have e1 : ¬ ("hundredths" : Str) = "cut" := by decide
    have e2 : ¬ ("hundredths" : Str) = "each" := by decide
    simp [eqs, e1, e2]
    refine (take_ok hB (by decide)).mono ?_
    rintro _ S1 ⟨⟨i1, rfl, a1, b1⟩, s1⟩
    have B1 := s1.bx hB.lt
    try simp
    refine (take_ok B1 (by decide)).mono ?_
    rintro _ S2 ⟨⟨i2, rfl, a2, b2⟩, s2⟩
    obtain ⟨_, ek, k, rfl, k1, k2⟩ := pick_ok (l := [.int 0, .int 1, .int 50, .int 99, .int 100, .int i1]) (P := fun d => ∃ z : Int, d = .int z ∧ 0 ≤ z ∧ z ≤ 100) a2 (by simpa using b2) (by simp; omega)
    simp [ek]
    exact ⟨k1, k2, s1.trans s2⟩
  · unfold t__law_bound_4 t__law_bound_6 t__law_bound_8
    have e1 : ¬ ("refuse" : Str) = "cut" := by decide
    have e2 : ¬ ("refuse" : Str) = "each" := by decide
    have e3 : ¬ ("refuse" : Str) = "hundredths" := by decide
    simp [eqs, e1, e2, e3]
    exact ⟨by decide, Bs.refl hB⟩
theorem ruled_ok {b : Nat} {title : Str} (hB : Bx S b) (hn : nameOk title = true) : W (m__law_ruled [.ref b, .str title] S) fun d S' => ∃ r : Ru, r.ok ∧ r.name = title ∧ d = .tup r.ds ∧ Bs S b S' := by
  unfold m__law_ruled
  rw [x__law_ruled]
  try simp
  refine (take_ok hB (by decide)).mono ?_
  rintro _ S1 ⟨⟨i1, rfl, a1, b1⟩, s1⟩
  have B1 := s1.bx hB.lt
  obtain ⟨_, ek, act, hact, rfl⟩ := pick_ok (l := [.str "let", .str "cut", .str "each", .str "hundredths", .str "refuse"]) (P := fun d => ∃ z ∈ deeds, d = .str z) a1 (by simpa using b1) (by simp [deeds])
  simp [ek]
  unfold t__law_ruled_2
  try simp
  refine (lbound_ok B1 hact).mono ?_
  rintro _ S2 ⟨bd, rfl, bd0, bd1, s2⟩
  have B2 := s2.bx B1.lt
  unfold t__law_ruled_3
  try simp
  refine (take_ok (n := 6) B2 (by decide)).mono ?_
  rintro _ S3 ⟨⟨i3, rfl, a3, b3⟩, s3⟩
  have B3 := s3.bx B2.lt
  try simp
  refine (take_ok (n := 3) B3 (by decide)).mono ?_
  rintro _ S4 ⟨⟨i4, rfl, a4, b4⟩, s4⟩
  have B4 := s4.bx B3.lt
  have bi : ∀ c : Bool, bInt [.bl c] = some (.int (if c then 1 else 0)) := fun c => by cases c <;> rfl
  obtain ⟨m, hm, hm0, hm1⟩ : ∃ m : Int, i3 * (if 0 < i4 then 1 else 0) = m ∧ 0 ≤ m ∧ m < 6 := by
    refine ⟨_, rfl, ?_, ?_⟩ <;> split <;> simp <;> omega
  have mo : mulOk i3 (if 0 < i4 then 1 else 0) = true := mulOk_lt (n := 4) (m := 2) (by omega) (by split <;> decide) (by decide)
  simp [bi, mo, hm]
  unfold t__law_ruled_4
  obtain ⟨_, es, kd, hkd, rfl⟩ := pick_ok (l := [.non, .str "bed", .str "fee", .str "meal", .str "ride", .str "sundry"]) (P := fun d => ∃ k : Option Str, (∀ z, k = some z → z ∈ kinds) ∧ d = oS k) hm0 (by simpa using hm1) (by
    intro d hd
    simp at hd
    rcases hd with rfl | rfl | rfl | rfl | rfl | rfl
    · exact ⟨none, by simp, rfl⟩
    all_goals exact ⟨some _, by intro z hz; cases hz; decide, rfl⟩)
  simp [es]
  unfold t__law_ruled_5
  try simp
  refine (take_ok (n := 4) B4 (by decide)).mono ?_
  rintro _ S5 ⟨⟨i5, rfl, a5, b5⟩, s5⟩
  have B5 := s5.bx B4.lt
  try simp
  refine (take_ok (n := 2) B5 (by decide)).mono ?_
  rintro _ S6 ⟨⟨i6, rfl, a6, b6⟩, s6⟩
  have B6 := s6.bx B5.lt
  obtain ⟨_, et, tw, htw, rfl⟩ := pick_ok (l := [.non, .int i5]) (P := fun d => ∃ k : Option Int, (∀ z, k = some z → 0 ≤ z ∧ z ≤ 3) ∧ d = oI k) a6 (by simpa using b6) (by
    intro d hd
    simp at hd
    rcases hd with rfl | rfl
    · exact ⟨none, by simp, rfl⟩
    · exact ⟨some i5, by intro z hz; cases hz; omega, rfl⟩)
  simp [et]
  unfold t__law_ruled_6
  try simp
  refine (take_ok (n := 60) B6 (by decide)).mono ?_
  rintro _ S7 ⟨⟨i7, rfl, a7, b7⟩, s7⟩
  have B7 := s7.bx B6.lt
  try simp
  refine (take_ok (n := 3) B7 (by decide)).mono ?_
  rintro _ S8 ⟨⟨i8, rfl, a8, b8⟩, s8⟩
  have B8 := s8.bx B7.lt
  obtain ⟨_, ef, fi, rfl, f0, f1⟩ := pick_ok (l := [.int 0, .int 0, .int i7]) (P := fun d => ∃ z : Int, d = .int z ∧ 0 ≤ z ∧ z ≤ 59) a8 (by simpa using b8) (by simp; omega)
  simp [ef]
  unfold t__law_ruled_7
  try simp
  refine (take_ok (n := 60 - fi) B8 (by omega)).mono ?_
  rintro _ S9 ⟨⟨i9, rfl, a9, b9⟩, s9⟩
  have B9 := s9.bx B8.lt
  try simp
  refine (take_ok (n := 3) B9 (by decide)).mono ?_
  rintro _ S10 ⟨⟨i10, rfl, a10, b10⟩, s10⟩
  have B10 := s10.bx B9.lt
  obtain ⟨_, el, la, rfl, l0, l1⟩ := pick_ok (l := [.int 59, .int 59, .int (fi + i9)]) (P := fun d => ∃ z : Int, d = .int z ∧ fi ≤ z ∧ z ≤ 59) a10 (by simpa using b10) (by simp; omega)
  simp [el]
  unfold t__law_ruled_8
  try simp
  refine (take_ok (n := 400) B10 (by decide)).mono ?_
  rintro _ S11 ⟨⟨i11, rfl, a11, b11⟩, s11⟩
  have B11 := s11.bx B10.lt
  try simp
  refine (take_ok (n := 1000000000000) B11 (by decide)).mono ?_
  rintro _ S12 ⟨⟨i12, rfl, a12, b12⟩, s12⟩
  have B12 := s12.bx B11.lt
  try simp
  refine (take_ok (n := 5) B12 (by decide)).mono ?_
  rintro _ S13 ⟨⟨i13, rfl, a13, b13⟩, s13⟩
  have B13 := s13.bx B12.lt
  obtain ⟨_, eo, ov, rfl, o0, o1⟩ := pick_ok (l := [.int 0, .int 0, .int i11, .int 1000000000000, .int i12]) (P := fun d => ∃ z : Int, d = .int z ∧ 0 ≤ z ∧ z ≤ 1000000000000) a13 (by simpa using b13) (by simp; omega)
  simp [eo]
  unfold t__law_ruled_9
  try simp
  refine (take_ok (n := 4) B13 (by decide)).mono ?_
  rintro _ S14 ⟨⟨i14, rfl, a14, b14⟩, s14⟩
  obtain ⟨_, ep, pa, rfl⟩ := pick_ok (l := [.non, .non, .bl true, .bl false]) (P := fun d => ∃ k : Option Bool, d = oB k) a14 (by simpa using b14) (by
    intro d hd
    simp at hd
    rcases hd with rfl | rfl | rfl
    · exact ⟨none, rfl⟩
    · exact ⟨some true, rfl⟩
    · exact ⟨some false, rfl⟩)
  simp [ep]
  unfold t__law_ruled_10
  try simp
  refine ⟨⟨title, act, bd, kd, tw, fi, la, ov, pa⟩, ⟨hn, hact, bd0, bd1, hkd, htw, f0, l0, l1, o0, o1⟩, rfl, rfl, ?_⟩
  exact ((((((((((((s1.trans s2).trans s3).trans s4).trans s5).trans s6).trans s7).trans s8).trans s9).trans s10).trans s11).trans s12).trans s13).trans s14
end Ro
end
section
set_option Elab.async false
set_option linter.all false
set_option maxRecDepth 100000
set_option maxHeartbeats 1000000
namespace Ro
open PySem L2
variable {S : Store} {env : Env}
open Txt TL in
theorem join_nil_cps (ps : List Str) : (Txt.join ("" : Str) ps).cps.toList = (ps.map fun p => p.cps.toList).flatten := by
  rw [join_eq]
  have h := tl_join ("" : Str) ps
  have e : ∀ l : List (List Nat), joinL (tl ("" : Str)) l = l.flatten := by
    intro l
    have e0 : tl ("" : Str) = [] := rfl
    rw [e0]
    induction l with
    | nil => rfl
    | cons p r ih => cases r with
      | nil => simp [joinL]
      | cons q r => simp only [joinL, List.nil_append, ih, List.flatten_cons]
  rw [e] at h
  exact h
/-- texts of one letter -/
def Let1 (d : D) : Prop := ∃ c, c ∈ lets ∧ d = .str ⟨#[c]⟩
theorem join_let : ∀ {l : List D}, (∀ d ∈ l, Let1 d) → ∃ cs : List Nat, cs.length = l.length ∧ (∀ c ∈ cs, c ∈ lets) ∧ dStrs l = some (cs.map fun c => ⟨#[c]⟩)
  | [], _ => ⟨[], rfl, by simp, rfl⟩
  | d :: l, h => by
    obtain ⟨c, hc, rfl⟩ := h d (by simp)
    obtain ⟨cs, h1, h2, h3⟩ := join_let (l := l) (fun x hx => h x (by simp [hx]))
    refine ⟨c :: cs, by simp [h1], ?_, ?_⟩
    · intro x hx
      rcases List.mem_cons.mp hx with rfl | hx
      · exact hc
      · exact h2 x hx
    · rw [dStrs, h3]
      rfl
theorem join_name {l : List D} (h : ∀ d ∈ l, Let1 d) (h1 : 1 ≤ l.length) (h8 : l.length ≤ 8) : ∃ z, joinD (.str "") (.lst l) = some (.str z) ∧ nameOk z = true := by
  obtain ⟨cs, k1, k2, k3⟩ := join_let h
  have hj : joinOk "" (cs.map fun c => (⟨#[c]⟩ : Str)) = true := by
    unfold joinOk
    have e0 : ("" : Str).length = 0 := rfl
    have e : ((cs.map fun c => (⟨#[c]⟩ : Str)).map (·.length)).sum = cs.length := by
      rw [List.map_map]
      have : ∀ cs : List Nat, (cs.map ((fun x : Str => x.length) ∘ fun c => (⟨#[c]⟩ : Str))).sum = cs.length := by
        intro cs
        induction cs with
        | nil => rfl
        | cons c cs ih => simp only [List.map_cons, List.sum_cons, ih, List.length_cons]; show 1 + _ = _; omega
      exact this cs
    rw [e, e0]
    simp
    omega
  refine ⟨Txt.join "" (cs.map fun c => (⟨#[c]⟩ : Str)), ?_, ?_⟩
  · unfold joinD
    simp only [k3, Option.bind_some]
    rw [if_pos hj]
  · have e := join_nil_cps (cs.map fun c => (⟨#[c]⟩ : Str))
    have e2 : ((cs.map fun c => (⟨#[c]⟩ : Str)).map fun p => p.cps.toList).flatten = cs := by
      rw [List.map_map]
      have : ∀ cs : List Nat, (cs.map ((fun p : Str => p.cps.toList) ∘ fun c => (⟨#[c]⟩ : Str))).flatten = cs := by
        intro cs
        induction cs with
        | nil => rfl
        | cons c cs ih => simp only [List.map_cons, List.flatten_cons, ih]; rfl
      exact this cs
    rw [e2] at e
    generalize Txt.join "" (cs.map fun c => (⟨#[c]⟩ : Str)) = z at e
    have hl : z.length = cs.length := by
      have : z.cps.toList.length = z.length := by simp [Str.length]
      rw [← this, e]
    unfold nameOk
    rw [e, hl]
    simp only [Bool.and_eq_true, decide_eq_true_eq, List.all_eq_true]
    exact ⟨⟨by omega, by omega⟩, fun c hc => k2 c hc⟩
theorem let_at {i : Int} (h0 : 0 ≤ i) (h1 : i < 26) : ∃ d, (∀ S : Store, idxB (.str "abcdefghijklmnopqrstuvwxyz") (.int i) S = some d) ∧ Let1 d := by
  have hl : i.toNat < lets.length := by have : lets.length = 26 := by decide +kernel
                                        omega
  have e : (i.toNat : Int) = i := Int.toNat_of_nonneg h0
  refine ⟨.str ⟨#[lets[i.toNat]]⟩, fun S => ?_, _, List.getElem_mem hl, rfl⟩
  have e2 : atP lets i = some lets[i.toNat] := by
    have := ix_nn _ _ hl
    rw [e] at this
    unfold atP
    rw [this]
    simp [hl]
  show (if ("abcdefghijklmnopqrstuvwxyz" : Str).length ≤ LINE then (atP lets i).map fun c => D.str ⟨#[c]⟩ else none) = _
  rw [if_pos (by decide +kernel), e2]
  rfl
theorem lname_ok {b : Nat} (hB : Bx S b) : W (m__law_name [.ref b] S) fun d S' => ∃ z : Str, d = .str z ∧ nameOk z = true ∧ Bs S b S' := by
  unfold m__law_name
  rw [x__law_name]
  simp
  unfold t__law_name_2
  simp
  refine (take_ok (n := 8) hB (by decide)).mono ?_
  rintro _ S1 ⟨⟨i1, rfl, a1, b1⟩, s1⟩
  have B1 := s1.bx hB.lt
  try simp
  refine (take_ok (n := 3) B1 (by decide)).mono ?_
  rintro _ S2 ⟨⟨i2, rfl, a2, b2⟩, s2⟩
  have B2 := s2.bx B1.lt
  obtain ⟨_, ek, k, rfl, k0, k1⟩ := pick_ok (l := [.int 1, .int 8, .int (1 + i1)]) (P := fun d => ∃ z : Int, d = .int z ∧ 1 ≤ z ∧ z ≤ 8) a2 (by simpa using b2) (by simp; omega)
  simp [ek]
  unfold t__law_name_3
  have hs : -4611686018427387904 ≤ k ∧ k < 4611686018427387904 := by omega
  have uj : ∀ (f : EX) (env : Env) (S : Store), eJoin (eC (.str "")) f env S = (f env S).bnd fun y S2 => lift (joinD (.str "") y) S2 := fun _ _ _ => rfl
  simp [uj, hs]
  refine W.lc (I := fun i acc S' => acc.length = i ∧ (∀ d ∈ acc, Let1 d) ∧ Bs S2 b S') (k := 0) ⟨rfl, by simp, Bs.refl B2⟩ (by simp; omega) (fun i x acc S3 hi hx hI => ?_) (fun acc S3 hI => ?_)
  · obtain ⟨rfl, h2, s3⟩ := hI
    have B3 := s3.bx B2.lt
    refine ⟨_, rfl, ?_⟩
    simp [wipeE]
    refine (take_ok (n := 26) B3 (by decide)).mono ?_
    rintro _ S4 ⟨⟨i4, rfl, a4, b4⟩, s4⟩
    obtain ⟨d, hd, hL⟩ := let_at a4 b4
    simp [hd]
    refine ⟨?_, s3.trans s4⟩
    intro y hy
    rcases hy with hy | rfl
    · exact h2 y hy
    · exact hL
  · obtain ⟨h1, h2, s3⟩ := hI
    simp at h1
    obtain ⟨z, hz, hn⟩ := join_name h2 (by omega) (by omega)
    simp [hz]
    exact ⟨hn, (s1.trans s2).trans s3⟩
end Ro
end
section
set_option Elab.async false
set_option linter.all false
set_option maxRecDepth 100000
set_option maxHeartbeats 1000000
namespace Ro
open PySem
variable {S : Store}
/-- a small plain part -/
structure SmA (d : D) : Prop where
  pl : plN 3 d = true
  sh : (toPy d).showable = true
  ln : (toPy d).shown.length ≤ 1000
theorem int_sm {i : Int} (h : i.natAbs < 10 ^ 100) : (PyData.int i).showable = true ∧ (PyData.shown (.int i)).length ≤ 101 := by
  refine ⟨?_, ?_⟩
  · simp only [PyData.showable, decide_eq_true_eq]
    by_cases c : i.natAbs = 0
    · rw [c]; decide
    · have := (Nat.log2_lt (n := i.natAbs) (k := 400) c).mpr (by
        have : (10 : Nat) ^ 100 < 2 ^ 400 := by decide
        omega)
      omega
  · show (Str.ofString (toString i)).length ≤ _
    rw [ofString_length]
    exact int_text_length_le10 (by decide) h
theorem smA_int {i : Int} (h : i.natAbs < 10 ^ 100) : SmA (.int i) := ⟨rfl, (int_sm h).1, Nat.le_trans (int_sm h).2 (by decide)⟩
theorem pyAll_sh : ∀ {l : List D}, (∀ x ∈ l, SmA x) → PyData.showableAll (toPys l) = true ∧ (∀ t ∈ PyData.shownAll (toPys l), t.length ≤ 1000) ∧ (PyData.shownAll (toPys l)).length = l.length ∧ l.all (plN 3) = true
  | [], _ => ⟨rfl, by simp [toPys, PyData.shownAll], rfl, rfl⟩
  | x :: l, h => by
    obtain ⟨h1, h2, h3, h4⟩ := pyAll_sh (l := l) fun y hy => h y (by simp [hy])
    have hx := h x (by simp)
    refine ⟨by simp [toPys, PyData.showableAll, h1, hx.sh], ?_, by simp [toPys, PyData.shownAll, h3], by simp [hx.pl]; simpa using h4⟩
    intro t ht
    simp only [toPys, PyData.shownAll, List.mem_cons] at ht
    rcases ht with rfl | ht
    · exact hx.ln
    · exact h2 t ht
theorem pl_mono : ∀ {n m : Nat} {d : D}, n ≤ m → plN n d = true → plN m d = true
  | _, _, .non, _, _ => by simp
  | _, _, .bl _, _, _ => by simp
  | _, _, .int _, _, _ => by simp
  | _, _, .str _, _, _ => by simp
  | 0, _, .tup l, _, h => by simp [plN] at h
  | 0, _, .lst l, _, h => by simp [plN] at h
  | n + 1, 0, _, h, _ => by omega
  | n + 1, m + 1, .tup l, h, k => by
    have k' : ∀ x ∈ l, plN n x = true := by simpa using k
    show l.all (plN m) = true
    rw [List.all_eq_true]
    intro x hx
    exact pl_mono (by omega) (k' x hx)
  | n + 1, m + 1, .lst l, h, k => by
    have k' : ∀ x ∈ l, plN n x = true := by simpa using k
    show l.all (plN m) = true
    rw [List.all_eq_true]
    intro x hx
    exact pl_mono (by omega) (k' x hx)
  | n, _, .scr _, _, h => by simp [plN] at h
  | n, _, .dct _, _, h => by simp [plN] at h
  | n, _, .obj _ _, _, h => by simp [plN] at h
  | n, _, .ref _, _, h => by simp [plN] at h
  | n, _, .fn _, _, h => by simp [plN] at h
  | n, _, .thk _ _, _, h => by simp [plN] at h
theorem textFrom_le {n : Nat} : ∀ (ts : List Str) (k : Nat) (acc : Str), (∀ t ∈ ts, t.length ≤ n) → (textFrom k acc ts).length ≤ acc.length + ts.length * (n + 2)
  | [], _, acc, _ => by simp [textFrom]
  | t :: ts, k, acc, h => by
    have h1 := h t (by simp)
    have ih := textFrom_le ts (k + 1) (acc ++ (if k > 0 then ", " else "" : String) ++ t) fun x hx => h x (by simp [hx])
    rw [PySem.strLen_append, PySem.strLen_append] at ih
    have e3 : (((if k > 0 then ", " else "" : String) : Str)).length ≤ 2 := by split <;> decide
    rw [textFrom, List.length_cons, Nat.add_mul]
    omega
theorem lstText_len {ts : List Str} {n : Nat} (h : ∀ t ∈ ts, t.length ≤ n) : (listText ts).length ≤ ts.length * (n + 2) + 4 := by
  have := textFrom_le ts 0 "[" h
  have e1 : ((("[" : String) : Str)).length = 1 := rfl
  unfold listText
  rw [PySem.strLen_append]
  have e2 : ((("]" : String) : Str)).length = 1 := rfl
  omega
theorem lstA {l : List D} (hl : l.length ≤ 12) (h : ∀ x ∈ l, SmA x) : reprOk (.lst l) = true := by
  obtain ⟨h1, h2, h3, h4⟩ := pyAll_sh h
  have hp : plD (.lst l) = true := by
    show l.all (plN 7) = true
    rw [List.all_eq_true] at h4 ⊢
    exact fun x hx => pl_mono (by decide) (h4 x hx)
  have hs : (toPy (.lst l)).showable = true := h1
  have hn : (toPy (.lst l)).shown.length ≤ LINE := by
    have := lstText_len h2
    rw [h3] at this
    show (listText (PyData.shownAll (toPys l))).length ≤ LINE
    have : l.length * (1000 + 2) ≤ 12 * 1002 := Nat.mul_le_mul_right _ hl
    simp
    omega
  unfold reprOk
  simp only [hp, hs, hn, decide_true, Bool.and_self]
end Ro
end
section
set_option Elab.async false
set_option linter.all false
set_option maxRecDepth 100000
set_option maxHeartbeats 1000000
namespace Ro
open PySem
variable {S : Store} {env : Env}
theorem dStrs_map (l : List Str) : dStrs (l.map D.str) = some l := by
  induction l with
  | nil => rfl
  | cons x l ih => rw [List.map_cons, dStrs, ih]; rfl
end Ro
end
section
set_option Elab.async false
set_option linter.all false
set_option maxRecDepth 100000
set_option maxHeartbeats 1000000
namespace Ro
open PySem
variable {S : Store} {env : Env}
structure Fit where
  kind : Str
  town : Int
  paper : Bool
  day : Int
  share : Int
structure Fit.ok (p : Fit) : Prop where
  kind : p.kind ∈ kinds
  t0 : 0 ≤ p.town
  t1 : p.town ≤ 3
  d0 : 0 ≤ p.day
  d1 : p.day ≤ 59
  s0 : 0 ≤ p.share
  s1 : p.share ≤ 1000000000000
def Fit.ds (p : Fit) : List D := [.str p.kind, .int p.town, .bl p.paper, .int p.day, .int p.share]
def rowsD (rs : List Ru) : D := .lst (rs.map fun r => .tup r.ds)
theorem lc_rows {rs : List Ru} {env0 : Env} {i : Int} {g : Ru → D} (hl : rs.length ≤ 100) (he : env0.length = 7) (hg : ∀ r : Ru, ∀ S : Store, idxB (.tup r.ds) (.int i) S = some (g r)) :
    lcLoop (pName 6) bYes (eIdxB (eVar 6) (eC (.int i))) env0 (rs.map fun r => .tup r.ds) [] S = .ok (rs.map g) S := by
  have key : ∀ (rs : List Ru) (acc : List D), acc.length + rs.length ≤ 100 → lcLoop (pName 6) bYes (eIdxB (eVar 6) (eC (.int i))) env0 (rs.map fun r => .tup r.ds) acc S = .ok (acc ++ rs.map g) S := by
    intro rs
    induction rs with
    | nil => intro acc _; simp [lcLoop]
    | cons r rs ih =>
      intro acc h
      simp at h
      rw [List.map_cons, lcLoop]
      simp only [u_pName]
      have e1 : eIdxB (eVar 6) (eC (.int i)) (env0.set 6 (some (.tup r.ds))) S = .ok (g r) S := by
        simp [-idx_tup, he, hg]
      rw [u_bYes, nox_ok, bnd_ok, if_pos rfl, e1, nox_ok, bnd_ok, if_pos (by simp; omega), ih _ (by simp; omega)]
      simp
  simpa using key rs [] (by simpa using hl)
theorem max_min {x : Int} : ∃ y : Int, bMin2 [.int x, .int 1000000000000] = some (.int y) ∧ ∃ z : Int, bMax2 [.int 0, .int y] = some (.int z) ∧ 0 ≤ z ∧ z ≤ 1000000000000 := by
  refine ⟨_, rfl, _, rfl, ?_, ?_⟩ <;> (repeat' split) <;> omega
theorem spot_ok {b : Nat} {rs : List Ru} (hB : Bx S b) (hr : ∀ r ∈ rs, r.ok) (hl : rs.length ≤ 8) : W (m__law_spot [.ref b, rowsD rs] S) fun d S' => ∃ p : Fit, p.ok ∧ d = .tup p.ds ∧ Bs S b S' := by
  unfold m__law_spot rowsD
  rw [x__law_spot]
  simp
  refine (take_ok (n := 5) hB (by decide)).mono ?_
  rintro _ S1 ⟨⟨i1, rfl, a1, b1⟩, s1⟩
  have B1 := s1.bx hB.lt
  obtain ⟨_, ek, kd, hkd, rfl⟩ := pick_ok (l := [.str "bed", .str "fee", .str "meal", .str "ride", .str "sundry"]) (P := fun d => ∃ z ∈ kinds, d = .str z) a1 (by simpa using b1) (by simp [kinds])
  simp [ek]
  unfold t__law_spot_2
  have o7 := fun env0 he S => lc_rows (S := S) (rs := rs) (env0 := env0) (i := 7) (g := fun r => .int r.over) (by omega) he (fun r S => rfl)
  have o2 := fun env0 he S => lc_rows (S := S) (rs := rs) (env0 := env0) (i := 2) (g := fun r => .int r.bound) (by omega) he (fun r S => rfl)
  have o5 := fun env0 he S => lc_rows (S := S) (rs := rs) (env0 := env0) (i := 5) (g := fun r => .int r.first) (by omega) he (fun r S => rfl)
  have o6 := fun env0 he S => lc_rows (S := S) (rs := rs) (env0 := env0) (i := 6) (g := fun r => .int r.last) (by omega) he (fun r S => rfl)
  have ad : ∀ l m : List D, l.length + m.length ≤ 100 → addD (.lst l) (.lst m) = some (.lst (l ++ m)) := fun l m h => by
    show (if l.length + m.length ≤ LINE then some (D.lst (l ++ m)) else none) = _
    rw [if_pos (by simp; omega)]
  obtain ⟨E1, hE1⟩ : ∃ E1 : List D, E1 = [.int 0, .int 1, .int 100, .int 1000000000000] ++ (rs.map fun r => .int r.over) ++ (rs.map fun r => .int r.bound) := ⟨_, rfl⟩
  have p1 : ∀ l : List D, eOp addD (eOp addD (eLst (aCons (eC (.int 0)) (aCons (eC (.int 1)) (aCons (eC (.int 100)) (aCons (eOp powD (eC (.int 10)) (eC (.int 12))) aNil))))) (eLC [6] (itAny (eVar 1)) (pName 6) bYes (eIdxB (eVar 6) (eC (.int 7))))) (eLC [6] (itAny (eVar 1)) (pName 6) bYes (eIdxB (eVar 6) (eC (.int 2))))
      [some (.ref b), some (.lst (rs.map fun r => .tup r.ds)), some (.str kd), none, none, none, none] S1 = .ok (.lst E1) S1 := fun _ => by
    have a1 := ad [.int 0, .int 1, .int 100, .int 1000000000000] (rs.map fun r => .int r.over) (by simp; omega)
    have a2 := ad ([.int 0, .int 1, .int 100, .int 1000000000000] ++ (rs.map fun r => .int r.over)) (rs.map fun r => .int r.bound) (by simp; omega)
    rw [← hE1] at a2
    simp at a1 a2
    simp [o7, o2, wipeE, a1, a2]
  rw [u_sSeq, u_sSet, p1 []]
  simp
  unfold t__law_spot_3
  have hlen : E1.length ≤ 20 ∧ 4 ≤ E1.length := by rw [hE1]; simp; omega
  have hmem : ∀ d ∈ E1, ∃ z : Int, d = .int z ∧ 0 ≤ z ∧ z ≤ 1000000000000 := by
    rw [hE1]
    intro d hd
    simp only [List.mem_append, List.mem_cons, List.not_mem_nil, or_false, List.mem_map] at hd
    rcases hd with ((rfl | rfl | rfl | rfl) | ⟨r, h, rfl⟩) | ⟨r, h, rfl⟩
    · exact ⟨_, rfl, by decide, by decide⟩
    · exact ⟨_, rfl, by decide, by decide⟩
    · exact ⟨_, rfl, by decide, by decide⟩
    · exact ⟨_, rfl, by decide, by decide⟩
    · exact ⟨_, rfl, (hr r h).o0, (hr r h).o1⟩
    · exact ⟨_, rfl, (hr r h).b0, by have := (hr r h).b1; have := @lim_bd r.deed; omega⟩
  generalize E1 = E1 at hlen hmem
  simp [bLenA, bLen, lenD]
  refine (take_ok (n := (E1.length : Int)) B1 (by omega)).mono ?_
  rintro _ S2 ⟨⟨i2, rfl, a2, b2⟩, s2⟩
  have B2 := s2.bx B1.lt
  obtain ⟨_, e2, x2, rfl, _⟩ := pick_ok a2 b2 hmem
  simp [e2]
  refine (take_ok (n := 4) B2 (by decide)).mono ?_
  rintro _ S3 ⟨⟨i3, rfl, a3, b3⟩, s3⟩
  have B3 := s3.bx B2.lt
  simp
  unfold t__law_spot_4
  obtain ⟨y, hy, z, hz, z0, z1⟩ := max_min (x := x2 + i3 - 1)
  simp [hy, hz]
  refine (take_ok (n := 500) B3 (by decide)).mono ?_
  rintro _ S4 ⟨⟨i4, rfl, a4, b4⟩, s4⟩
  have B4 := s4.bx B3.lt
  try simp
  refine (take_ok (n := 2) B4 (by decide)).mono ?_
  rintro _ S5 ⟨⟨i5, rfl, a5, b5⟩, s5⟩
  have B5 := s5.bx B4.lt
  obtain ⟨_, e5, sh, rfl, h0, h1⟩ := pick_ok (l := [.int z, .int i4]) (P := fun d => ∃ z : Int, d = .int z ∧ 0 ≤ z ∧ z ≤ 1000000000000) a5 (by simpa using b5) (by simp; omega)
  simp [e5]
  unfold t__law_spot_5
  simp
  refine (take_ok (n := 60) B5 (by decide)).mono ?_
  rintro _ S6 ⟨⟨i6, rfl, a6, b6⟩, s6⟩
  have B6 := s6.bx B5.lt
  obtain ⟨E2, hE2⟩ : ∃ E2 : List D, E2 = [.int 0, .int 59, .int i6] ++ (rs.map fun r => .int r.first) ++ (rs.map fun r => .int r.last) := ⟨_, rfl⟩
  have c1 := ad [.int 0, .int 59, .int i6] (rs.map fun r => .int r.first) (by simp; omega)
  have c2 := ad ([.int 0, .int 59, .int i6] ++ (rs.map fun r => .int r.first)) (rs.map fun r => .int r.last) (by simp; omega)
  rw [← hE2] at c2
  simp at c1 c2
  simp [o5, o6, wipeE, c1, c2]
  unfold t__law_spot_6
  have hlen2 : E2.length ≤ 20 ∧ 3 ≤ E2.length := by rw [hE2]; simp; omega
  have hmem2 : ∀ d ∈ E2, ∃ z : Int, d = .int z ∧ 0 ≤ z ∧ z ≤ 59 := by
    rw [hE2]
    intro d hd
    simp only [List.mem_append, List.mem_cons, List.not_mem_nil, or_false, List.mem_map] at hd
    rcases hd with ((rfl | rfl | rfl) | ⟨r, h, rfl⟩) | ⟨r, h, rfl⟩
    · exact ⟨_, rfl, by decide, by decide⟩
    · exact ⟨_, rfl, by decide, by decide⟩
    · exact ⟨_, rfl, a6, by omega⟩
    · have q := hr r h
      exact ⟨_, rfl, q.f0, by have := q.fl; have := q.l1; omega⟩
    · have q := hr r h
      exact ⟨_, rfl, by have := q.f0; have := q.fl; omega, q.l1⟩
  generalize E2 = E2 at hlen2 hmem2
  simp
  refine (take_ok (n := 4) B6 (by decide)).mono ?_
  rintro _ S7 ⟨⟨i7, rfl, a7, b7⟩, s7⟩
  have B7 := s7.bx B6.lt
  try simp
  refine (take_ok (n := 2) B7 (by decide)).mono ?_
  rintro _ S8 ⟨⟨i8, rfl, a8, b8⟩, s8⟩
  have B8 := s8.bx B7.lt
  simp [bLenA, bLen, lenD]
  refine (take_ok (n := (E2.length : Int)) B8 (by omega)).mono ?_
  rintro _ S9 ⟨⟨i9, rfl, a9, b9⟩, s9⟩
  obtain ⟨_, e9, dy, rfl, d0, d1⟩ := pick_ok a9 b9 hmem2
  simp [e9]
  exact ⟨⟨kd, i7, decide (i8 = 1), dy, sh⟩, ⟨hkd, a7, by show i7 ≤ 3; omega, d0, d1, h0, h1⟩, rfl, (((((((s1.trans s2).trans s3).trans s4).trans s5).trans s6).trans s7).trans s8).trans s9⟩
def spotB : D → Bool
  | .tup [a, b, c, e, f] => kindB a && (wholeB b 0 3 && (blB c && (wholeB e 0 59 && wholeB f 0 1000000000000)))
  | _ => false
theorem isbl_d {d : D} (k : okD d = true) : ∃ t, tyD d S = some t ∧ t ∈ tysL ∧ subTy t (.b "bool") = blB d := by
  cases d with
  | scr l => cases k
  | obj c l => cases k
  | ref n => cases k
  | fn n => cases k
  | thk n l => cases k
  | _ => exact ⟨_, rfl, by simp, by simp [blB]⟩
@[simp] theorem at_4 (d e c b a : D) (l : List D) : atP (d :: e :: c :: b :: a :: l) 4 = some a := by
  have : pyIx (d :: e :: c :: b :: a :: l).length 4 = some 4 := ix_nn _ 4 (by simp)
  unfold atP
  rw [this]
  rfl
theorem spot_b {d : D} (hd : okD d = true) (ht : ∀ l, d = .tup l → ∀ x ∈ l, okD x = true) : m_is_spot [d] S = .ok (.bl (spotB d)) S := by
  unfold m_is_spot
  rw [x_is_spot]
  cases d with
  | scr l => cases hd
  | obj c l => cases hd
  | ref n => cases hd
  | fn n => cases hd
  | thk n l => cases hd
  | tup l =>
    have ht := ht l rfl
    match l, ht with
    | [a, b, c, e, f], ht =>
      simp only [List.mem_cons, List.not_mem_nil, or_false, forall_eq_or_imp, forall_eq] at ht
      obtain ⟨k1, k2, k3, k4, k5⟩ := ht
      have q1 := fun S => kind_b (S := S) k1
      have q2 := fun S => whole_b (S := S) k2 0 3
      obtain ⟨t, t1, t2, t3⟩ := isbl_d (S := S) k3
      have q4 := fun S => whole_b (S := S) k4 0 59
      have q5 := fun S => whole_b (S := S) k5 0 1000000000000
      unfold spotB t_is_spot_3 t_is_spot_5
      cases z1 : kindB a
      · simp [bLenA, bLen, lenD, q1, z1]
      cases z2 : wholeB b 0 3
      · simp [bLenA, bLen, lenD, q1, z1, q2, z2]
      cases z3 : blB c
      · simp [bLenA, bLen, lenD, q1, z1, q2, z2, t1, t2, t3, z3]
      cases z4 : wholeB e 0 59
      · simp [bLenA, bLen, lenD, q1, z1, q2, z2, t1, t2, t3, z3, q4, z4]
      simp [bLenA, bLen, lenD, q1, z1, q2, z2, t1, t2, t3, z3, q4, z4, q5]
    | [], _ => simp [bLenA, bLen, lenD, spotB]
    | [_], _ => simp [bLenA, bLen, lenD, spotB]
    | [_, _], _ => simp [bLenA, bLen, lenD, spotB]
    | [_, _, _], _ => simp [bLenA, bLen, lenD, spotB]
    | [_, _, _, _], _ => simp [bLenA, bLen, lenD, spotB]
    | _ :: _ :: _ :: _ :: _ :: _ :: r, _ =>
      have : ¬ ((r.length : Int) + 1 + 1 + 1 + 1 + 1 + 1 = 5) := by omega
      simp [bLenA, bLen, lenD, spotB, this]
  | _ => simp [spotB]
def optB {α : Type} [DecidableEq α] (o : Option α) (x : α) : Bool := match o with
  | none => true
  | some y => decide (y = x)
def meetB (r : Ru) (p : Fit) : Bool := optB r.kind p.kind && (optB r.town p.town && (optB r.paper p.paper && ((decide (r.first ≤ p.day) && decide (p.day ≤ r.last)) && decide (r.over < p.share))))
theorem ne_s (x y : Str) : neD (.str x) (.str y) = some (.bl (!decide (x = y))) := by
  unfold neD
  simp
theorem ne_b (x y : Bool) : neD (.bl x) (.bl y) = some (.bl (!decide (x = y))) := by cases x <;> cases y <;> rfl
theorem opS (o : Option Str) : notND (oS o) .non = some (.bl o.isSome) := by cases o <;> rfl
theorem opI' (o : Option Int) : notND (oI o) .non = some (.bl o.isSome) := by cases o <;> rfl
theorem opB' (o : Option Bool) : notND (oB o) .non = some (.bl o.isSome) := by cases o <;> rfl
@[simp] theorem g_kind (r : Ru) : attrD cf ["Rule"] "kind" r.obj S = some (oS r.kind) := rfl
@[simp] theorem g_town (r : Ru) : attrD cf ["Rule"] "town" r.obj S = some (oI r.town) := rfl
@[simp] theorem g_paper (r : Ru) : attrD cf ["Rule"] "paper" r.obj S = some (oB r.paper) := rfl
@[simp] theorem g_first (r : Ru) : attrD cf ["Rule"] "first" r.obj S = some (.int r.first) := rfl
@[simp] theorem g_last (r : Ru) : attrD cf ["Rule"] "last" r.obj S = some (.int r.last) := rfl
@[simp] theorem g_over (r : Ru) : attrD cf ["Rule"] "over" r.obj S = some (.int r.over) := rfl
theorem mis_s {f g : EX} {o : Option Str} {x : Str} (hf : f env S = .ok (oS o) S) (hg : g env S = .ok (.str x) S) : bAnd (bVal (eOp notND f (eC .non))) (bVal (eOp neD f g)) env S = .ok (!optB o x) S := by
  cases o with
  | none => simp [hf, opS, optB]
  | some y =>
    have hf : f env S = .ok (.str y) S := hf
    have e : notND (.str y) .non = some (.bl true) := rfl
    simp [hf, hg, e, ne_s, optB]
theorem mis_i {f g : EX} {o : Option Int} {x : Int} (hf : f env S = .ok (oI o) S) (hg : g env S = .ok (.int x) S) : bAnd (bVal (eOp notND f (eC .non))) (bVal (eOp neD f g)) env S = .ok (!optB o x) S := by
  cases o with
  | none => simp [hf, opI', optB]
  | some y =>
    have hf : f env S = .ok (.int y) S := hf
    have e : notND (.int y) .non = some (.bl true) := rfl
    simp [hf, hg, e, optB]
theorem mis_b {f g : EX} {o : Option Bool} {x : Bool} (hf : f env S = .ok (oB o) S) (hg : g env S = .ok (.bl x) S) : bAnd (bVal (eOp notND f (eC .non))) (bVal (eOp neD f g)) env S = .ok (!optB o x) S := by
  cases o with
  | none => simp [hf, opB', optB]
  | some y =>
    have hf : f env S = .ok (.bl y) S := hf
    have e : notND (.bl y) .non = some (.bl true) := rfl
    simp [hf, hg, e, ne_b, optB]
theorem meets_ok {r : Ru} {p : Fit} : m_Rule_meets_spot [r.obj, .tup p.ds] S = .ok (.bl (meetB r p)) S := by
  unfold m_Rule_meets_spot Fit.ds
  rw [x_Rule_meets_spot]
  unfold meetB t_Rule_meets_spot_2 t_Rule_meets_spot_4 t_Rule_meets_spot_6
  have m1 := mis_s (S := S) (env := [some r.obj, some (.tup p.ds), some (.str p.kind), some (.int p.town), some (.bl p.paper), some (.int p.day), some (.int p.share)]) (f := eAttr cf ["Rule"] "kind" (eVar 0)) (g := eVar 2) (o := r.kind) (x := p.kind) (by simp) (by simp)
  have m2 := mis_i (S := S) (env := [some r.obj, some (.tup p.ds), some (.str p.kind), some (.int p.town), some (.bl p.paper), some (.int p.day), some (.int p.share)]) (f := eAttr cf ["Rule"] "town" (eVar 0)) (g := eVar 3) (o := r.town) (x := p.town) (by simp) (by simp)
  have m3 := mis_b (S := S) (env := [some r.obj, some (.tup p.ds), some (.str p.kind), some (.int p.town), some (.bl p.paper), some (.int p.day), some (.int p.share)]) (f := eAttr cf ["Rule"] "paper" (eVar 0)) (g := eVar 4) (o := r.paper) (x := p.paper) (by simp) (by simp)
  unfold Fit.ds at m1 m2 m3
  generalize optB r.kind p.kind = b1 at m1 ⊢
  generalize optB r.town p.town = b2 at m2 ⊢
  generalize optB r.paper p.paper = b3 at m3 ⊢
  simp [-u_bAnd, m1, m2, m3]
  cases b1
  · simp
  cases b2
  · simp
  simp [-u_bAnd, m3]
  cases b3
  · simp
  by_cases c : r.first ≤ p.day
  · by_cases d : p.day ≤ r.last <;> simp [c, d]
  · simp [c]
theorem lmeets_ok {r : Ru} {p : Fit} : m__law_meets [.tup r.ds, .tup p.ds] S = .ok (.bl (meetB r p)) S := by
  unfold m__law_meets Fit.ds Ru.ds
  rw [x__law_meets]
  unfold meetB t__law_meets_2 t__law_meets_3 t__law_meets_5 t__law_meets_7
  have ct1 : cutD (.tup [.str r.name, .str r.deed, .int r.bound, oS r.kind, oI r.town, .int r.first, .int r.last, .int r.over, oB r.paper]) none (some 3) = some (.tup [.str r.name, .str r.deed, .int r.bound]) := rfl
  have ct2 : cutD (.tup [.str r.name, .str r.deed, .int r.bound, oS r.kind, oI r.town, .int r.first, .int r.last, .int r.over, oB r.paper]) (some 3) none = some (.tup [oS r.kind, oI r.town, .int r.first, .int r.last, .int r.over, oB r.paper]) := rfl
  obtain ⟨env, he⟩ : ∃ env : Env, env = [some (.tup [.str r.name, .str r.deed, .int r.bound, oS r.kind, oI r.town, .int r.first, .int r.last, .int r.over, oB r.paper]), some (.tup [.str p.kind, .int p.town, .bl p.paper, .int p.day, .int p.share]), some (.str r.name), some (.str r.deed), some (.int r.bound), some (oS r.kind), some (oI r.town), some (.int r.first), some (.int r.last), some (.int r.over), some (oB r.paper)] := ⟨_, rfl⟩
  have m1 := mis_s (S := S) (env := env) (f := eVar 5) (g := eIdxB (eVar 1) (eC (.int 0))) (o := r.kind) (x := p.kind) (by simp [he]) (by simp [he])
  have m2 := mis_i (S := S) (env := env) (f := eVar 6) (g := eIdxB (eVar 1) (eC (.int 1))) (o := r.town) (x := p.town) (by simp [he]) (by simp [he])
  have m3 := mis_b (S := S) (env := env) (f := eVar 10) (g := eIdxB (eVar 1) (eC (.int 2))) (o := r.paper) (x := p.paper) (by simp [he]) (by simp [he])
  rw [he] at m1 m2 m3
  generalize optB r.kind p.kind = b1 at m1 ⊢
  generalize optB r.town p.town = b2 at m2 ⊢
  generalize optB r.paper p.paper = b3 at m3 ⊢
  simp [-u_bAnd, ct1, ct2, m1, m2, m3]
  cases b1
  · simp
  cases b2
  · simp
  simp [-u_bAnd, m3]
  cases b3
  · simp
  by_cases c : r.first ≤ p.day
  · by_cases d : p.day ≤ r.last <;> simp [c, d]
  · simp [c]
end Ro
end
section
set_option Elab.async false
set_option linter.all false
set_option maxRecDepth 100000
set_option maxHeartbeats 1000000
namespace Ro
open PySem
variable {S : Store} {env : Env}
def payV (r : Ru) (w : Int) : Int := if r.deed = "let" then w else if r.deed = "cut" then (if r.bound < w then r.bound else w) else if r.deed = "each" then w * r.bound else if r.deed = "hundredths" then w * r.bound / 100 else 0
theorem eq_s (x y : Str) : eqD (.str x) (.str y) = some (.bl (decide (x = y))) := rfl
@[simp] theorem h_deed (r : Ru) : attrD cf ["Rule"] "deed" r.obj S = some (.str r.deed) := rfl
@[simp] theorem h_bound (r : Ru) : attrD cf ["Rule"] "bound" r.obj S = some (.int r.bound) := rfl
theorem mul_ok {r : Ru} {w : Int} (hr : r.ok) (h0 : 0 ≤ w) (h1 : w ≤ 1000000000000) : mulOk w r.bound = true ∧ mulOk r.bound w = true := by
  have b0 := hr.b0; have b1 := hr.b1; have b3 := @lim_bd r.deed
  exact ⟨mulOk_lt (n := 41) (m := 41) (by omega) (by omega) (by decide), mulOk_lt (n := 41) (m := 41) (by omega) (by omega) (by decide)⟩
theorem paysof_ok {r : Ru} {w : Int} (hr : r.ok) (h0 : 0 ≤ w) (h1 : w ≤ 1000000000000) : m_Rule_pays_of [r.obj, .int w] S = .ok (.int (payV r w)) S := by
  have hd := hr.deed
  obtain ⟨m1, m2⟩ := mul_ok hr h0 h1
  have l100 : Nat.log2 100 < 9000 := by decide
  unfold deeds at hd
  simp at hd
  unfold m_Rule_pays_of
  rw [x_Rule_pays_of]
  unfold payV
  rcases hd with h | h | h | h | h
  · simp [eq_s, h]
  · unfold t_Rule_pays_of_3
    simp [eq_s, h, show ¬ ("cut" : Str) = "let" by decide, bMin2]
  · unfold t_Rule_pays_of_3 t_Rule_pays_of_5
    simp [eq_s, h, show ¬ ("each" : Str) = "let" by decide, show ¬ ("each" : Str) = "cut" by decide, m1]
  · unfold t_Rule_pays_of_3 t_Rule_pays_of_5 t_Rule_pays_of_7
    simp [eq_s, h, show ¬ ("hundredths" : Str) = "let" by decide, show ¬ ("hundredths" : Str) = "cut" by decide, show ¬ ("hundredths" : Str) = "each" by decide, m1, l100]
  · unfold t_Rule_pays_of_3 t_Rule_pays_of_5 t_Rule_pays_of_7 t_Rule_pays_of_9
    simp [eq_s, h, show ¬ ("refuse" : Str) = "let" by decide, show ¬ ("refuse" : Str) = "cut" by decide, show ¬ ("refuse" : Str) = "each" by decide, show ¬ ("refuse" : Str) = "hundredths" by decide]
end Ro
end
section
set_option Elab.async false
set_option linter.all false
set_option maxRecDepth 100000
set_option maxHeartbeats 1000000
namespace Ro
open PySem
variable {S : Store} {env : Env}
def Ext (S S' : Store) : Prop := ∃ X, S' = S ++ X
theorem Ext.refl (S : Store) : Ext S S := ⟨[], by simp⟩
theorem Ext.trans {S S1 S2 : Store} (h : Ext S S1) (k : Ext S1 S2) : Ext S S2 := by
  obtain ⟨X, rfl⟩ := h
  obtain ⟨Y, rfl⟩ := k
  exact ⟨X ++ Y, by rw [List.append_assoc]⟩
theorem Ext.bx {b : Nat} {S S' : Store} (h : Ext S S') (hB : Bx S b) : Bx S' b := by
  obtain ⟨X, rfl⟩ := h
  exact hB.app X
structure BkOk (rs : List Ru) : Prop where
  ok : ∀ r ∈ rs, r.ok
  nd : (rs.map (·.name)).Nodup
  len : rs.length ≤ 8
def bookD (rs : List Ru) : D := .obj "Rulebook" [.lst (rs.map Ru.obj)]
theorem lc_map {α : Type} {f : α → D} {i : Nat} {el : EX} {env0 : Env} {g : α → D} {rs : List α} (hl : rs.length ≤ 1000) (h : ∀ r ∈ rs, el (env0.set i (some (f r))) S = .ok (g r) S) :
    lcLoop (pName i) bYes el env0 (rs.map f) [] S = .ok (rs.map g) S := by
  have key : ∀ (rs : List α) (acc : List D), (∀ r ∈ rs, el (env0.set i (some (f r))) S = .ok (g r) S) → acc.length + rs.length ≤ 1000 → lcLoop (pName i) bYes el env0 (rs.map f) acc S = .ok (acc ++ rs.map g) S := by
    intro rs
    induction rs with
    | nil => intro acc _ _; simp [lcLoop]
    | cons r rs ih =>
      intro acc h hl
      simp at hl
      rw [List.map_cons, lcLoop]
      simp only [u_pName]
      rw [u_bYes, nox_ok, bnd_ok, if_pos rfl, h r (by simp), nox_ok, bnd_ok, if_pos (by simp; omega), ih _ (fun x hx => h x (by simp [hx])) (by simp; omega)]
      simp
  simpa using key rs [] h (by simpa using hl)
theorem inL_strs {z : Str} (l : List Str) : inL (.str z) (l.map D.str) = decide (z ∈ l) := by
  induction l with
  | nil => rfl
  | cons x l ih =>
    rw [List.map_cons, inL_cons, ih, pyEq_str]
    by_cases c : x = z
    · simp [c]
    · have c2 : ¬ z = x := fun e => c e.symm
      simp [c, c2]
theorem all_strs {n : Nat} (l : List Str) : (l.map D.str).all (plN n) = true := by
  rw [List.all_eq_true]
  intro x hx
  obtain ⟨y, _, rfl⟩ := List.mem_map.mp hx
  simp
theorem nin_strs {z : Str} (l : List Str) : ninD (.str z) (.lst (l.map D.str)) = some (.bl (!decide (z ∈ l))) := by
  show (if plD (.str z) && (l.map D.str).all (plN 8) then some (D.bl (!inL (.str z) (l.map D.str))) else none) = _
  rw [inL_strs, all_strs]
  simp
theorem dedup_nd {xs : List Str} (h : xs.Nodup) : dedup xs = xs := by
  have key : ∀ (xs acc : List Str), (acc ++ xs).Nodup → xs.foldl putNew acc = acc ++ xs := by
    intro xs
    induction xs with
    | nil => intro acc _; simp
    | cons x xs ih =>
      intro acc h
      have hn : x ∉ acc := by
        rw [List.nodup_append] at h
        intro hx
        exact h.2.2 x hx x (by simp) rfl
      have e : putNew acc x = acc ++ [x] := by unfold putNew; rw [if_neg hn]
      rw [List.foldl_cons, e]
      rw [ih (acc ++ [x]) (by rw [List.append_assoc]; exact h), List.append_assoc]
      rfl
  have := key xs [] (by simpa using h)
  simpa [dedup] using this
theorem lrules_ok {b : Nat} {n : Nat} (hB : Bx S b) (hn : n ≤ 20) : W (m__law_rules [.ref b, .int (n : Int)] S) fun d S' => ∃ rs : List Ru, (∀ r ∈ rs, r.ok) ∧ (rs.map (·.name)).Nodup ∧ rs.length ≤ n ∧ d = rowsD rs ∧ Bx S' b := by
  unfold m__law_rules
  rw [u_fnM, x__law_rules]
  simp
  have B0 : Bx (S ++ [.lst []]) b := hB.app _
  have hS0 : (S ++ [Cell.lst []])[S.length]? = some (.lst (([] : List Ru).map fun r => .tup r.ds)) := by simp
  have hbS := hB.lt
  generalize hS1 : S ++ [Cell.lst []] = S1 at B0 hS0
  unfold t__law_rules_2
  simp
  refine (take_ok (n := (n : Int) + 1) B0 (by omega)).mono ?_
  rintro _ S2 ⟨⟨i2, rfl, a2, b2⟩, s2⟩
  have B2 := s2.bx B0.lt
  have hi2 : -4611686018427387904 ≤ i2 ∧ i2 < 4611686018427387904 := by omega
  have hne : S.length ≠ b := by omega
  simp [hi2]
  refine W.loop (I := fun i env S' => ∃ (y3 y4 y5 : Option D) (rs : List Ru), env = [some (.ref b), some (.int (n : Int)), some (.ref S.length), y3, y4, y5] ∧ Bx S' b ∧ S'[S.length]? = some (.lst (rs.map fun r => .tup r.ds)) ∧ (∀ r ∈ rs, r.ok) ∧ (rs.map (·.name)).Nodup ∧ rs.length ≤ i) (k := 0)
    ⟨_, _, _, [], rfl, B2, (s2.other hne).trans hS0, by simp, by simp, by simp⟩ (fun j dd env S7 hj hd hI => ?_) (fun env S7 hI => ?_)
  · obtain ⟨y3, y4, y5, rs, rfl, B7, h7, hr, hnd, hlen⟩ := hI
    obtain ⟨hj2, rfl⟩ := rng_get hd
    have hl : rs.length ≤ 100 := by
      simp at hj2
      omega
    refine ⟨_, rfl, ?_⟩
    unfold t__law_rules_3
    simp
    refine (lname_ok B7).mono ?_
    rintro _ S8 ⟨title, rfl, ht, s8⟩
    have B8 := s8.bx B7.lt
    have h8 : S8[S.length]? = some (.lst (rs.map fun r => .tup r.ds)) := (s8.other hne).trans h7
    try simp
    unfold t__law_rules_4
    have lc := lc_map (S := S8) (f := fun r : Ru => .tup r.ds) (i := 5) (el := eIdxB (eVar 5) (eC (.int 0))) (env0 := wipeE [some (.ref b), some (.int (n : Int)), some (.ref S.length), some (.int (j : Int)), some (.str title), y5] [5]) (g := fun r : Ru => .str r.name) (rs := rs) (by omega) (fun r _ => by
      have x0 : ∀ S : Store, idxB (.tup r.ds) (.int 0) S = some (.str r.name) := fun _ => rfl
      simp [wipeE, -idx_tup, x0])
    have er : refL1 (.ref S.length) S8 = some (rs.map fun r => .tup r.ds) := by
      unfold refL1
      simp only [h8]
    have e1 : eLCR [5] (eVar 2) (pName 5) bYes (eIdxB (eVar 5) (eC (.int 0))) [some (.ref b), some (.int (n : Int)), some (.ref S.length), some (.int (j : Int)), some (.str title), y5] S8 = .ok (.lst ((rs.map (·.name)).map D.str)) S8 := by
      unfold eLCR
      rw [u_eVar]
      simp only [List.getElem?_cons_succ, List.getElem?_cons_zero, bnd_ok, er]
      rw [lc]
      simp [Function.comp_def]
    rw [u_sIf, u_bVal, u_eOp, u_eVar]
    simp only [List.getElem?_cons_succ, List.getElem?_cons_zero, bnd_ok, e1, nin_strs, lift_some]
    by_cases c : title ∈ rs.map (·.name)
    · have c' : decide (title ∈ rs.map (·.name)) = true := decide_eq_true c
      rw [c']
      simp
      exact ⟨B8, rs, h8, hr, hnd, by omega⟩
    · have c' : decide (title ∈ rs.map (·.name)) = false := decide_eq_false c
      rw [c']
      simp only [Bool.not_false, if_true]
      have ur : ∀ (env : Env) (S : Store) (f : EX), sExpr (eApp (eVar 2) f) env S = ((eApp (eVar 2) f) env S).bnd fun _ S1 => .ok (.nx env) S1 := fun _ _ _ => rfl
      have ty : tyD (.ref S.length) S8 = some (.b "list") := by unfold tyD; simp only [h8]
      have ua : ∀ (env : Env) (f : EX), env[2]? = some (some (.ref S.length)) → eApp (eVar 2) f env S8 = (f env S8).bnd fun v S2 => match appM (.ref S.length) v S2 with
        | some S3 => .ok .non S3
        | none => .bad := fun env f h => by
        unfold eApp
        rw [u_eVar, h]
        dsimp only
        rw [bnd_ok, if_pos ty] <;> rfl
      rw [ur, ua _ _ rfl]
      simp
      refine (ruled_ok B8 ht).mono ?_
      rintro _ S9 ⟨r, hrr, hnm, rfl, s9⟩
      have B9 := s9.bx B8.lt
      have h9 : S9[S.length]? = some (.lst (rs.map fun r => .tup r.ds)) := (s9.other hne).trans h8
      have ap : appM (.ref S.length) (.tup r.ds) S9 = some (S9.set S.length (.lst ((rs.map fun r => .tup r.ds) ++ [.tup r.ds]))) := by
        unfold appM
        dsimp only
        rw [h9]
        dsimp only
        rw [if_pos (by simp; omega)]
      have hl9 : S.length < S9.length := (List.getElem?_eq_some_iff.mp h9).1
      rw [ap]
      simp
      refine ⟨?_, rs ++ [r], ?_, ?_, ?_, by simp; omega⟩
      · obtain ⟨u, v, e, q1, q2⟩ := B9
        exact ⟨u, v, by rw [List.getElem?_set_ne hne]; exact e, q1, q2⟩
      · rw [List.map_append, List.getElem?_set_self hl9]; rfl
      · intro x hx
        rcases List.mem_append.mp hx with hx | hx
        · exact hr x hx
        · simp at hx; subst hx; exact hrr
      · rw [List.map_append, List.nodup_append]
        refine ⟨hnd, by simp, ?_⟩
        intro x hx y hy
        simp at hy
        subst hy
        rw [hnm]
        intro e
        subst e
        exact c hx
  · obtain ⟨y3, y4, y5, rs, rfl, B7, h7, hr, hnd, hlen⟩ := hI
    unfold t__law_rules_6
    have fz := frz_step (S := S7) (env := [some (.ref b), some (.int (n : Int)), some (.ref S.length), y3, y4, y5]) (f := eVar 2) (n := S.length) (l := rs.map fun r => .tup r.ds) rfl h7
    dsimp only
    rw [u_sRet, fz]
    simp at hlen
    simp
    refine ⟨rs, hr, hnd, by omega, rfl, ?_⟩
    obtain ⟨u, v, e, q1, q2⟩ := B7
    exact ⟨u, v, by rw [List.getElem?_set_ne hne]; exact e, q1, q2⟩
end Ro
end
section
set_option Elab.async false
set_option linter.all false
set_option maxRecDepth 100000
set_option maxHeartbeats 1000000
namespace Ro
open PySem
variable {S : Store} {env : Env}
theorem all_true {α : Type} (l : List α) : bAll [.lst (l.map fun _ => D.bl true)] = some (.bl true) := by
  show Option.map (fun bs => D.bl (bs.all id)) (dBls (l.map fun _ => D.bl true)) = _
  have : dBls (l.map fun _ => D.bl true) = some (l.map fun _ => true) := by
    induction l with
    | nil => rfl
    | cons x l ih => rw [List.map_cons, dBls, ih]; rfl
  rw [this]
  simp
theorem rule_isa (r : Ru) : tyD r.obj S = some (.o "Rule") := rfl
@[simp] theorem h_name (r : Ru) : attrD cf ["Rule"] "name" r.obj S = some (.str r.name) := rfl
theorem binit_tail {n : Nat} {rs : List Ru} {x1 : Option D} (h : BkOk rs) (hS : S[n]? = some (.ins "Rulebook" [])) : t_Rulebook_init_2 [some (.ref n), x1, some (.lst (rs.map Ru.obj)), none] S = .ok (.nx [some (.ref n), x1, some (.lst (rs.map Ru.obj)), none]) (S.set n (.ins "Rulebook" [("own_rules", .lst (rs.map Ru.obj))])) := by
  have hn : n < S.length := (List.getElem?_eq_some_iff.mp hS).1
  have hg : S[n] = .ins "Rulebook" [] := (List.getElem?_eq_some_iff.mp hS).2
  have hl := h.len
  have st0 : subTy (.b "list") (.b "list") = true := by decide
  have st1 : subTy (.o "Rule") (.o "Rule") = true := by decide
  have tl1 : Ty.o "Rule" ∈ tysL := by decide
  have l1 := fun env0 (he : env0.length = 4) => lc_map (S := S) (f := Ru.obj) (i := 3) (el := eIsI tysL (.o "Rule") (eVar 3)) (env0 := env0) (g := fun _ => .bl true) (rs := rs) (by omega) (fun r _ => by simp [he, rule_isa, st1, tl1])
  have l2 := fun env0 (he : env0.length = 4) => lc_map (S := S) (f := Ru.obj) (i := 3) (el := eAttr cf ["Rule"] "name" (eVar 3)) (env0 := env0) (g := fun r => .str r.name) (rs := rs) (by omega) (fun r _ => by simp [he])
  have h8 : ¬ (8 : Int) < rs.length := by omega
  have ab := all_true rs
  have ls : lenSetD (.lst (rs.map fun r => .str r.name)) = some (.int (rs.length : Int)) := by
    have e : (rs.map fun r => D.str r.name) = (rs.map (·.name)).map D.str := by simp [Function.comp_def]
    have e2 : dStrs ((rs.map (·.name)).map D.str) = some (rs.map (·.name)) := dStrs_map _
    unfold lenSetD
    simp only [e, e2]
    rw [if_pos (by simp; omega), dedup_nd h.nd]
    simp
  unfold t_Rulebook_init_2
  simp [bLenA, bLen, lenD, wipeE, l1, ab, h8, st0]
  unfold t_Rulebook_init_4
  simp [bLenA, bLen, lenD, wipeE, l2, eLenSet, ls]
  unfold t_Rulebook_init_6
  simp [bList, hg, hn, setF]
theorem binit_ok {n : Nat} {rs : List Ru} (h : BkOk rs) (hS : S[n]? = some (.ins "Rulebook" [])) : m_Rulebook_init [.ref n, .lst (rs.map Ru.obj)] S = .ok .non (S.set n (.ins "Rulebook" [("own_rules", .lst (rs.map Ru.obj))])) := by
  have e := binit_tail (x1 := some (.lst (rs.map Ru.obj))) h hS
  have en : isND (.lst (rs.map Ru.obj)) .non = some (.bl false) := rfl
  unfold m_Rulebook_init
  rw [u_fnM, x_Rulebook_init]
  simp [en, e]
theorem book0 : BkOk [] := ⟨by simp, by simp, by simp⟩
theorem binit_0 {n : Nat} (hS : S[n]? = some (.ins "Rulebook" [])) : m_Rulebook_init [.ref n, .non] S = .ok .non (S.set n (.ins "Rulebook" [("own_rules", .lst [])])) := by
  have e := binit_tail (x1 := some .non) book0 hS
  have en : isND .non .non = some (.bl true) := rfl
  unfold m_Rulebook_init
  rw [u_fnM, x_Rulebook_init]
  have e : t_Rulebook_init_2 [some (.ref n), some .non, some (.lst []), none] S = .ok (.nx [some (.ref n), some .non, some (.lst []), none]) (S.set n (.ins "Rulebook" [("own_rules", .lst [])])) := e
  simp [en, e]
theorem frz_book {rs : List Ru} (h : BkOk rs) : frzM cf (newM "Rulebook" (callM m_Rulebook_init 2 0 2 [(0, 0), (0, 1)] [.non]) [.lst (rs.map Ru.obj)] [] S) = .ok (bookD rs) (S ++ [.dead]) := by
  have hS : (S ++ [Cell.ins "Rulebook" []])[S.length]? = some (.ins "Rulebook" []) := by simp
  have e := binit_ok (S := S ++ [.ins "Rulebook" []]) h hS
  unfold newM
  rw [u_callM, if_pos ⟨rfl, rfl, rfl⟩]
  have hp : pick [(0, 0), (0, 1)] [D.ref S.length, .lst (rs.map Ru.obj)] [.non] [] = [.ref S.length, .lst (rs.map Ru.obj)] := rfl
  rw [hp, e]
  simp [frzM, cf, bookD]
theorem frz_book0 : frzM cf (newM "Rulebook" (callM m_Rulebook_init 1 0 2 [(0, 0), (1, 0)] [.non]) [] [] S) = .ok (bookD []) (S ++ [.dead]) := by
  have hS : (S ++ [Cell.ins "Rulebook" []])[S.length]? = some (.ins "Rulebook" []) := by simp
  have e := binit_0 (S := S ++ [.ins "Rulebook" []]) hS
  unfold newM
  rw [u_callM, if_pos ⟨rfl, rfl, rfl⟩]
  have hp : pick [(0, 0), (1, 0)] [D.ref S.length] [.non] [] = [.ref S.length, .non] := rfl
  rw [hp, e]
  simp [frzM, cf, bookD]
theorem booked_ok {rs : List Ru} (h : BkOk rs) : W (m__law_booked [rowsD rs] S) fun d S' => d = bookD rs ∧ Ext S S' := by
  have hl := h.len
  unfold m__law_booked b__law_booked rowsD
  have fb : ∀ {α : Type} (r : R α) (f : α → Store → R D), frzM cf (r.bnd f) = r.bnd fun a S => frzM cf (f a S) := fun r f => by cases r <;> rfl
  simp [fb]
  refine W.lc (I := fun i acc S' => acc = (rs.take i).map Ru.obj ∧ Ext S S') (k := 0) ⟨by simp, Ext.refl S⟩ (by simp; omega) (fun i x acc S3 hi hx hI => ?_) (fun acc S3 hI => ?_)
  · obtain ⟨rfl, hE⟩ := hI
    simp only [Nat.sub_zero, List.getElem?_map] at hx
    cases z : rs[i]? with
    | none => rw [z] at hx; cases hx
    | some r =>
      rw [z] at hx
      cases hx
      have hr : r.ok := h.ok r (List.mem_of_getElem? z)
      obtain ⟨X, e⟩ := made_ok (S := S3) hr
      refine ⟨_, rfl, ?_⟩
      simp [wipeE, e]
      refine ⟨?_, hE.trans ⟨X, rfl⟩⟩
      rw [List.take_add_one, List.getElem?_map, z]
      rfl
  · obtain ⟨rfl, hE⟩ := hI
    have et : rs.take (0 + (rs.map fun r => D.tup r.ds).length) = rs := List.take_of_length_le (by simp)
    rw [et]
    have := frz_book (S := S3) h
    simp [this]
    exact hE.trans ⟨_, rfl⟩
def firstD (rs : List Ru) (p : Fit) (k : Nat) : D := match rs with
  | [] => .non
  | r :: rs => if meetB r p then .int (k : Int) else firstD rs p (k + 1)
def paidD (rs : List Ru) (p : Fit) : D := match rs with
  | [] => .tup [.int 0, .non]
  | r :: rs => if meetB r p then .tup [.int (payV r p.share), .str r.name] else paidD rs p
theorem met_loop {p : Fit} : ∀ {rs : List Ru} {k : Nat} {x0 x2 x3 : Option D}, ∃ y2 y3 : Option D, loop (pTup (pCons (pName 2) (pCons (pName 3) pNil))) t_first_met_2 (enumL k (rs.map Ru.obj)) [x0, some (.tup p.ds), x2, x3] S = .ok (if isNonD (firstD rs p k) then .nx [x0, some (.tup p.ds), y2, y3] else .rt (firstD rs p k)) S := by
  intro rs
  induction rs with
  | nil => intro k x0 x2 x3; exact ⟨x2, x3, rfl⟩
  | cons r rs ih =>
    intro k x0 x2 x3
    have hi : ∀ S : Store, isInst cf "Rule" "meets_spot" r.obj S = true := fun _ => rfl
    have ee : enumL k ((r :: rs).map Ru.obj) = .tup [.int (k : Int), r.obj] :: enumL (k + 1) (rs.map Ru.obj) := rfl
    rw [ee]
    unfold Ro.loop
    have e1 : pTup (pCons (pName 2) (pCons (pName 3) pNil)) (.tup [.int (k : Int), r.obj]) [x0, some (.tup p.ds), x2, x3] = some [x0, some (.tup p.ds), some (.int (k : Int)), some r.obj] := rfl
    rw [e1]
    dsimp only
    unfold firstD
    cases z : meetB r p with
    | true =>
      refine ⟨none, none, ?_⟩
      conv => lhs; unfold t_first_met_2
      simp [hi, meets_ok, z, isNonD]
    | false =>
      obtain ⟨y2, y3, e⟩ := ih (k := k + 1) (x0 := x0) (x2 := some (.int (k : Int))) (x3 := some r.obj)
      refine ⟨y2, y3, ?_⟩
      have e2 : t_first_met_2 [x0, some (.tup p.ds), some (.int (k : Int)), some r.obj] S = .ok (.nx [x0, some (.tup p.ds), some (.int (k : Int)), some r.obj]) S := by
        unfold t_first_met_2
        simp [hi, meets_ok, z]
      rw [e2, bnd_ok]
      dsimp only
      rw [e]
      simp
theorem firstmet_ok {rs : List Ru} {p : Fit} : m_first_met [.lst (rs.map Ru.obj), .tup p.ds] S = .ok (firstD rs p 0) S := by
  unfold m_first_met
  rw [u_fnM, x_first_met]
  obtain ⟨y2, y3, e⟩ := met_loop (S := S) (p := p) (rs := rs) (k := 0) (x0 := some (.lst (rs.map Ru.obj))) (x2 := none) (x3 := none)
  have ue : ∀ (env : Env), env[0]? = some (some (.lst (rs.map Ru.obj))) → itEnum (aCons (eVar 0) aNil) env S = .ok (enumL 0 (rs.map Ru.obj)) S := fun env h => by
    unfold itEnum
    simp [h]
  simp only [List.map_cons, List.map_nil, List.length_cons, List.length_nil, List.cons_append, List.nil_append, u_sSeq, u_sFor]
  rw [ue _ rfl, bnd_ok]
  have e' : loop (pTup (pCons (pName 2) (pCons (pName 3) pNil))) t_first_met_2 (enumL 0 (rs.map Ru.obj)) (some (.lst (rs.map Ru.obj)) :: some (.tup p.ds) :: List.replicate (4 - (0 + 1 + 1)) none) S = _ := e
  rw [e', bnd_ok]
  cases z : isNonD (firstD rs p 0) with
  | true =>
    have hz : firstD rs p 0 = .non := by
      cases y : firstD rs p 0 with
      | non => rfl
      | _ => rw [y] at z; cases z
    simp [hz, t_first_met_4]
  | false => simp
theorem first_at {p : Fit} : ∀ {rs : List Ru} {k : Nat}, (firstD rs p k = .non ∧ paidD rs p = .tup [.int 0, .non]) ∨ ∃ (i : Nat) (r : Ru), rs[i]? = some r ∧ meetB r p = true ∧ firstD rs p k = .int ((k + i : Nat) : Int) ∧ paidD rs p = .tup [.int (payV r p.share), .str r.name] := by
  intro rs
  induction rs with
  | nil => intro k; exact .inl ⟨rfl, rfl⟩
  | cons r rs ih =>
    intro k
    unfold firstD paidD
    cases z : meetB r p with
    | true => exact .inr ⟨0, r, rfl, z, rfl, rfl⟩
    | false =>
      rcases ih (k := k + 1) with ⟨h1, h2⟩ | ⟨i, q, h1, h2, h3, h4⟩
      · exact .inl ⟨by simpa using h1, by simpa using h2⟩
      · refine .inr ⟨i + 1, q, by simpa using h1, h2, ?_, by simpa using h4⟩
        have : k + 1 + i = k + (i + 1) := by omega
        rw [← this]
        simpa using h3
theorem paidby_ok {rs : List Ru} {p : Fit} (h : ∀ r ∈ rs, r.ok) (hp : p.ok) : m_paid_by [.lst (rs.map Ru.obj), .tup p.ds] S = .ok (paidD rs p) S := by
  have p0 := hp.s0
  have p1 := hp.s1
  unfold m_paid_by
  rw [u_fnM, x_paid_by]
  simp [firstmet_ok]
  unfold t_paid_by_2
  rcases first_at (p := p) (rs := rs) (k := 0) with ⟨h1, h2⟩ | ⟨i, r, h1, h2, h3, h4⟩
  · have en : isND .non .non = some (.bl true) := rfl
    simp [h1, h2, en]
  · have hr := h r (List.mem_of_getElem? h1)
    have hlt : i < rs.length := (List.getElem?_eq_some_iff.mp h1).1
    have hg : rs[i] = r := (List.getElem?_eq_some_iff.mp h1).2
    rw [Nat.zero_add] at h3
    have en : isND (.int (i : Int)) .non = some (.bl false) := rfl
    have hi : ∀ S : Store, isInst cf "Rule" "pays_of" r.obj S = true := fun _ => rfl
    have x4 : ∀ S : Store, idxB (.tup p.ds) (.int 4) S = some (.int p.share) := fun _ => rfl
    have xi : ∀ S : Store, idxB (.lst (rs.map Ru.obj)) (.int (i : Int)) S = some r.obj := fun S => by
      show atP (rs.map Ru.obj) _ = _
      unfold atP
      rw [ix_nn _ i (by simpa using hlt)]
      simp [h1]
    rw [h3, h4]
    unfold t_paid_by_4
    simp only [u_sSeq, u_sIf, u_bVal, u_eOp, u_eVar, u_eC, List.getElem?_cons_succ, List.getElem?_cons_zero, bnd_ok, en, lift_some]
    simp [-idx_tup, -idx_lst, -Int.natCast_add, hi, x4, xi, paysof_ok hr p0 p1]
theorem need_t {p : Fit} (hp : p.ok) : m_need_spot [.tup p.ds] S = .ok .non S := by
  have k1 := kind_len hp.kind
  have h1 := spot_b (S := S) (d := .tup p.ds) rfl (fun l e x hx => by
    cases e
    simp only [Fit.ds, List.mem_cons, List.not_mem_nil, or_false] at hx
    rcases hx with rfl | rfl | rfl | rfl | rfl
    · exact okD_str (by omega)
    all_goals rfl)
  have h2 : spotB (.tup p.ds) = true := by
    have q1 := hp.t0; have q2 := hp.t1; have q3 := hp.d0; have q4 := hp.d1; have q5 := hp.s0; have q6 := hp.s1
    simp [spotB, Fit.ds, kindB, wholeB, blB, hp.kind, q1, q2, q3, q4, q5, q6]
  rw [h2] at h1
  unfold m_need_spot b_need_spot
  simp [h1]
theorem paidof_ok {rs : List Ru} {p : Fit} (h : ∀ r ∈ rs, r.ok) (hp : p.ok) : m_Rulebook_paid_of [bookD rs, .tup p.ds] S = .ok (paidD rs p) S := by
  have at1 : ∀ S : Store, attrD cf ["Rulebook"] "own_rules" (bookD rs) S = some (.lst (rs.map Ru.obj)) := fun _ => rfl
  unfold m_Rulebook_paid_of
  rw [u_fnM, x_Rulebook_paid_of]
  unfold t_Rulebook_paid_of_2
  simp [need_t hp, at1, paidby_ok h hp]
end Ro
end
section
set_option Elab.async false
set_option linter.all false
set_option maxRecDepth 100000
set_option maxHeartbeats 1000000
namespace Ro
open PySem
variable {S : Store} {env : Env}
def minI (a b : Int) : Int := if b < a then b else a
theorem bmin2 (a b : Int) : bMin2 [.int a, .int b] = some (.int (minI a b)) := by
  unfold minI
  show some (D.int _) = _
  congr 2
def Fit.at (p : Fit) (s : Int) : Fit := ⟨p.kind, p.town, p.paper, p.day, s⟩
def firstR (rs : List Ru) (p : Fit) : Option Ru := rs.find? fun r => meetB r p
def wholeR (r : Ru) (low high : Int) : Option Int := if r.deed = "cut" then (if low ≤ r.bound then some (minI high r.bound) else none) else if r.deed = "let" then some high else if r.deed = "each" then (if r.bound = 1 then some high else none) else if r.deed = "hundredths" then (if r.bound = 100 then some high else none) else none
def stepR (rs : List Ru) (p : Fit) (most : Int) (found : Option Int) (lo hi : Int) : Option Int := match firstR rs (p.at (lo + 1)) with
  | some r => if lo + 1 ≤ minI hi most then (match wholeR r (lo + 1) (minI hi most) with
    | some x => some x
    | none => found) else found
  | none => found
def foldE (rs : List Ru) (p : Fit) (most : Int) : List Int → Option Int → Option Int
  | [], found => found
  | [_], found => found
  | e :: f :: l, found => foldE rs p most (f :: l) (stepR rs p most found e f)
def edges (rs : List Ru) : List Int := ssort ([0, 1000000000000] ++ rs.map (fun r : Ru => r.over))
def roomV (rs : List Ru) (p : Fit) (most : Int) : Option Int := foldE rs p most (edges rs) none
theorem first_R {p : Fit} : ∀ {rs : List Ru} {k : Nat}, (firstR rs p = none ∧ firstD rs p k = .non) ∨ ∃ (i : Nat) (r : Ru), rs[i]? = some r ∧ firstR rs p = some r ∧ firstD rs p k = .int ((k + i : Nat) : Int) := by
  intro rs
  induction rs with
  | nil => intro k; exact .inl ⟨rfl, rfl⟩
  | cons r rs ih =>
    intro k
    unfold firstD firstR
    rw [List.find?_cons]
    cases z : meetB r p with
    | true => exact .inr ⟨0, r, rfl, by simp, rfl⟩
    | false =>
      rcases ih (k := k + 1) with ⟨h1, h2⟩ | ⟨i, q, h1, h2, h3⟩
      · exact .inl ⟨h1, by simpa using h2⟩
      · refine .inr ⟨i + 1, q, by simpa using h1, h2, ?_⟩
        have : k + 1 + i = k + (i + 1) := by omega
        rw [← this]
        simpa using h3
theorem paid_R {p : Fit} : ∀ {rs : List Ru}, paidD rs p = match firstR rs p with
    | some r => .tup [.int (payV r p.share), .str r.name]
    | none => .tup [.int 0, .non] := by
  intro rs
  induction rs with
  | nil => rfl
  | cons r rs ih =>
    unfold paidD firstR
    rw [List.find?_cons]
    cases z : meetB r p with
    | true => simp
    | false => simpa [firstR] using ih
theorem firstR_ok {rs : List Ru} {p : Fit} {r : Ru} (h : firstR rs p = some r) : r ∈ rs ∧ meetB r p = true := ⟨List.mem_of_find?_eq_some h, List.find?_some (p := fun r => meetB r p) h⟩
theorem meet_at {r : Ru} {p : Fit} {s t : Int} (h : r.over < s ↔ r.over < t) : meetB r (p.at s) = meetB r (p.at t) := by
  unfold meetB Fit.at
  dsimp only
  have : decide (r.over < s) = decide (r.over < t) := decide_eq_decide.mpr h
  rw [this]
theorem first_at2 {rs : List Ru} {p : Fit} {s t : Int} (h : ∀ r ∈ rs, (r.over < s ↔ r.over < t)) : firstR rs (p.at s) = firstR rs (p.at t) := by
  unfold firstR
  induction rs with
  | nil => rfl
  | cons r rs ih =>
    rw [List.find?_cons, List.find?_cons, meet_at (h r (by simp)), ih fun q hq => h q (by simp [hq])]
theorem whole_bd {r : Ru} {low high d : Int} (hr : r.ok) (hl : low ≤ high) (h1 : 1 ≤ low) (h : wholeR r low high = some d) : low ≤ d ∧ d ≤ high ∧ payV r d = d := by
  have hd := hr.deed
  unfold deeds at hd
  simp at hd
  have n1 : ¬ ("cut" : Str) = "let" := by decide
  have n2 : ¬ ("each" : Str) = "cut" := by decide
  have n3 : ¬ ("each" : Str) = "let" := by decide
  have n4 : ¬ ("hundredths" : Str) = "cut" := by decide
  have n5 : ¬ ("hundredths" : Str) = "let" := by decide
  have n6 : ¬ ("hundredths" : Str) = "each" := by decide
  have n7 : ¬ ("let" : Str) = "cut" := by decide
  have n8 : ¬ ("refuse" : Str) = "cut" := by decide
  have n9 : ¬ ("refuse" : Str) = "let" := by decide
  have n10 : ¬ ("refuse" : Str) = "each" := by decide
  have n11 : ¬ ("refuse" : Str) = "hundredths" := by decide
  unfold wholeR at h
  unfold payV
  rcases hd with e | e | e | e | e <;> rw [e] at h ⊢
  · simp [n7] at h
    subst h
    exact ⟨hl, Int.le_refl _, by simp⟩
  · by_cases c : low ≤ r.bound
    · simp [c] at h
      subst h
      unfold minI
      by_cases c2 : r.bound < high
      · simp [c2, n1]; omega
      · simp [c2, n1]; omega
    · simp [c] at h
  · by_cases c : r.bound = 1
    · simp [n2, n3, c] at h
      subst h
      exact ⟨hl, Int.le_refl _, by simp [n2, n3, c]⟩
    · simp [n2, n3, c] at h
  · by_cases c : r.bound = 100
    · simp [n4, n5, n6, c] at h
      subst h
      refine ⟨hl, Int.le_refl _, ?_⟩
      simp [n4, n5, n6, c]
    · simp [n4, n5, n6, c] at h
  · simp [n8, n9, n10, n11] at h
structure GoodR (rs : List Ru) (p : Fit) (found : Option Int) : Prop where
  g : ∀ d, found = some d → 1 ≤ d ∧ d ≤ 1000000000000 ∧ ∃ r, firstR rs (p.at d) = some r ∧ payV r d = d
theorem minI_le {a b : Int} : minI a b ≤ a ∧ minI a b ≤ b := by unfold minI; split <;> omega
theorem step_good {rs : List Ru} {p : Fit} {most e f : Int} {found : Option Int} (hr : ∀ r ∈ rs, r.ok) (h0 : 0 ≤ e) (hf : f ≤ 1000000000000) (ho : ∀ r ∈ rs, r.over ≤ e ∨ f ≤ r.over) (g : GoodR rs p found) : GoodR rs p (stepR rs p most found e f) := by
  unfold stepR
  cases z : firstR rs (p.at (e + 1)) with
  | none => exact g
  | some r =>
    dsimp only
    by_cases c : e + 1 ≤ minI f most
    · rw [if_pos c]
      cases y : wholeR r (e + 1) (minI f most) with
      | none => exact g
      | some d =>
        refine ⟨fun d' hd => ?_⟩
        cases hd
        obtain ⟨q1, q2, q3⟩ := whole_bd (hr r (firstR_ok z).1) c (by omega) y
        have := (minI_le (a := f) (b := most)).1
        refine ⟨by omega, by omega, r, ?_, q3⟩
        rw [← z]
        exact first_at2 fun r' hr' => by
          rcases ho r' hr' with h | h <;> omega
    · rw [if_neg c]
      exact g
theorem fold_good {rs : List Ru} {p : Fit} {most : Int} (hr : ∀ r ∈ rs, r.ok) : ∀ {E : List Int} {found : Option Int}, E.Pairwise (· < ·) → (∀ e ∈ E, 0 ≤ e ∧ e ≤ 1000000000000) → (∀ r ∈ rs, (∀ e ∈ E.head?, r.over ≤ e) ∨ r.over ∈ E) → GoodR rs p found → GoodR rs p (foldE rs p most E found)
  | [], _, _, _, _, g => g
  | [_], _, _, _, _, g => g
  | e :: f :: l, found, hs, hb, ho, g => by
    have h1 := List.pairwise_cons.mp hs
    have h2 := List.pairwise_cons.mp h1.2
    have hef : e < f := h1.1 f (by simp)
    have key : ∀ r ∈ rs, r.over ≤ e ∨ r.over ∈ f :: l := fun r hr => by
      rcases ho r hr with h | h
      · exact .inl (h e (by simp))
      · rcases List.mem_cons.mp h with h | h
        · exact .inl (by omega)
        · exact .inr h
    show GoodR rs p (foldE rs p most (f :: l) (stepR rs p most found e f))
    refine fold_good (E := f :: l) hr h1.2 (fun x hx => hb x (List.mem_cons_of_mem _ hx)) (fun r hr => ?_) (step_good hr (hb e (by simp)).1 (hb f (by simp)).2 (fun r hr => ?_) g)
    · rcases key r hr with h | h
      · exact .inl (by simp; omega)
      · exact .inr h
    · rcases key r hr with h | h
      · exact .inl h
      · rcases List.mem_cons.mp h with h | h
        · exact .inr (by omega)
        · have := h2.1 _ h
          exact .inr (by omega)
theorem room_good {rs : List Ru} {p : Fit} {most : Int} (hr : ∀ r ∈ rs, r.ok) : GoodR rs p (roomV rs p most) := by
  refine fold_good hr (asc_ssort _) (fun e he => ?_) (fun r h => .inr ?_) ⟨by simp⟩
  · have he := mem_ssort.mp he
    rcases List.mem_append.mp he with h | h
    · simp at h; omega
    · obtain ⟨r, hq, rfl⟩ := List.mem_map.mp h
      exact ⟨(hr r hq).o0, (hr r hq).o1⟩
  · refine mem_ssort.mpr (List.mem_append_right _ (List.mem_map_of_mem h))
theorem fold_nil {p : Fit} {most : Int} : ∀ {E : List Int} {found : Option Int}, foldE [] p most E found = found
  | [], _ => rfl
  | [_], _ => rfl
  | e :: f :: l, found => by
    unfold foldE
    rw [fold_nil]
    rfl
theorem need_sh {i : Int} (h0 : 0 ≤ i) (h1 : i ≤ 1000000000000) : m_need_share [.int i] S = .ok .non S := by
  have hw := whole_b (S := S) (d := .int i) rfl 0 1000000000000
  have hb : wholeB (.int i) 0 1000000000000 = true := by simp [wholeB, h0, h1]
  rw [hb] at hw
  unfold m_need_share b_need_share
  simp [hw]
theorem cutm1 (l : List D) : cutD (.lst l) none (some (-1)) = some (.lst l.dropLast) := by
  show some (D.lst (cutL l none (some (-1)))) = _
  unfold cutL cutI
  simp
  rw [List.dropLast_eq_take]
  congr 1
  omega
theorem cut1 (l : List D) : cutD (.lst l) (some 1) none = some (.lst l.tail) := by
  show some (D.lst (cutL l (some 1) none)) = _
  unfold cutL cutI
  simp
  by_cases h : l.length = 0
  · simp [List.length_eq_zero_iff.mp h]
  · have e : min 1 l.length = 1 := by omega
    rw [e, List.take_of_length_le (by simp)]
    simp
def zipE (E : List Int) : List D := zipL ((E.map D.int).dropLast) ((E.map D.int).tail)
theorem zipE_cons (e f : Int) (l : List Int) : zipE (e :: f :: l) = .tup [.int e, .int f] :: zipE (f :: l) := rfl
@[simp] theorem h_over (r : Ru) : attrD cf ["Rule"] "over" r.obj S = some (.int r.over) := rfl
theorem whole_p {r : Ru} {low high : Int} (hr : r.ok) (hl : low ≤ high) : m_most_whole [r.obj, .int low, .int high] S = .ok (oI (wholeR r low high)) S := by
  have hd := hr.deed
  unfold deeds at hd
  simp at hd
  have n1 : ¬ ("cut" : Str) = "let" := by decide
  have n2 : ¬ ("each" : Str) = "cut" := by decide
  have n3 : ¬ ("each" : Str) = "let" := by decide
  have n4 : ¬ ("hundredths" : Str) = "cut" := by decide
  have n5 : ¬ ("hundredths" : Str) = "let" := by decide
  have n6 : ¬ ("hundredths" : Str) = "each" := by decide
  have n7 : ¬ ("let" : Str) = "cut" := by decide
  have n8 : ¬ ("refuse" : Str) = "cut" := by decide
  have n9 : ¬ ("refuse" : Str) = "let" := by decide
  have n10 : ¬ ("refuse" : Str) = "each" := by decide
  have n11 : ¬ ("refuse" : Str) = "hundredths" := by decide
  have n12 : ¬ ("cut" : Str) = "each" := by decide
  have n13 : ¬ ("cut" : Str) = "refuse" := by decide
  have n14 : ¬ ("cut" : Str) = "hundredths" := by decide
  have n15 : ¬ ("let" : Str) = "each" := by decide
  have n16 : ¬ ("let" : Str) = "refuse" := by decide
  have n17 : ¬ ("let" : Str) = "hundredths" := by decide
  have n18 : ¬ ("each" : Str) = "refuse" := by decide
  have n19 : ¬ ("each" : Str) = "hundredths" := by decide
  have n20 : ¬ ("hundredths" : Str) = "refuse" := by decide
  have g1 : attrD cf ["Rule"] "deed" r.obj S = some (.str r.deed) := rfl
  have hl' : ¬ high < low := by omega
  unfold m_most_whole
  rw [u_fnM, x_most_whole]
  unfold wholeR t_most_whole_3 t_most_whole_5 t_most_whole_7
  rcases hd with e | e | e | e | e
  · simp [eq_s, e, n7, n15, n16, n17, hl', oI]
  · by_cases c : low ≤ r.bound
    · have c2 : ¬ minI high r.bound < low := by unfold minI; split <;> omega
      simp [eq_s, e, n12, n13, n14, bmin2, c, c2, oI]
    · have c2 : minI high r.bound < low := by unfold minI; split <;> omega
      simp [eq_s, e, n12, n13, n14, bmin2, c, c2, oI]
  · by_cases c : r.bound = 1
    · simp [eq_s, e, n2, n3, n18, n19, c, hl', oI]
    · simp [eq_s, e, n2, n3, n18, n19, c, oI]
  · by_cases c : r.bound = 100
    · simp [eq_s, e, n4, n5, n6, n20, c, hl', oI]
    · simp [eq_s, e, n4, n5, n6, n20, c, oI]
  · simp [eq_s, e, n8, n9, n10, n11, oI]
def pEnv (rs : List Ru) (p : Fit) (most : Int) (E : List Int) (found : Option Int) (x8 x9 x10 x11 x12 : Option D) : Env := [some (bookD rs), some (.str p.kind), some (.int p.town), some (.int p.day), some (.bl p.paper), some (.int most), some (.lst (E.map D.int)), some (oI found), x8, x9, x10, x11, x12]
theorem room_step {rs : List Ru} {p : Fit} {most e f : Int} {E : List Int} {found : Option Int} {x10 x11 x12 : Option D} (hr : ∀ r ∈ rs, r.ok) : ∃ y8 y9 y10 y11 : Option D, t_Rulebook_room_5 (pEnv rs p most E found (some (.int e)) (some (.int f)) x10 x11 x12) S = .ok (.nx (pEnv rs p most E (stepR rs p most found e f) y8 y9 y10 y11 x12)) S := by
  have at1 : ∀ S : Store, attrD cf ["Rulebook"] "own_rules" (bookD rs) S = some (.lst (rs.map Ru.obj)) := fun _ => rfl
  have fm := firstmet_ok (S := S) (rs := rs) (p := p.at (e + 1))
  have ed : D.tup (p.at (e + 1)).ds = .tup [.str p.kind, .int p.town, .bl p.paper, .int p.day, .int (e + 1)] := rfl
  rw [ed] at fm
  unfold stepR pEnv t_Rulebook_room_5
  simp [bmin2]
  unfold t_Rulebook_room_6
  simp [at1, fm]
  unfold t_Rulebook_room_7
  rcases first_R (p := p.at (e + 1)) (rs := rs) (k := 0) with ⟨h1, h2⟩ | ⟨i, r, h1, h2, h3⟩
  · have en : notND .non .non = some (.bl false) := rfl
    rw [h1, h2]
    simp [en]
  · have hrr := hr r (List.mem_of_getElem? h1)
    have hlt : i < rs.length := (List.getElem?_eq_some_iff.mp h1).1
    rw [Nat.zero_add] at h3
    have en : notND (.int (i : Int)) .non = some (.bl true) := rfl
    have xi : ∀ S : Store, idxB (.lst (rs.map Ru.obj)) (.int (i : Int)) S = some r.obj := fun S => by
      show atP (rs.map Ru.obj) _ = _
      unfold atP
      rw [ix_nn _ i (by simpa using hlt)]
      simp [h1]
    rw [h2, h3]
    by_cases c : e + 1 ≤ minI f most
    · have wp := whole_p (S := S) hrr c
      simp [-idx_lst, en, c, at1, xi, wp]
      unfold t_Rulebook_room_9
      cases y : wholeR r (e + 1) (minI f most) with
      | none =>
        have e1 : isND (oI none) .non = some (.bl true) := rfl
        simp [e1]
      | some d =>
        have e1 : isND (oI (some d)) .non = some (.bl false) := rfl
        simp [e1]
    · simp [en, c]
theorem room_loop {rs : List Ru} {p : Fit} {most : Int} {E0 : List Int} {x12 : Option D} (hr : ∀ r ∈ rs, r.ok) : ∀ {E : List Int} {found : Option Int} {x8 x9 x10 x11 : Option D}, ∃ y8 y9 y10 y11 : Option D, loop (pTup (pCons (pName 8) (pCons (pName 9) pNil))) t_Rulebook_room_5 (zipE E) (pEnv rs p most E0 found x8 x9 x10 x11 x12) S = .ok (.nx (pEnv rs p most E0 (foldE rs p most E found) y8 y9 y10 y11 x12)) S
  | [], found, x8, x9, x10, x11 => ⟨x8, x9, x10, x11, rfl⟩
  | [e], found, x8, x9, x10, x11 => ⟨x8, x9, x10, x11, rfl⟩
  | e :: f :: l, found, x8, x9, x10, x11 => by
    obtain ⟨z8, z9, z10, z11, h⟩ := room_step (S := S) (rs := rs) (p := p) (most := most) (e := e) (f := f) (E := E0) (found := found) (x10 := x10) (x11 := x11) (x12 := x12) hr
    obtain ⟨y8, y9, y10, y11, k⟩ := room_loop (E0 := E0) (x12 := x12) hr (E := f :: l) (found := stepR rs p most found e f) (x8 := z8) (x9 := z9) (x10 := z10) (x11 := z11)
    refine ⟨y8, y9, y10, y11, ?_⟩
    rw [zipE_cons]
    unfold Ro.loop
    have e1 : pTup (pCons (pName 8) (pCons (pName 9) pNil)) (.tup [.int e, .int f]) (pEnv rs p most E0 found x8 x9 x10 x11 x12) = some (pEnv rs p most E0 found (some (.int e)) (some (.int f)) x10 x11 x12) := rfl
    rw [e1]
    dsimp only
    rw [h, bnd_ok]
    dsimp only
    rw [k]
    rfl
theorem room_ok {rs : List Ru} {p : Fit} {most : Int} (h : BkOk rs) (m0 : 0 ≤ most) (m1 : most ≤ 1000000000000) : m_Rulebook_room [bookD rs, .str p.kind, .int p.town, .int p.day, .bl p.paper, .int most] S = .ok (oI (roomV rs p most)) S := by
  have at1 : ∀ S : Store, attrD cf ["Rulebook"] "own_rules" (bookD rs) S = some (.lst (rs.map Ru.obj)) := fun _ => rfl
  have hl := h.len
  have l1 := fun env0 (he : env0.length = 13) => lc_map (S := S) (f := Ru.obj) (i := 12) (el := eAttr cf ["Rule"] "over" (eVar 12)) (env0 := env0) (g := fun r => .int r.over) (rs := rs) (by omega) (fun r _ => by simp [he])
  have ad : addD (.lst [.int 0, .int 1000000000000]) (.lst (rs.map fun r => .int r.over)) = some (.lst (([0, 1000000000000] ++ rs.map (fun r : Ru => r.over)).map D.int)) := by
    show (if [D.int 0, D.int 1000000000000].length + (rs.map fun r => D.int r.over).length ≤ LINE then some (D.lst ([D.int 0, D.int 1000000000000] ++ (rs.map fun r => D.int r.over))) else none) = _
    rw [if_pos (by simp; omega)]
    simp [Function.comp_def]
  have ss : sortSetD (.lst (([0, 1000000000000] ++ rs.map (fun r : Ru => r.over)).map D.int)) = some (.lst ((edges rs).map D.int)) := by
    unfold sortSetD
    simp only [dInts_map]
    rw [if_pos (by simp; omega)]
    rfl
  obtain ⟨y8, y9, y10, y11, e⟩ := room_loop (S := S) (rs := rs) (p := p) (most := most) (E0 := edges rs) (x12 := none) h.ok (E := edges rs) (found := none) (x8 := none) (x9 := none) (x10 := none) (x11 := none)
  unfold pEnv zipE at e
  have o0 : oI none = .non := rfl
  rw [o0] at e
  generalize ([0, 1000000000000] ++ rs.map (fun r : Ru => r.over)).map D.int = A at ad ss
  generalize (edges rs).map D.int = B at ss e
  unfold m_Rulebook_room
  rw [u_fnM, x_Rulebook_room]
  simp [need_sh m0 m1]
  unfold t_Rulebook_room_2
  simp [at1, wipeE, l1, ad, eSortSet, ss]
  unfold t_Rulebook_room_3
  simp
  unfold t_Rulebook_room_4
  simp [cutm1, cut1, e]
  unfold t_Rulebook_room_10 roomV
  simp
theorem room_n {rs : List Ru} {a b c e d : D} (hd : okD d = true) (hn : wholeB d 0 1000000000000 = false) : m_Rulebook_room [bookD rs, a, b, c, e, d] S = .err "NoShare" [] S := by
  have hw := whole_b (S := S) hd 0 1000000000000
  rw [hn] at hw
  have hs : m_need_share [d] S = .err "NoShare" [] S := by
    unfold m_need_share b_need_share
    simp [hw]
  unfold m_Rulebook_room
  rw [u_fnM, x_Rulebook_room]
  simp [hs]
end Ro
end
section
set_option Elab.async false
set_option linter.all false
set_option maxRecDepth 100000
set_option maxHeartbeats 1000000
namespace Ro
open PySem
variable {S : Store} {env : Env}
theorem lc_filt {α : Type} {f : α → D} {i : Nat} {c : BX} {el : EX} {env0 : Env} {q : α → Bool} {g : α → D} {rs : List α} (hl : rs.length ≤ 1000) (hc : ∀ r ∈ rs, c (env0.set i (some (f r))) S = .ok (q r) S) (h : ∀ r ∈ rs, el (env0.set i (some (f r))) S = .ok (g r) S) :
    lcLoop (pName i) c el env0 (rs.map f) [] S = .ok ((rs.filter q).map g) S := by
  have key : ∀ (rs : List α) (acc : List D), (∀ r ∈ rs, c (env0.set i (some (f r))) S = .ok (q r) S) → (∀ r ∈ rs, el (env0.set i (some (f r))) S = .ok (g r) S) → acc.length + rs.length ≤ 1000 → lcLoop (pName i) c el env0 (rs.map f) acc S = .ok (acc ++ (rs.filter q).map g) S := by
    intro rs
    induction rs with
    | nil => intro acc _ _ _; simp [lcLoop]
    | cons r rs ih =>
      intro acc hc h hl
      simp at hl
      rw [List.map_cons, lcLoop]
      simp only [u_pName]
      rw [hc r (by simp), nox_ok, bnd_ok]
      cases z : q r with
      | true =>
        rw [if_pos rfl, h r (by simp), nox_ok, bnd_ok, if_pos (by simp; omega), ih _ (fun x hx => hc x (by simp [hx])) (fun x hx => h x (by simp [hx])) (by simp; omega)]
        simp [List.filter_cons, z]
      | false =>
        rw [if_neg Bool.false_ne_true, ih _ (fun x hx => hc x (by simp [hx])) (fun x hx => h x (by simp [hx])) (by omega)]
        simp [List.filter_cons, z]
  simpa using key rs [] hc h (by simpa using hl)
theorem row_pl {r : Ru} : plN 7 (.tup r.ds) = true := by
  unfold Ru.ds
  have h1 : ∀ n, plN n (oS r.kind) = true := fun n => by cases r.kind <;> simp [oS]
  have h2 : ∀ n, plN n (oI r.town) = true := fun n => by cases r.town <;> simp [oI]
  have h3 : ∀ n, plN n (oB r.paper) = true := fun n => by cases r.paper <;> simp [oB]
  simp [h1, h2, h3]
theorem in_two {a : Str} {b : Int} : inD (.tup [.str a, .int b]) (.lst [.tup [.str "each", .int 1], .tup [.str "hundredths", .int 100]]) = some (.bl ((decide (a = "each") && decide (b = 1)) || (decide (a = "hundredths") && decide (b = 100)))) := by
  have e1 : decide (("each" : Str) = a) = decide (a = "each") := decide_eq_decide.mpr eq_comm
  have e2 : decide (("hundredths" : Str) = a) = decide (a = "hundredths") := decide_eq_decide.mpr eq_comm
  have e3 : decide ((1 : Int) = b) = decide (b = 1) := decide_eq_decide.mpr eq_comm
  have e4 : decide ((100 : Int) = b) = decide (b = 100) := decide_eq_decide.mpr eq_comm
  have n : inL (.tup [.str a, .int b]) [] = false := rfl
  show (if plD (.tup [.str a, .int b]) && [D.tup [.str "each", .int 1], .tup [.str "hundredths", .int 100]].all (plN 8) then some (D.bl (inL (.tup [.str a, .int b]) [D.tup [.str "each", .int 1], .tup [.str "hundredths", .int 100]])) else none) = _
  rw [inL_cons, inL_cons, n]
  simp [e1, e2, e3, e4]
theorem lwhole_p {r : Ru} {low high : Int} (hr : r.ok) : m__law_whole_to [.tup r.ds, .int low, .int high] S = .ok (oI (wholeR r low high)) S := by
  have hd := hr.deed
  unfold deeds at hd
  simp at hd
  have n1 : ¬ ("let" : Str) = "cut" := by decide
  have n2 : ¬ ("each" : Str) = "cut" := by decide
  have n3 : ¬ ("each" : Str) = "let" := by decide
  have n4 : ¬ ("hundredths" : Str) = "cut" := by decide
  have n5 : ¬ ("hundredths" : Str) = "let" := by decide
  have n6 : ¬ ("hundredths" : Str) = "each" := by decide
  have n7 : ¬ ("each" : Str) = "hundredths" := by decide
  have n8 : ¬ ("refuse" : Str) = "cut" := by decide
  have n9 : ¬ ("refuse" : Str) = "let" := by decide
  have n10 : ¬ ("refuse" : Str) = "each" := by decide
  have n11 : ¬ ("refuse" : Str) = "hundredths" := by decide
  have i1 : ∀ S : Store, idxB (.tup r.ds) (.int 1) S = some (.str r.deed) := fun _ => rfl
  have i2 : ∀ S : Store, idxB (.tup r.ds) (.int 2) S = some (.int r.bound) := fun _ => rfl
  have c13 : cutD (.tup r.ds) (some 1) (some 3) = some (.tup [.str r.deed, .int r.bound]) := rfl
  unfold m__law_whole_to
  rw [u_fnM, x__law_whole_to]
  unfold wholeR t__law_whole_to_3 t__law_whole_to_4
  rcases hd with e | e | e | e | e
  · simp [-idx_tup, i1, i2, c13, in_two, eq_s, e, n1, truth, oI]
  · by_cases c : low ≤ r.bound <;> simp [-idx_tup, i1, i2, eq_s, e, c, bmin2, oI]
  · by_cases c : r.bound = 1 <;> simp [-idx_tup, i1, i2, c13, in_two, eq_s, e, n2, n3, n7, c, truth, oI]
  · by_cases c : r.bound = 100 <;> simp [-idx_tup, i1, i2, c13, in_two, eq_s, e, n4, n5, n6, c, truth, oI]
  · simp [-idx_tup, i1, i2, c13, in_two, eq_s, e, n8, n9, n10, n11, truth, oI]
def lEnv (rs : List Ru) (p : Fit) (most : Int) (E : List Int) (found : Option Int) (x5 x6 x7 x8 x9 x10 : Option D) : Env := [some (rowsD rs), some (.tup p.ds), some (.int most), some (.lst (E.map D.int)), some (oI found), x5, x6, x7, x8, x9, x10]
theorem lroom_step {rs : List Ru} {p : Fit} {most e f : Int} {E : List Int} {found : Option Int} {x7 x8 x9 x10 : Option D} (hr : ∀ r ∈ rs, r.ok) (hl : rs.length ≤ 8) : ∃ y5 y6 y7 y8 y9 : Option D, t__law_room_4 (lEnv rs p most E found (some (.int (e + 1))) (some (.int (f + 1))) x7 x8 x9 x10) S = .ok (.nx (lEnv rs p most E (stepR rs p most found e f) y5 y6 y7 y8 y9 x10)) S := by
  have c4 : cutD (.tup p.ds) none (some 4) = some (.tup [.str p.kind, .int p.town, .bl p.paper, .int p.day]) := rfl
  have ad : addD (.tup [.str p.kind, .int p.town, .bl p.paper, .int p.day]) (.tup [.int (e + 1)]) = some (.tup (p.at (e + 1)).ds) := rfl
  have lc := fun (z0 x6 x7 x8 x9 : Option D) => lc_filt (S := S) (f := fun r : Ru => .tup r.ds) (i := 10) (c := bVal (eFn (callM m__law_meets 2 0 2 [(0, 0), (0, 1)] []) (aCons (eVar 10) (aCons (eOp addD (eCut (eVar 1) oNone (oSome (eC (.int 4)))) (eTup (aCons (eVar 5) aNil))) aNil)) aNil)) (el := eVar 10) (env0 := [z0, some (.tup p.ds), some (.int most), some (.lst (E.map D.int)), some (oI found), some (.int (e + 1)), x6, x7, x8, x9, none]) (q := fun r => meetB r (p.at (e + 1))) (g := fun r => .tup r.ds) (rs := rs) (by omega)
    (fun r _ => by simp [c4, ad, lmeets_ok]) (fun r _ => by simp)
  unfold stepR lEnv t__law_room_4 rowsD
  simp [-u_bVal, wipeE, lc]
  unfold t__law_room_5
  have ef : f + 1 - 1 = f := by omega
  simp [bmin2, ef]
  unfold t__law_room_6
  have ne := ne_nil (l := (rs.filter fun r => meetB r (p.at (e + 1))).map fun r => .tup r.ds) (by
    rw [List.all_eq_true]
    intro x hx
    obtain ⟨r, _, rfl⟩ := List.mem_map.mp hx
    exact row_pl)
  have hf : firstR rs (p.at (e + 1)) = (rs.filter fun r => meetB r (p.at (e + 1))).head? := by
    unfold firstR
    rw [List.head?_filter]
  have hm : ∀ r ∈ rs.filter fun r => meetB r (p.at (e + 1)), r.ok := fun r h => hr r (List.mem_filter.mp h).1
  rw [hf]
  generalize rs.filter (fun r => meetB r (p.at (e + 1))) = F at ne hm
  cases F with
  | nil =>
    simp at ne
    simp [ne]
  | cons r F =>
    simp at ne
    have hrr := hm r (by simp)
    by_cases c : e + 1 ≤ minI f most
    · simp [ne, c, lwhole_p hrr]
      unfold t__law_room_8
      cases y : wholeR r (e + 1) (minI f most) with
      | none =>
        have e1 : notND (oI none) .non = some (.bl false) := rfl
        simp [e1]
      | some d =>
        have e1 : notND (oI (some d)) .non = some (.bl true) := rfl
        simp [e1]
    · simp [ne, c]
theorem lroom_loop {rs : List Ru} {p : Fit} {most : Int} {E0 : List Int} {x10 : Option D} (hr : ∀ r ∈ rs, r.ok) (hl : rs.length ≤ 8) : ∀ {E : List Int} {found : Option Int} {x5 x6 x7 x8 x9 : Option D}, ∃ y5 y6 y7 y8 y9 : Option D, loop (pTup (pCons (pName 5) (pCons (pName 6) pNil))) t__law_room_4 (zipE (E.map (· + 1))) (lEnv rs p most E0 found x5 x6 x7 x8 x9 x10) S = .ok (.nx (lEnv rs p most E0 (foldE rs p most E found) y5 y6 y7 y8 y9 x10)) S
  | [], found, x5, x6, x7, x8, x9 => ⟨x5, x6, x7, x8, x9, rfl⟩
  | [e], found, x5, x6, x7, x8, x9 => ⟨x5, x6, x7, x8, x9, rfl⟩
  | e :: f :: l, found, x5, x6, x7, x8, x9 => by
    obtain ⟨z5, z6, z7, z8, z9, h⟩ := lroom_step (S := S) (rs := rs) (p := p) (most := most) (e := e) (f := f) (E := E0) (found := found) (x7 := x7) (x8 := x8) (x9 := x9) (x10 := x10) hr hl
    obtain ⟨y5, y6, y7, y8, y9, k⟩ := lroom_loop (E0 := E0) (x10 := x10) hr hl (E := f :: l) (found := stepR rs p most found e f) (x5 := z5) (x6 := z6) (x7 := z7) (x8 := z8) (x9 := z9)
    refine ⟨y5, y6, y7, y8, y9, ?_⟩
    rw [List.map_cons, List.map_cons, zipE_cons]
    rw [List.map_cons] at k
    unfold Ro.loop
    have e1 : pTup (pCons (pName 5) (pCons (pName 6) pNil)) (.tup [.int (e + 1), .int (f + 1)]) (lEnv rs p most E0 found x5 x6 x7 x8 x9 x10) = some (lEnv rs p most E0 found (some (.int (e + 1))) (some (.int (f + 1))) x7 x8 x9 x10) := rfl
    rw [e1]
    dsimp only
    rw [h, bnd_ok]
    dsimp only
    rw [k]
    rfl
theorem asc_map {l : List Int} (h : l.Pairwise (· < ·)) : (l.map (· + 1)).Pairwise (· < ·) := by
  rw [List.pairwise_map]
  exact h.imp fun h => by omega
theorem ssort_map (l : List Int) : ssort (l.map (· + 1)) = (ssort l).map (· + 1) := by
  refine asc_uniq (asc_ssort _) (asc_map (asc_ssort _)) fun z => ?_
  rw [mem_ssort]
  simp only [List.mem_map, mem_ssort]
theorem lroom_ok {rs : List Ru} {p : Fit} {most : Int} (hr : ∀ r ∈ rs, r.ok) (hl : rs.length ≤ 8) : m__law_room [rowsD rs, .tup p.ds, .int most] S = .ok (oI (roomV rs p most)) S := by
  have l1 := fun env0 (he : env0.length = 11) => lc_map (S := S) (f := fun r : Ru => .tup r.ds) (i := 10) (el := eOp addD (eIdxB (eVar 10) (eC (.int 7))) (eC (.int 1))) (env0 := env0) (g := fun r => .int (r.over + 1)) (rs := rs) (by omega) (fun r _ => by
    have i7 : ∀ S : Store, idxB (.tup r.ds) (.int 7) S = some (.int r.over) := fun _ => rfl
    simp [-idx_tup, he, i7])
  have ad : addD (.lst [.int 1, .int 1000000000001]) (.lst (rs.map fun r => .int (r.over + 1))) = some (.lst ((([0, 1000000000000] ++ rs.map (fun r : Ru => r.over)).map (· + 1)).map D.int)) := by
    show (if [D.int 1, D.int 1000000000001].length + (rs.map fun r => D.int (r.over + 1)).length ≤ LINE then some (D.lst ([D.int 1, D.int 1000000000001] ++ (rs.map fun r => D.int (r.over + 1)))) else none) = _
    rw [if_pos (by simp; omega)]
    simp [Function.comp_def]
  have ss : sortSetD (.lst ((([0, 1000000000000] ++ rs.map (fun r : Ru => r.over)).map (· + 1)).map D.int)) = some (.lst (((edges rs).map (· + 1)).map D.int)) := by
    unfold sortSetD
    simp only [dInts_map]
    rw [if_pos (by simp; omega), ssort_map]
    rfl
  obtain ⟨y5, y6, y7, y8, y9, e⟩ := lroom_loop (S := S) (rs := rs) (p := p) (most := most) (E0 := (edges rs).map (· + 1)) (x10 := none) hr hl (E := edges rs) (found := none) (x5 := none) (x6 := none) (x7 := none) (x8 := none) (x9 := none)
  unfold lEnv zipE at e
  have o0 : oI none = .non := rfl
  rw [o0] at e
  generalize (([0, 1000000000000] ++ rs.map (fun r : Ru => r.over)).map (· + 1)).map D.int = A at ad ss
  generalize ((edges rs).map (· + 1)).map D.int = B at ss e
  unfold m__law_room
  rw [u_fnM, x__law_room]
  unfold rowsD at e ⊢
  simp [wipeE, l1, ad, eSortSet, ss]
  unfold t__law_room_2
  simp
  unfold t__law_room_3
  simp [cutm1, cut1, e]
  unfold t__law_room_9 roomV
  simp
end Ro
end
section
set_option Elab.async false
set_option linter.all false
set_option maxRecDepth 100000
set_option maxHeartbeats 1000000
namespace Ro
open PySem
variable {S : Store} {env : Env}
theorem room_sm {rs : List Ru} {p : Fit} {m : Int} (hr : ∀ r ∈ rs, r.ok) : SmA (oI (roomV rs p m)) := by
  have e : (10 : Nat) ^ 100 > 10000000000000 := by decide
  have g := (room_good (p := p) (most := m) hr).g
  cases z : roomV rs p m with
  | none => exact ⟨rfl, rfl, by decide +kernel⟩
  | some d =>
    obtain ⟨h1, h2, _⟩ := g d z
    exact smA_int (by omega)
theorem two_repr {d : D} (h : SmA d) : ∃ s, bRepr [.lst [d, d]] = some (.str s) ∧ bReprX [.lst [d, d]] = some (.str s) := by
  have hr : reprOk (.lst [d, d]) = true := lstA (by simp) (by simp [h])
  exact ⟨_, by show (if reprOk (.lst [d, d]) = true then _ else _) = _; rw [if_pos hr], by show (if reprOk (.lst [d, d]) = true then _ else _) = _; rw [if_pos hr]⟩
theorem ne_oI (x : Option Int) : neD (oI x) (oI x) = some (.bl false) := by
  cases x with
  | none => rfl
  | some i => simp [oI]
theorem right_ok {rs : List Ru} {p : Fit} {m : Int} (h : BkOk rs) (hp : p.ok) (m0 : 0 ≤ m) (m1 : m ≤ 1000000000000) : W (m__law_right [bookD rs, rowsD rs, .tup p.ds, .int m] S) fun d S' => d = .bl true ∧ Ext S S' := by
  have hi : ∀ S : Store, isInst cf "Rulebook" "room" (bookD rs) S = true := fun _ => rfl
  have hi2 : ∀ S : Store, isInst cf "Rulebook" "paid_of" (bookD rs) S = true := fun _ => rfl
  have i0 : ∀ S : Store, idxB (.tup p.ds) (.int 0) S = some (.str p.kind) := fun _ => rfl
  have i1 : ∀ S : Store, idxB (.tup p.ds) (.int 1) S = some (.int p.town) := fun _ => rfl
  have i2 : ∀ S : Store, idxB (.tup p.ds) (.int 2) S = some (.bl p.paper) := fun _ => rfl
  have i3 : ∀ S : Store, idxB (.tup p.ds) (.int 3) S = some (.int p.day) := fun _ => rfl
  have lr := fun S => lroom_ok (S := S) (p := p) (most := m) h.ok h.len
  have rr := fun S => room_ok (S := S) (p := p) h m0 m1
  have g := (room_good (p := p) (most := m) h.ok).g
  obtain ⟨s, s1, s2⟩ := two_repr (room_sm (p := p) (m := m) h.ok)
  generalize hv : roomV rs p m = v at lr rr g s1 s2
  unfold m__law_right
  rw [u_fnM, x__law_right]
  simp [lr]
  unfold t__law_right_2
  simp [-idx_tup, hi, i0, i1, i2, i3, rr]
  unfold t__law_right_3
  rw [u_sSeq, u_sExpr, app_step (n := S.length) (l := [oI v]) (v := oI v) rfl (by simp) (by simp [-idx_tup, hi, i0, i1, i2, i3, rr]) (by simp)]
  simp
  unfold t__law_right_4
  have ub : ∀ (m : List D → Option D) (fa : AX) (env : Env) (S : Store), eBS m fa env S = (fa env S).bnd fun xs S1 => lift (m (xs.map fun x => seeD x S1)) S1 := fun _ _ _ _ => rfl
  simp [ub, seeD, s1, s2, ne_str]
  unfold t__law_right_6
  cases v with
  | none =>
    have e1 : isND (oI none) .non = some (.bl true) := rfl
    simp [e1]
    exact ⟨_, rfl⟩
  | some d =>
    obtain ⟨d0, d1, r, hf, hpay⟩ := g d rfl
    have hpd : (p.at d).ok := ⟨hp.kind, hp.t0, hp.t1, hp.d0, hp.d1, by show 0 ≤ d; omega, d1⟩
    have po := fun S => paidof_ok (S := S) (p := p.at d) h.ok hpd
    have pd : paidD rs (p.at d) = .tup [.int d, .str r.name] := by
      rw [paid_R, hf]
      show D.tup [.int (payV r d), .str r.name] = _
      rw [hpay]
    have e1 : isND (oI (some d)) .non = some (.bl false) := rfl
    have c4 : cutD (.tup p.ds) none (some 4) = some (.tup [.str p.kind, .int p.town, .bl p.paper, .int p.day]) := rfl
    have ad : addD (.tup [.str p.kind, .int p.town, .bl p.paper, .int p.day]) (.tup [oI (some d)]) = some (.tup (p.at d).ds) := rfl
    have eq : eqD (.int d) (oI (some d)) = some (.bl true) := by
      show eqD (.int d) (.int d) = _
      simp
    simp [e1, hi2, c4, ad, po, pd, eq]
    exact ⟨_, rfl⟩
theorem ne_share : neD (.tup [.str "share"]) (.tup [.str "share"]) = some (.bl false) := by
  unfold neD
  have h : plD (.tup [.str "share"]) = true := rfl
  rw [h]
  simp
theorem fit_step {b : Nat} {rs : List Ru} {x0 x1 x5 x6 x7 x8 x9 x10 : Option D} (hB : Bx S b) (h : BkOk rs) : W (t_law_6 [x0, x1, some (.ref b), some (rowsD rs), some (bookD rs), x5, x6, x7, x8, x9, x10] S) fun c S' => (∃ y7 y8 y9 : Option D, c = .nx [x0, x1, some (.ref b), some (rowsD rs), some (bookD rs), x5, x6, y7, y8, y9, x10]) ∧ Bx S' b := by
  have hl := h.len
  unfold t_law_6
  simp
  refine (spot_ok hB h.ok h.len).mono ?_
  rintro _ S1 ⟨p, hp, rfl, s1⟩
  have B1 := s1.bx hB.lt
  try simp
  unfold t_law_7
  simp
  refine (take_ok (n := 1000000000000) B1 (by decide)).mono ?_
  rintro _ S2 ⟨⟨i2, rfl, a2, b2⟩, s2⟩
  have B2 := s2.bx B1.lt
  try simp
  refine (take_ok (n := 600) B2 (by decide)).mono ?_
  rintro _ S3 ⟨⟨i3, rfl, a3, b3⟩, s3⟩
  have B3 := s3.bx B2.lt
  have l2 := fun env0 (he : env0.length = 11) => lc_map (S := S3) (f := fun r : Ru => .tup r.ds) (i := 10) (el := eIdxB (eVar 10) (eC (.int 2))) (env0 := env0) (g := fun r => .int r.bound) (rs := rs) (by omega) (fun r _ => by
    have i2 : ∀ S : Store, idxB (.tup r.ds) (.int 2) S = some (.int r.bound) := fun _ => rfl
    simp [-idx_tup, he, i2])
  have l7 := fun env0 (he : env0.length = 11) => lc_map (S := S3) (f := fun r : Ru => .tup r.ds) (i := 10) (el := eIdxB (eVar 10) (eC (.int 7))) (env0 := env0) (g := fun r => .int r.over) (rs := rs) (by omega) (fun r _ => by
    have i7 : ∀ S : Store, idxB (.tup r.ds) (.int 7) S = some (.int r.over) := fun _ => rfl
    simp [-idx_tup, he, i7])
  have ad : ∀ l m : List D, l.length + m.length ≤ 1000 → addD (.lst l) (.lst m) = some (.lst (l ++ m)) := fun l m h => by
    show (if l.length + m.length ≤ LINE then some (D.lst (l ++ m)) else none) = _
    rw [if_pos (by simp; omega)]
  have a1 := ad [.int 0, .int 1, .int 1000000000000, .int i2, .int i3] (rs.map fun r => .int r.bound) (by simp; omega)
  obtain ⟨M1, hM1⟩ : ∃ M1 : List D, M1 = [.int 0, .int 1, .int 1000000000000, .int i2, .int i3] ++ (rs.map fun r => .int r.bound) := ⟨_, rfl⟩
  rw [← hM1] at a1
  have a2 := ad M1 (rs.map fun r => .int r.over) (by rw [hM1]; simp; omega)
  unfold rowsD
  simp [wipeE, l2, a1]
  unfold t_law_8
  simp [wipeE, l7, a2]
  have hmem : ∀ d ∈ M1 ++ (rs.map fun r => D.int r.over), ∃ z : Int, d = .int z ∧ 0 ≤ z ∧ z ≤ 1000000000000 := by
    rw [hM1]
    intro d hd
    simp only [List.mem_append, List.mem_cons, List.not_mem_nil, or_false, List.mem_map] at hd
    rcases hd with ((rfl | rfl | rfl | rfl | rfl) | ⟨r, q, rfl⟩) | ⟨r, q, rfl⟩
    · exact ⟨_, rfl, by decide, by decide⟩
    · exact ⟨_, rfl, by decide, by decide⟩
    · exact ⟨_, rfl, by decide, by decide⟩
    · exact ⟨_, rfl, by omega, by omega⟩
    · exact ⟨_, rfl, by omega, by omega⟩
    · exact ⟨_, rfl, (h.ok r q).b0, by have := (h.ok r q).b1; have := @lim_bd r.deed; omega⟩
    · exact ⟨_, rfl, (h.ok r q).o0, (h.ok r q).o1⟩
  generalize M1 ++ (rs.map fun r => D.int r.over) = M2 at hmem
  refine W.loop (I := fun k env S' => (∃ y9 : Option D, env = [x0, x1, some (.ref b), some (.lst (rs.map fun r => .tup r.ds)), some (bookD rs), x5, x6, some (.tup p.ds), some (.lst M1), y9, x10]) ∧ Bx S' b) (k := 0) ⟨⟨_, rfl⟩, B3⟩ (fun j dd env S7 hj hd hI => ?_) (fun env S7 hI => ?_)
  · obtain ⟨⟨y9, rfl⟩, B7⟩ := hI
    obtain ⟨m, rfl, m0, m1⟩ := hmem _ (List.mem_of_getElem? hd)
    refine ⟨_, rfl, ?_⟩
    unfold t_law_9
    have rk := right_ok (S := S7) h hp m0 m1
    unfold rowsD at rk
    simp
    refine rk.mono ?_
    rintro _ S8 ⟨rfl, hE⟩
    simp
    exact hE.bx B7
  · obtain ⟨⟨y9, rfl⟩, B7⟩ := hI
    obtain ⟨q, hq⟩ : ∃ q : Fit, q = ⟨p.kind, p.town, true, p.day, p.share⟩ := ⟨_, rfl⟩
    have hi : ∀ S : Store, isInst cf "Rulebook" "room" (bookD rs) S = true := fun _ => rfl
    have i0 : ∀ S : Store, idxB (.tup p.ds) (.int 0) S = some (.str p.kind) := fun _ => rfl
    have i1 : ∀ S : Store, idxB (.tup p.ds) (.int 1) S = some (.int p.town) := fun _ => rfl
    have i3 : ∀ S : Store, idxB (.tup p.ds) (.int 3) S = some (.int p.day) := fun _ => rfl
    have c2 : cutD (.tup p.ds) none (some 2) = some (.tup [.str p.kind, .int p.town]) := rfl
    have r3 : cutD (.tup p.ds) (some 3) none = some (.tup [.int p.day, .int p.share]) := rfl
    have ad1 : addD (.tup [.str p.kind, .int p.town]) (.tup [.bl true]) = some (.tup [.str p.kind, .int p.town, .bl true]) := rfl
    have ad2 : addD (.tup [.str p.kind, .int p.town, .bl true]) (.tup [.int p.day, .int p.share]) = some (.tup q.ds) := by rw [hq]; rfl
    have rr := fun S => room_ok (S := S) (rs := rs) (p := q) (most := 1000000) h (by decide) (by decide)
    have lr := fun S => lroom_ok (S := S) (p := q) (most := 1000000) h.ok h.len
    generalize roomV rs q 1000000 = v at rr lr
    rw [hq] at rr
    dsimp only at rr
    unfold rowsD at lr
    unfold t_law_11
    simp [-idx_tup, hi, i0, i1, i3, rr, c2, r3, ad1, ad2, lr, ne_oI]
    exact B7
theorem bad_step {rs : List Ru} {x0 x1 x2 x3 x5 x7 x8 x9 x10 : Option D} {d : D} (hd : okD d = true) (hn : wholeB d 0 1000000000000 = false) : t_law_14 [x0, x1, x2, x3, some (bookD rs), x5, some d, x7, x8, x9, x10] S = .ok (.nx [x0, x1, x2, x3, some (bookD rs), x5, some d, x7, x8, x9, x10]) S := by
  have hi : ∀ S : Store, isInst cf "Rulebook" "room" (bookD rs) S = true := fun _ => rfl
  have sd : eSaid "told" (refL cnsL) (eMeth cf "Rulebook" "room" (callM m_Rulebook_room 6 0 6 [(0, 0), (0, 1), (0, 2), (0, 3), (0, 4), (0, 5)] [.bl true, .int 1000000]) (eVar 4) (aCons (eC (.str "meal")) (aCons (eC (.int 0)) (aCons (eC (.int 5)) (aCons (eC (.bl true)) (aCons (eVar 6) aNil))))) aNil) [x0, x1, x2, x3, some (bookD rs), x5, some d, x7, x8, x9, x10] S = .ok (.tup [.str "share"]) S := by
    have e : (eMeth cf "Rulebook" "room" (callM m_Rulebook_room 6 0 6 [(0, 0), (0, 1), (0, 2), (0, 3), (0, 4), (0, 5)] [.bl true, .int 1000000]) (eVar 4) (aCons (eC (.str "meal")) (aCons (eC (.int 0)) (aCons (eC (.int 5)) (aCons (eC (.bl true)) (aCons (eVar 6) aNil))))) aNil) [x0, x1, x2, x3, some (bookD rs), x5, some d, x7, x8, x9, x10] S = .err "NoShare" [] S := by
      simp [hi, room_n hd hn]
    unfold eSaid
    rw [e]
    rfl
  unfold t_law_14
  rw [u_sIf, u_bVal, u_eOp, sd]
  simp [ne_share]
theorem end_ok {rs : List Ru} {x0 x1 x2 x3 x5 x6 x7 x8 x9 x10 : Option D} : W (t_law_13 [x0, x1, x2, x3, some (bookD rs), x5, x6, x7, x8, x9, x10] S) fun c S' => ∃ y6 : Option D, c = .nx [x0, x1, x2, x3, some (bookD rs), x5, y6, x7, x8, x9, x10] := by
  have hi : ∀ S : Store, isInst cf "Rulebook" "room" (bookD []) S = true := fun _ => rfl
  have hbad : ∀ d ∈ [D.int (-1), .int 1000000000001, .bl true, .non, .str "9", .int 100000000000000000000000000000], okD d = true ∧ wholeB d 0 1000000000000 = false := by
    intro d hd
    simp only [List.mem_cons, List.not_mem_nil, or_false] at hd
    rcases hd with rfl | rfl | rfl | rfl | rfl | rfl <;> exact ⟨by decide, by decide⟩
  unfold t_law_13
  simp
  generalize [D.int (-1), .int 1000000000001, .bl true, .non, .str "9", .int 100000000000000000000000000000] = E at hbad
  refine W.loop (I := fun k env S' => ∃ y6 : Option D, env = [x0, x1, x2, x3, some (bookD rs), x5, y6, x7, x8, x9, x10]) (k := 0) ⟨_, rfl⟩ (fun j dd env S7 hj hd hI => ?_) (fun env S7 hI => ?_)
  · obtain ⟨y6, rfl⟩ := hI
    obtain ⟨k1, k2⟩ := hbad _ (List.mem_of_getElem? hd)
    refine ⟨_, rfl, ?_⟩
    simp only [List.set_cons_succ, List.set_cons_zero]
    rw [bad_step k1 k2]
    simp
  · obtain ⟨y6, rfl⟩ := hI
    unfold t_law_16
    have f0 := frz_book0 (S := S7)
    have rr := room_ok (S := S7 ++ [.dead]) (rs := []) (p := ⟨"bed", 3, true, 59, 0⟩) (most := 1000000) book0 (by decide) (by decide)
    have rv : roomV [] ⟨"bed", 3, true, 59, 0⟩ 1000000 = none := fold_nil
    rw [rv] at rr
    dsimp only at rr
    have e1 : notND (oI none) .non = some (.bl false) := rfl
    simp [f0, hi, rr, e1]
theorem turn_ok {ns : List Int} {i : Nat} {x2 x3 x4 x5 x6 x7 x8 x9 x10 : Option D} (hl : ns.length ≤ 63) (hi : i < 63) : W (t_law_2 [some (.scr ns), some (.int (i : Int)), x2, x3, x4, x5, x6, x7, x8, x9, x10] S) fun c S' => ∃ y1 y2 y3 y4 y5 y6 y7 y8 y9 y10 : Option D, c = .nx [some (.scr ns), y1, y2, y3, y4, y5, y6, y7, y8, y9, y10] := by
  unfold t_law_2
  simp
  refine (box_ok (k := i) hl hi).mono ?_
  rintro _ _ ⟨z1, z2, rfl, rfl, h1, h2⟩
  have hB : Bx (S ++ [.lst [.int z1, .int z2]]) S.length := ⟨z1, z2, by simp, h1, h2⟩
  generalize S ++ [.lst [.int z1, .int z2]] = S0 at hB
  try simp
  unfold t_law_3
  simp
  have lr := lrules_ok (n := 9) hB (by decide)
  refine W.mono lr ?_
  rintro _ S1 ⟨rs0, hr, hnd, hlen, rfl, B1⟩
  obtain ⟨rs, hrs⟩ : ∃ rs, rs = rs0.take 8 := ⟨_, rfl⟩
  have ct : cutD (rowsD rs0) none (some 8) = some (rowsD rs) := by
    show some (D.lst (cutL (rs0.map fun r => D.tup r.ds) none (some 8))) = _
    rw [hrs]
    unfold cutL cutI rowsD
    simp
  have hb : BkOk rs := by
    rw [hrs]
    exact ⟨fun r h => hr r (List.mem_of_mem_take h), by rw [List.map_take]; exact hnd.sublist (List.take_sublist _ _), by rw [List.length_take]; omega⟩
  simp [ct]
  unfold t_law_4
  simp
  refine (booked_ok hb).mono ?_
  rintro _ S2 ⟨rfl, hE⟩
  have B2 := hE.bx B1
  try simp
  unfold t_law_5
  simp
  refine W.loop (I := fun k env S' => (∃ y5 y7 y8 y9 : Option D, env = [some (.scr ns), some (.int (i : Int)), some (.ref S.length), some (rowsD rs), some (bookD rs), y5, x6, y7, y8, y9, x10]) ∧ Bx S' S.length) (k := 0) ⟨⟨_, _, _, _, rfl⟩, B2⟩ (fun j dd env S7 hj hd hI => ?_) (fun env S7 hI => ?_)
  · obtain ⟨⟨y5, y7, y8, y9, rfl⟩, B7⟩ := hI
    refine ⟨_, rfl, ?_⟩
    refine (fit_step B7 hb).mono ?_
    rintro _ S8 ⟨⟨z7, z8, z9, rfl⟩, B8⟩
    exact ⟨⟨_, _, _, _, rfl⟩, B8⟩
  · obtain ⟨⟨y5, y7, y8, y9, rfl⟩, B7⟩ := hI
    refine (end_ok).mono ?_
    rintro _ S8 ⟨y6, rfl⟩
    exact ⟨_, _, _, _, _, _, _, _, _, _, rfl⟩
theorem law13_ok {ns : List Int} (hl : ns.length ≤ 63) : ∃ S, m_law [.scr ns] [] = .ok (.bl true) S := by
  refine W.ex ?_
  unfold m_law
  rw [x_law]
  simp [bLenA, bLen, lenD, bMin2, bMax2]
  generalize hN : (if (1 : Int) < (if (4 : Int) < (ns.length : Int) then (4 : Int) else (ns.length : Int)) then (if (4 : Int) < (ns.length : Int) then (4 : Int) else (ns.length : Int)) else (1 : Int)) = N
  have hN2 : N ≤ 4 ∧ -4611686018427387904 ≤ N ∧ N < 4611686018427387904 := by
    rw [← hN]
    split <;> split <;> omega
  simp [hN2.2]
  refine W.loop (I := fun i env S' => ∃ x1 x2 x3 x4 x5 x6 x7 x8 x9 x10 : Option D, env = [some (.scr ns), x1, x2, x3, x4, x5, x6, x7, x8, x9, x10]) (k := 0)
    ⟨none, none, none, none, none, none, none, none, none, none, rfl⟩ (fun i d env S' hi hd hI => ?_) (fun env S' hI => ?_)
  · obtain ⟨x1, x2, x3, x4, x5, x6, x7, x8, x9, x10, rfl⟩ := hI
    obtain ⟨hi2, rfl⟩ := rng_get hd
    refine ⟨_, rfl, ?_⟩
    simp
    refine (turn_ok (i := i) hl (by omega)).mono ?_
    rintro _ S7 ⟨y1, y2, y3, y4, y5, y6, y7, y8, y9, y10, rfl⟩
    exact ⟨_, _, _, _, _, _, _, _, _, _, rfl⟩
  · obtain ⟨x1, x2, x3, x4, x5, x6, x7, x8, x9, x10, rfl⟩ := hI
    simp [t_law_18]
end Ro
end
open PySem
set_option maxRecDepth 100000 in
theorem PySem.Challenge.cw_roadpence_k13_room_under_rules_holds : PySem.Challenge.rw_roadpence_k13_room_under_rules.Holds := by
  exact Ro.law_from fun ns hl _ => Ro.law13_ok hl

import PyProof.Rows.All
import Wide.All
import OpenK.AllK
import Wide.FinOn
import PyProof.EqAt
import PyProof.EqKinds
import PyProof.TupleCall
import HandS.ForMost
import HandS.Exc
import HandS.ExcOwn
import HandS.WordsExc
import HandS.Defaults
import HandS.TryMany
import HandS.CallSlots
import HandS.Deep
import HandS.ExcInit
import HandS.FStr
import HandS.ClsMeth
import HandS.Nested
import KE.KExcSuper
import KE.KExcMake
import KE.KExcIs
import PyProof.StrLawsRepr
import HandS.HeadHook1
import HandS.HeadHook2
import HandS.Head0
import HandS.Head1
import HandS.Head2
import HandS.HeadEnd
import PySem.Challenge.RW_schemaways_k91_errors
import KE.KStateDown
import HandS.Ends
import HandS.More
set_option Elab.async false
set_option linter.all false
set_option maxRecDepth 100000
set_option maxHeartbeats 0
namespace VL
open PySem PySem.Spec PyProof.Rows L2 ClX NdefX
def asX (g : Addr → Option Obj) : Nat → List Addr
  | 0 => [mainGlobals, cStatics]
  | n + 1 => He.growD g (asX g n)
abbrev FnI : Type := Option (Str × Str × Arguments × FuncBody × Scope × Addr × Value × Addr)
def fnI (K : PySem.W.Frag) (x : Str) : FnI := match K.lookup (He.ma K (He.ga K x) "__init__") with
  | some ⟨_, _, .func fd, _⟩ => some (fd.name, fd.qualname, fd.params, fd.body, fd.scope, fd.globals, fd.defaults, fd.builtins)
  | _ => none
def fileB (file : Str) (K : PySem.W.Frag) (cda : Addr) : Bool := match K.lookup cda with
  | some ⟨_, _, .fields vs, _⟩ => (match vs[2]? with
    | some (Value.str f _) => file == f
    | _ => false)
  | _ => false
def cellB (K : PySem.W.Frag) (C : Addr) (cc : Addr) : Bool := match K.lookup cc with
  | some ⟨_, _, .cell (some (.ref D)), _⟩ => decide (D = C)
  | _ => false
def closB (file : Str) (K : PySem.W.Frag) (q : Str) (C : Addr) : List (Str × Addr) → Value → Bool
  | [(nm, cc)], .ref cda => (nm == ("__class__" : Str)) && (PySem.W.codeIn K (.ref cda) q && (fileB file K cda && cellB K C cc))
  | _, _ => false
def iniB (file : Str) (K : PySem.W.Frag) (x : Str) : Bool := match K.lookup (He.ma K (He.ga K x) "__init__") with
  | some ⟨_, _, .func fd, _⟩ => closB file K fd.qualname (He.ga K x) fd.closure fd.code
  | _ => false
structure IniD where
  x : Str
  qual : Str
  params : Arguments
  body : List Stmt
  scope : Scope
def IniD.val (d : IniD) : FnI := some (("__init__" : Str), d.qual, d.params, .stmts d.body, d.scope, mainGlobals, .none, builtinsNs)
/-- the class's own facts -/
def exfB (K : PySem.W.Frag) (C : Addr) (B newId initId : String) (bmB : List Value) : Bool :=
  PySem.W.excInitIn K C bmB newId && (PySem.W.excOver K C bmB && (PySem.W.hasDictIn K C && (decide (PySem.W.findIn K (.ref C) "__setattr__" = some (some (.builtin "object.__setattr__"))) && (decide (PySem.W.subIn K (.ref C) (.type "BaseException") = some true) &&
  (decide (PySem.W.subIn K (.ref C) (.type B) = some true) && (decide (PySem.W.typeIn K (.ref C) = some (.type "type")) && (PySem.W.keepIn K (.ref C) && (decide (PySem.W.findIn K (.ref C) "__init__" = some (some (.ref (He.ma K C "__init__")))) &&
  (decide (PySem.W.typeIn K (.ref (He.ma K C "__init__")) = some (.type "function")) && (decide (PySem.W.mroIn K C (.ref C) = some true) && (decide (PySem.W.ks_superIn K C C "__init__" = some (some (.builtin initId))) &&
  (decide (PySem.W.findIn K (.ref C) "__getattribute__" = some (some (.builtin "BaseException.__getattribute__"))) && (decide (PySem.W.findIn K (.ref C) "__getattr__" = some none) && (decide (PySem.W.findIn K (.ref C) "__class__" = some (some (.builtin "object.__class__"))) && decide (PySem.W.mroIn K C (.type "object") = some true)))))))))))))))
def comB (K : PySem.W.Frag) : Bool := decide (PySem.W.nsIn K cStatics "thirdparty.any" = some none) && (decide (PySem.W.specialIn K (.builtin "object.__class__") "__get__" = some (some (.builtin "getset_descriptor.__get__"))) && decide (PySem.W.takesIn K (.builtin "object.__class__") = some true))
def isB (K : PySem.W.Frag) (names : List Str) (cv : Value) (tb : Nat → Bool) : Bool := names.zipIdx.all fun p => decide (PySem.W.kitOne K (.ref (He.ga K p.1)) cv = some (tb p.2))
def noB (K : PySem.W.Frag) (flds names : List Str) : Bool := flds.all fun f => names.all fun x => decide (PySem.W.findIn K (.ref (He.ga K x)) f = some none)
/-- the Hook: facts of names, defs, error classes -/
abbrev XAl : Type := He.AlD × (Bool × List FnI)
def obsX (fa : List He.Fa) (fn : List He.DefD) (xb : PySem.W.Frag → Bool) (xs : List IniD) (K : PySem.W.Frag) : XAl := (He.obsD fa fn K, (xb K, xs.map fun d => fnI K d.x))
def valX (fn : List He.DefD) (xs : List IniD) : XAl := (He.valD fn, (true, xs.map IniD.val))
def obsXG (n : Nat) (fa : List He.Fa) (fn : List He.DefD) (xb : PySem.W.Frag → Bool) (xs : List IniD) (g : Addr → Option Obj) : XAl := obsX fa fn xb xs (He.frG g (asX g n))
def hookX (n : Nat) (fa : List He.Fa) (fn : List He.DefD) (xb : PySem.W.Frag → Bool) (xs : List IniD) : PySem.W.Hook where
  α := XAl
  obs := fun s => obsXG n fa fn xb xs s.heap.get?
  val := fun _ => valX fn xs
  says := fun _ h => ∃ K : PySem.W.Frag, K.In h ∧ obsX fa fn xb xs K = valX fn xs
  of := fun _ _ e => ⟨_, He.frG_in, e⟩
  keeps := fun _ _ _ ⟨K, hin, c⟩ same => ⟨K, hin.keeps same, c⟩
theorem obsXG_eq {n : Nat} {fa : List He.Fa} {fn : List He.DefD} {xb : PySem.W.Frag → Bool} {xs : List IniD} {g : Addr → Option Obj} {s : Shared} (h : ∀ a, g a = s.heap.get? a) : obsXG n fa fn xb xs g = (hookX n fa fn xb xs).obs s := by
  obtain rfl : g = s.heap.get? := funext h
  rfl
end VL

namespace L91
open PySem PySem.Spec PyProof.Rows L2 VL NdefX
def top (i : Nat) : Stmt := PySem.Challenge.pw_schemaways_k91_errors.main.body.getD i (.Pass ⟨0, 0, 0, 0⟩)
abbrev st__law_source : Stmt := top 39
abbrev st__law_pick : Stmt := top 40
abbrev st__law_named : Stmt := top 41
abbrev st__law_missing : Stmt := top 42
abbrev st__law_paired : Stmt := top 43
abbrev st__law_counted : Stmt := top 44
abbrev st__law_at_rows : Stmt := top 45
abbrev st__law_plain : Stmt := top 46
abbrev st__law_classes : Stmt := top 47
abbrev st__law_word : Stmt := top 48
abbrev st_law : Stmt := top 49
def cBody : Stmt → List Stmt
  | .ClassDef _ _ _ b _ _ _ _ _ _ _ => b
  | _ => []
abbrev clsNames : List Str := ((["BadName", "TwiceNamed", "NoImage", "BadImage", "BadPair", "BadProduct", "NotBehind", "NotKept", "NotGrouped", "BadEquation", "BrokenEquation", "NoChange", "Ring", "BadCount", "BadRows", "TooMany"] : List Str) ++ (["NotNatural", "NotClosed", "BadCells", "Clash", "BadPath", "MixedSchemas", "MixedInstances", "NotFitting", "BadHolder", "BadFamily", "UnlikeMarks", "NothingDone", "Stale", "BadItem", "UnknownKind", "UnknownColumn"] : List Str) ++ (["UnknownName", "NoView", "NoRow"] : List Str))
abbrev fldNames : List Str := (["name", "second", "first", "third", "number", "kind", "count", "row", "column", "trail"] : List Str)
abbrev si_BadName : Stmt := (cBody (top 2)).getD 0 (.Pass ⟨0, 0, 0, 0⟩)
abbrev si_TwiceNamed : Stmt := (cBody (top 3)).getD 0 (.Pass ⟨0, 0, 0, 0⟩)
abbrev si_NoImage : Stmt := (cBody (top 12)).getD 0 (.Pass ⟨0, 0, 0, 0⟩)
abbrev si_BadImage : Stmt := (cBody (top 13)).getD 0 (.Pass ⟨0, 0, 0, 0⟩)
abbrev si_BadPair : Stmt := (cBody (top 4)).getD 0 (.Pass ⟨0, 0, 0, 0⟩)
abbrev si_BadProduct : Stmt := (cBody (top 5)).getD 0 (.Pass ⟨0, 0, 0, 0⟩)
abbrev si_NotBehind : Stmt := (cBody (top 7)).getD 0 (.Pass ⟨0, 0, 0, 0⟩)
abbrev si_NotKept : Stmt := (cBody (top 14)).getD 0 (.Pass ⟨0, 0, 0, 0⟩)
abbrev si_NotGrouped : Stmt := (cBody (top 6)).getD 0 (.Pass ⟨0, 0, 0, 0⟩)
abbrev si_BadEquation : Stmt := (cBody (top 10)).getD 0 (.Pass ⟨0, 0, 0, 0⟩)
abbrev si_BrokenEquation : Stmt := (cBody (top 15)).getD 0 (.Pass ⟨0, 0, 0, 0⟩)
abbrev si_NoChange : Stmt := (cBody (top 27)).getD 0 (.Pass ⟨0, 0, 0, 0⟩)
abbrev si_Ring : Stmt := (cBody (top 8)).getD 0 (.Pass ⟨0, 0, 0, 0⟩)
abbrev si_BadCount : Stmt := (cBody (top 16)).getD 0 (.Pass ⟨0, 0, 0, 0⟩)
abbrev si_BadRows : Stmt := (cBody (top 18)).getD 0 (.Pass ⟨0, 0, 0, 0⟩)
abbrev si_TooMany : Stmt := (cBody (top 9)).getD 0 (.Pass ⟨0, 0, 0, 0⟩)
abbrev si_NotNatural : Stmt := (cBody (top 19)).getD 0 (.Pass ⟨0, 0, 0, 0⟩)
abbrev si_NotClosed : Stmt := (cBody (top 25)).getD 0 (.Pass ⟨0, 0, 0, 0⟩)
abbrev si_BadCells : Stmt := (cBody (top 17)).getD 0 (.Pass ⟨0, 0, 0, 0⟩)
abbrev si_Clash : Stmt := (cBody (top 31)).getD 0 (.Pass ⟨0, 0, 0, 0⟩)
abbrev si_BadPath : Stmt := (cBody (top 11)).getD 0 (.Pass ⟨0, 0, 0, 0⟩)
abbrev si_MixedSchemas : Stmt := (cBody (top 20)).getD 0 (.Pass ⟨0, 0, 0, 0⟩)
abbrev si_MixedInstances : Stmt := (cBody (top 21)).getD 0 (.Pass ⟨0, 0, 0, 0⟩)
abbrev si_NotFitting : Stmt := (cBody (top 22)).getD 0 (.Pass ⟨0, 0, 0, 0⟩)
abbrev si_BadHolder : Stmt := (cBody (top 23)).getD 0 (.Pass ⟨0, 0, 0, 0⟩)
abbrev si_BadFamily : Stmt := (cBody (top 24)).getD 0 (.Pass ⟨0, 0, 0, 0⟩)
abbrev si_UnlikeMarks : Stmt := (cBody (top 26)).getD 0 (.Pass ⟨0, 0, 0, 0⟩)
abbrev si_NothingDone : Stmt := (cBody (top 28)).getD 0 (.Pass ⟨0, 0, 0, 0⟩)
abbrev si_Stale : Stmt := (cBody (top 29)).getD 0 (.Pass ⟨0, 0, 0, 0⟩)
abbrev si_BadItem : Stmt := (cBody (top 30)).getD 0 (.Pass ⟨0, 0, 0, 0⟩)
abbrev si_UnknownKind : Stmt := (cBody (top 33)).getD 0 (.Pass ⟨0, 0, 0, 0⟩)
abbrev si_UnknownColumn : Stmt := (cBody (top 34)).getD 0 (.Pass ⟨0, 0, 0, 0⟩)
abbrev si_UnknownName : Stmt := (cBody (top 36)).getD 0 (.Pass ⟨0, 0, 0, 0⟩)
abbrev si_NoView : Stmt := (cBody (top 37)).getD 0 (.Pass ⟨0, 0, 0, 0⟩)
abbrev si_NoRow : Stmt := (cBody (top 35)).getD 0 (.Pass ⟨0, 0, 0, 0⟩)
def tb_BadName (i : Nat) : Bool := decide (i = 0)
def tb_TwiceNamed (i : Nat) : Bool := decide (i = 1)
def tb_NoImage (i : Nat) : Bool := decide (i = 2)
def tb_BadImage (i : Nat) : Bool := decide (i = 3)
def tb_BadPair (i : Nat) : Bool := decide (i = 4)
def tb_BadProduct (i : Nat) : Bool := decide (i = 5)
def tb_NotBehind (i : Nat) : Bool := decide (i = 6)
def tb_NotKept (i : Nat) : Bool := decide (i = 7)
def tb_NotGrouped (i : Nat) : Bool := decide (i = 8)
def tb_BadEquation (i : Nat) : Bool := decide (i = 9)
def tb_BrokenEquation (i : Nat) : Bool := decide (i = 10)
def tb_NoChange (i : Nat) : Bool := decide (i = 11)
def tb_Ring (i : Nat) : Bool := decide (i = 12)
def tb_BadCount (i : Nat) : Bool := decide (i = 13)
def tb_BadRows (i : Nat) : Bool := decide (i = 14)
def tb_TooMany (i : Nat) : Bool := decide (i = 15)
def tb_NotNatural (i : Nat) : Bool := decide (i = 16)
def tb_NotClosed (i : Nat) : Bool := decide (i = 17)
def tb_BadCells (i : Nat) : Bool := decide (i = 18)
def tb_Clash (i : Nat) : Bool := decide (i = 19)
def tb_BadPath (i : Nat) : Bool := decide (i = 20)
def tb_MixedSchemas (i : Nat) : Bool := decide (i = 21)
def tb_MixedInstances (i : Nat) : Bool := decide (i = 22)
def tb_NotFitting (i : Nat) : Bool := decide (i = 23)
def tb_BadHolder (i : Nat) : Bool := decide (i = 24)
def tb_BadFamily (i : Nat) : Bool := decide (i = 25)
def tb_UnlikeMarks (i : Nat) : Bool := decide (i = 26)
def tb_NothingDone (i : Nat) : Bool := decide (i = 27)
def tb_Stale (i : Nat) : Bool := decide (i = 28)
def tb_BadItem (i : Nat) : Bool := decide (i = 29)
def tb_UnknownKind (i : Nat) : Bool := decide (i = 30)
def tb_UnknownColumn (i : Nat) : Bool := decide (i = 31)
def tb_UnknownName (i : Nat) : Bool := decide (i = 32)
def tb_NoView (i : Nat) : Bool := decide (i = 33)
def tb_NoRow (i : Nat) : Bool := decide (i = 34)
def tb_LookupError (i : Nat) : Bool := decide (i ∈ ([30, 31, 32, 33, 34] : List Nat))
def tb_NameMissing (i : Nat) : Bool := decide (i ∈ ([30, 31, 32, 33, 34] : List Nat))
def tb_SchemawaysError (i : Nat) : Bool := decide (i ∈ ([0, 1, 2, 3, 4, 5, 6, 7, 8, 9, 10, 11, 12, 13, 14, 15, 16, 17, 18, 19, 20, 21, 22, 23, 24, 25, 26, 27, 28, 29] : List Nat))
def tb_ValueError (i : Nat) : Bool := decide (i ∈ ([0, 1, 2, 3, 4, 5, 6, 7, 8, 9, 10, 11, 12, 13, 14, 15, 16, 17, 18, 19, 20, 21, 22, 23, 24, 25, 26, 27, 28, 29] : List Nat))
abbrev gloNames : List Str := ((["SchemawaysError", "BadName", "TwiceNamed", "BadPair", "BadProduct", "NotGrouped", "NotBehind", "Ring", "TooMany", "BadEquation", "BadPath", "NoImage", "BadImage", "NotKept", "BrokenEquation", "BadCount"] : List Str) ++ (["BadCells", "BadRows", "NotNatural", "MixedSchemas", "MixedInstances", "NotFitting", "BadHolder", "BadFamily", "NotClosed", "UnlikeMarks", "NoChange", "NothingDone", "Stale", "BadItem", "Clash", "NameMissing"] : List Str) ++ (["UnknownKind", "UnknownColumn", "NoRow", "UnknownName", "NoView", "_law_source", "_law_pick", "_law_named", "_law_missing", "_law_paired", "_law_counted", "_law_at_rows", "_law_plain", "_law_classes", "_law_word", "law"] : List Str))
end L91

namespace L91
open PySem PySem.Spec PyProof.Rows L2 VL NdefX
def hfn : List He.DefD := (([⟨("_law_source", none), "_law_source", "_law_source", defArgs st__law_source, defBody st__law_source, defScope st__law_source, [], []⟩, ⟨("_law_pick", none), "_law_pick", "_law_pick", defArgs st__law_pick, defBody st__law_pick, defScope st__law_pick, [], []⟩, ⟨("_law_named", none), "_law_named", "_law_named", defArgs st__law_named, defBody st__law_named, defScope st__law_named, [], []⟩, ⟨("_law_missing", none), "_law_missing", "_law_missing", defArgs st__law_missing, defBody st__law_missing, defScope st__law_missing, [], []⟩, ⟨("_law_paired", none), "_law_paired", "_law_paired", defArgs st__law_paired, defBody st__law_paired, defScope st__law_paired, [], []⟩, ⟨("_law_counted", none), "_law_counted", "_law_counted", defArgs st__law_counted, defBody st__law_counted, defScope st__law_counted, [], []⟩, ⟨("_law_at_rows", none), "_law_at_rows", "_law_at_rows", defArgs st__law_at_rows, defBody st__law_at_rows, defScope st__law_at_rows, [], []⟩, ⟨("_law_plain", none), "_law_plain", "_law_plain", defArgs st__law_plain, defBody st__law_plain, defScope st__law_plain, [], []⟩] : List He.DefD) ++ ([⟨("_law_classes", none), "_law_classes", "_law_classes", defArgs st__law_classes, defBody st__law_classes, defScope st__law_classes, [], []⟩, ⟨("_law_word", none), "_law_word", "_law_word", defArgs st__law_word, defBody st__law_word, defScope st__law_word, [], []⟩, ⟨("law", none), "law", "law", defArgs st_law, defBody st_law, defScope st_law, [], []⟩] : List He.DefD))
def hfa : List He.Fa := gloNames.map He.Fa.glo ++ (["LookupError", "ValueError", "abs", "all", "int", "isinstance", "len", "list", "range", "str", "super"] : List Str).map He.Fa.free
def hxs : List IniD := (([⟨"BadName", "BadName.__init__", defArgs si_BadName, defBody si_BadName, defScope si_BadName⟩, ⟨"TwiceNamed", "TwiceNamed.__init__", defArgs si_TwiceNamed, defBody si_TwiceNamed, defScope si_TwiceNamed⟩, ⟨"NoImage", "NoImage.__init__", defArgs si_NoImage, defBody si_NoImage, defScope si_NoImage⟩, ⟨"BadImage", "BadImage.__init__", defArgs si_BadImage, defBody si_BadImage, defScope si_BadImage⟩, ⟨"BadPair", "BadPair.__init__", defArgs si_BadPair, defBody si_BadPair, defScope si_BadPair⟩, ⟨"BadProduct", "BadProduct.__init__", defArgs si_BadProduct, defBody si_BadProduct, defScope si_BadProduct⟩, ⟨"NotBehind", "NotBehind.__init__", defArgs si_NotBehind, defBody si_NotBehind, defScope si_NotBehind⟩, ⟨"NotKept", "NotKept.__init__", defArgs si_NotKept, defBody si_NotKept, defScope si_NotKept⟩] : List IniD) ++ ([⟨"NotGrouped", "NotGrouped.__init__", defArgs si_NotGrouped, defBody si_NotGrouped, defScope si_NotGrouped⟩, ⟨"BadEquation", "BadEquation.__init__", defArgs si_BadEquation, defBody si_BadEquation, defScope si_BadEquation⟩, ⟨"BrokenEquation", "BrokenEquation.__init__", defArgs si_BrokenEquation, defBody si_BrokenEquation, defScope si_BrokenEquation⟩, ⟨"NoChange", "NoChange.__init__", defArgs si_NoChange, defBody si_NoChange, defScope si_NoChange⟩, ⟨"Ring", "Ring.__init__", defArgs si_Ring, defBody si_Ring, defScope si_Ring⟩, ⟨"BadCount", "BadCount.__init__", defArgs si_BadCount, defBody si_BadCount, defScope si_BadCount⟩, ⟨"BadRows", "BadRows.__init__", defArgs si_BadRows, defBody si_BadRows, defScope si_BadRows⟩, ⟨"TooMany", "TooMany.__init__", defArgs si_TooMany, defBody si_TooMany, defScope si_TooMany⟩] : List IniD) ++ ([⟨"NotNatural", "NotNatural.__init__", defArgs si_NotNatural, defBody si_NotNatural, defScope si_NotNatural⟩, ⟨"NotClosed", "NotClosed.__init__", defArgs si_NotClosed, defBody si_NotClosed, defScope si_NotClosed⟩, ⟨"BadCells", "BadCells.__init__", defArgs si_BadCells, defBody si_BadCells, defScope si_BadCells⟩, ⟨"Clash", "Clash.__init__", defArgs si_Clash, defBody si_Clash, defScope si_Clash⟩, ⟨"BadPath", "BadPath.__init__", defArgs si_BadPath, defBody si_BadPath, defScope si_BadPath⟩, ⟨"MixedSchemas", "MixedSchemas.__init__", defArgs si_MixedSchemas, defBody si_MixedSchemas, defScope si_MixedSchemas⟩, ⟨"MixedInstances", "MixedInstances.__init__", defArgs si_MixedInstances, defBody si_MixedInstances, defScope si_MixedInstances⟩, ⟨"NotFitting", "NotFitting.__init__", defArgs si_NotFitting, defBody si_NotFitting, defScope si_NotFitting⟩] : List IniD) ++ ([⟨"BadHolder", "BadHolder.__init__", defArgs si_BadHolder, defBody si_BadHolder, defScope si_BadHolder⟩, ⟨"BadFamily", "BadFamily.__init__", defArgs si_BadFamily, defBody si_BadFamily, defScope si_BadFamily⟩, ⟨"UnlikeMarks", "UnlikeMarks.__init__", defArgs si_UnlikeMarks, defBody si_UnlikeMarks, defScope si_UnlikeMarks⟩, ⟨"NothingDone", "NothingDone.__init__", defArgs si_NothingDone, defBody si_NothingDone, defScope si_NothingDone⟩, ⟨"Stale", "Stale.__init__", defArgs si_Stale, defBody si_Stale, defScope si_Stale⟩, ⟨"BadItem", "BadItem.__init__", defArgs si_BadItem, defBody si_BadItem, defScope si_BadItem⟩, ⟨"UnknownKind", "UnknownKind.__init__", defArgs si_UnknownKind, defBody si_UnknownKind, defScope si_UnknownKind⟩, ⟨"UnknownColumn", "UnknownColumn.__init__", defArgs si_UnknownColumn, defBody si_UnknownColumn, defScope si_UnknownColumn⟩] : List IniD) ++ ([⟨"UnknownName", "UnknownName.__init__", defArgs si_UnknownName, defBody si_UnknownName, defScope si_UnknownName⟩, ⟨"NoView", "NoView.__init__", defArgs si_NoView, defBody si_NoView, defScope si_NoView⟩, ⟨"NoRow", "NoRow.__init__", defArgs si_NoRow, defBody si_NoRow, defScope si_NoRow⟩] : List IniD))
def hown : List (Str × (Nat → Bool)) := (([("BadName", tb_BadName), ("TwiceNamed", tb_TwiceNamed), ("NoImage", tb_NoImage), ("BadImage", tb_BadImage), ("BadPair", tb_BadPair), ("BadProduct", tb_BadProduct), ("NotBehind", tb_NotBehind), ("NotKept", tb_NotKept)] : List (Str × (Nat → Bool))) ++ ([("NotGrouped", tb_NotGrouped), ("BadEquation", tb_BadEquation), ("BrokenEquation", tb_BrokenEquation), ("NoChange", tb_NoChange), ("Ring", tb_Ring), ("BadCount", tb_BadCount), ("BadRows", tb_BadRows), ("TooMany", tb_TooMany)] : List (Str × (Nat → Bool))) ++ ([("NotNatural", tb_NotNatural), ("NotClosed", tb_NotClosed), ("BadCells", tb_BadCells), ("Clash", tb_Clash), ("BadPath", tb_BadPath), ("MixedSchemas", tb_MixedSchemas), ("MixedInstances", tb_MixedInstances), ("NotFitting", tb_NotFitting)] : List (Str × (Nat → Bool))) ++ ([("BadHolder", tb_BadHolder), ("BadFamily", tb_BadFamily), ("UnlikeMarks", tb_UnlikeMarks), ("NothingDone", tb_NothingDone), ("Stale", tb_Stale), ("BadItem", tb_BadItem), ("UnknownKind", tb_UnknownKind), ("UnknownColumn", tb_UnknownColumn)] : List (Str × (Nat → Bool))) ++ ([("UnknownName", tb_UnknownName), ("NoView", tb_NoView), ("NoRow", tb_NoRow), ("NameMissing", tb_NameMissing), ("SchemawaysError", tb_SchemawaysError)] : List (Str × (Nat → Bool))))
def hblt : List (String × (Nat → Bool)) := (([("LookupError", tb_LookupError), ("ValueError", tb_ValueError)] : List (String × (Nat → Bool))))
def hve : List Str := ((["BadName", "TwiceNamed", "NoImage", "BadImage", "BadPair", "BadProduct", "NotBehind", "NotKept", "NotGrouped", "BadEquation", "BrokenEquation", "NoChange", "Ring", "BadCount", "BadRows", "TooMany"] : List Str) ++ (["NotNatural", "NotClosed", "BadCells", "Clash", "BadPath", "MixedSchemas", "MixedInstances", "NotFitting", "BadHolder", "BadFamily", "UnlikeMarks", "NothingDone", "Stale", "BadItem"] : List Str))
def hle : List Str := (["UnknownKind", "UnknownColumn", "UnknownName", "NoView", "NoRow"] : List Str)
def hxb (K : PySem.W.Frag) : Bool := decide ((clsNames.map (He.ga K)).Nodup) && (comB K && (noB K fldNames clsNames && (hve.all (fun x => exfB K (He.ga K x) "ValueError" "ValueError.__new__" "ValueError.__init__" [.type "ValueError", .type "Exception", .type "BaseException", .type "object"]) && (hle.all (fun x => exfB K (He.ga K x) "LookupError" "LookupError.__new__" "LookupError.__init__" [.type "LookupError", .type "Exception", .type "BaseException", .type "object"]) &&
  (hown.all (fun p => isB K clsNames (.ref (He.ga K p.1)) p.2) && (hblt.all (fun p => isB K clsNames (.type p.1) p.2) && clsNames.all (iniB PySem.Challenge.pw_schemaways_k91_errors.main.file K)))))))
def hnames : List Str := ((["SchemawaysError", "BadName", "TwiceNamed", "BadPair", "BadProduct", "NotGrouped", "NotBehind", "Ring", "TooMany", "BadEquation", "BadPath", "NoImage", "BadImage", "NotKept", "BrokenEquation", "BadCount"] : List Str) ++ (["BadCells", "BadRows", "NotNatural", "MixedSchemas", "MixedInstances", "NotFitting", "BadHolder", "BadFamily", "NotClosed", "UnlikeMarks", "NoChange", "NothingDone", "Stale", "BadItem", "Clash", "NameMissing"] : List Str) ++ (["UnknownKind", "UnknownColumn", "NoRow", "UnknownName", "NoView", "_law_source", "_law_pick", "_law_named", "_law_missing", "_law_paired", "_law_counted", "_law_at_rows", "_law_plain", "_law_classes", "_law_word"] : List Str))
abbrev R : PySem.W.OpenRow := PySem.W.OpenLaw.row PySem.Challenge.rw_schemaways_k91_errors
abbrev hk : PySem.W.Hook := hookX 5 hfa hfn hxb hxs
def ob (s : PySem.W.SharedT) : XAl := obsXG 5 hfa hfn hxb hxs (HandSHeadRun.getT s)
theorem ob_eq (s : PySem.W.SharedT) : ob s = hk.obs s.abs := obsXG_eq (HandSHeadRun.getT_eq s)
abbrev lawIx : Nat := 49
theorem run (w : World) : HandSHeadRun.RunEq R (PySem.W.view R.prog [lawIx]) hk ob 10500 hnames w := by
  intro os
  kernel_rfl
end L91

namespace VL
open PySem PySem.Spec PyProof.Rows L2

/-- data that never changes any more -/
inductive D where
  | non | bl (b : Bool) | int (i : Int) | str (x : Str)
  | tup (xs : List D) | lst (xs : List D)
  | dK (kvs : List (Key × D)) | dT (kvs : List (List Key × D))
  | obj (C : Addr) (fs : List (Str × D))
  /-- the script: a list that was given from outside, or stands in the written part K -/
  | scr (K : PySem.W.Frag) (xs : List D)
  /-- an error of an own class, as a value -/
  | exc (C : Addr) (fs : List (Str × D))
  | raw (v : V)
/-- a value: data, or the number of a cell -/
inductive AV where
  | val (d : D) | cell (i : Nat)
  /-- the error that an except suite holds -/
  | hot
/-- what a cell holds -/
inductive Cell where
  | lst (xs : List AV) | dK (kvs : List (Key × AV)) | dT (kvs : List (List Key × AV))
  | ins (C : Addr) (fs : List (Str × AV))
  | fz (d : D)
abbrev Store := List Cell

mutual
inductive Rep (F : Hp) : V → D → Prop
  | non : Rep F .non .non
  | bl {b : Bool} : Rep F (.bl b) (.bl b)
  | int {i : Int} : Rep F (.int i) (.int i)
  | str {x : Str} : Rep F (.str x) (.str x)
  | tup {a : Addr} {vs : List V} {ds : List D} : F a = some (.tup vs) → Reps F vs ds → Rep F (.ref a) (.tup ds)
  | lst {a : Addr} {vs : List V} {ds : List D} : F a = some (.lst vs) → Reps F vs ds → Rep F (.ref a) (.lst ds)
  | dK {a : Addr} {o : Obj} {vs : List (Key × V)} {ds : List (Key × D)} : F a = some (.frz o (.dK vs)) → RepK F vs ds → Rep F (.ref a) (.dK ds)
  | dT {a : Addr} {o : Obj} {vs : List (List Key × V)} {ds : List (List Key × D)} : F a = some (.frz o (.dT vs)) → RepT F vs ds → Rep F (.ref a) (.dT ds)
  | obj {a dx C : Addr} {vs : List (Str × V)} {ds : List (Str × D)} : F a = some (.ins C dx vs) → F dx = some (.own a) → RepF F vs ds → Rep F (.ref a) (.obj C ds)
  | scr {K : PySem.W.Frag} {a : Addr} {vs : List V} {ds : List D} : ((∃ o, F a = some (.frz o (.lst vs))) ∨ ∀ H : Hp, SqL K H a vs) → Reps F vs ds → Rep F (.ref a) (.scr K ds)
  | exc0 {a C : Addr} : F a = some (exo a C none) → Rep F (.ref a) (.exc C [])
  | exc {a dx C : Addr} {vs : List (Str × V)} {ds : List (Str × D)} : F a = some (exo a C (some dx)) → F dx = some (exd dx vs) → RepF F vs ds → Rep F (.ref a) (.exc C ds)
  | raw {v : V} : Rep F v (.raw v)
inductive Reps (F : Hp) : List V → List D → Prop
  | nil : Reps F [] []
  | cons {v : V} {d : D} {vs : List V} {ds : List D} : Rep F v d → Reps F vs ds → Reps F (v :: vs) (d :: ds)
inductive RepK (F : Hp) : List (Key × V) → List (Key × D) → Prop
  | nil : RepK F [] []
  | cons {k : Key} {v : V} {d : D} {vs : List (Key × V)} {ds : List (Key × D)} : Rep F v d → RepK F vs ds → RepK F ((k, v) :: vs) ((k, d) :: ds)
inductive RepT (F : Hp) : List (List Key × V) → List (List Key × D) → Prop
  | nil : RepT F [] []
  | cons {k : List Key} {v : V} {d : D} {vs : List (List Key × V)} {ds : List (List Key × D)} : Rep F v d → RepT F vs ds → RepT F ((k, v) :: vs) ((k, d) :: ds)
inductive RepF (F : Hp) : List (Str × V) → List (Str × D) → Prop
  | nil : RepF F [] []
  | cons {k : Str} {v : V} {d : D} {vs : List (Str × V)} {ds : List (Str × D)} : Rep F v d → RepF F vs ds → RepF F ((k, v) :: vs) ((k, d) :: ds)
end
def Sub (F G : Hp) : Prop := ∀ a o, F a = some o → G a = some o
theorem Sub.refl (F : Hp) : Sub F F := fun _ _ h => h
theorem Sub.trans {F G H : Hp} (a : Sub F G) (b : Sub G H) : Sub F H := fun x o h => b x o (a x o h)
mutual
theorem Rep.mono {F G : Hp} (e : Sub F G) : ∀ {v : V} {d : D}, Rep F v d → Rep G v d
  | _, _, .non => .non
  | _, _, .bl => .bl
  | _, _, .int => .int
  | _, _, .str => .str
  | _, _, .tup h r => .tup (e _ _ h) (Reps.mono e r)
  | _, _, .lst h r => .lst (e _ _ h) (Reps.mono e r)
  | _, _, .dK h r => .dK (e _ _ h) (RepK.mono e r)
  | _, _, .dT h r => .dT (e _ _ h) (RepT.mono e r)
  | _, _, .obj h h2 r => .obj (e _ _ h) (e _ _ h2) (RepF.mono e r)
  | _, _, .scr h r => .scr (by
      rcases h with ⟨o, h⟩ | h
      · exact .inl ⟨o, e _ _ h⟩
      · exact .inr h) (Reps.mono e r)
  | _, _, .exc0 h => .exc0 (e _ _ h)
  | _, _, .exc h h2 r => .exc (e _ _ h) (e _ _ h2) (RepF.mono e r)
  | _, _, .raw => .raw
theorem Reps.mono {F G : Hp} (e : Sub F G) : ∀ {v : List V} {d : List D}, Reps F v d → Reps G v d
  | _, _, .nil => .nil
  | _, _, .cons h r => .cons (Rep.mono e h) (Reps.mono e r)
theorem RepK.mono {F G : Hp} (e : Sub F G) : ∀ {v : List (Key × V)} {d : List (Key × D)}, RepK F v d → RepK G v d
  | _, _, .nil => .nil
  | _, _, .cons h r => .cons (Rep.mono e h) (RepK.mono e r)
theorem RepT.mono {F G : Hp} (e : Sub F G) : ∀ {v : List (List Key × V)} {d : List (List Key × D)}, RepT F v d → RepT G v d
  | _, _, .nil => .nil
  | _, _, .cons h r => .cons (Rep.mono e h) (RepT.mono e r)
theorem RepF.mono {F G : Hp} (e : Sub F G) : ∀ {v : List (Str × V)} {d : List (Str × D)}, RepF F v d → RepF G v d
  | _, _, .nil => .nil
  | _, _, .cons h r => .cons (Rep.mono e h) (RepF.mono e r)
end

/-- a world: what is frozen, where the cells stand, the error at hand (its object, its class, its dict) -/
structure Wd where
  F : Hp
  loc : List Addr
  hot : Option (Addr × Value × Option Addr) := none

def AVR (W : Wd) (v : V) : AV → Prop
  | .val d => Rep W.F v d
  | .cell i => ∃ p, W.loc[i]? = some p ∧ v = .ref p
  | .hot => ∃ a c d, W.hot = some (a, c, d) ∧ v = .ref a
/-- pointwise -/
inductive AVs (W : Wd) : List V → List AV → Prop
  | nil : AVs W [] []
  | cons {v : V} {a : AV} {vs : List V} {as : List AV} : AVR W v a → AVs W vs as → AVs W (v :: vs) (a :: as)
inductive AKs {κ : Type} (W : Wd) : List (κ × V) → List (κ × AV) → Prop
  | nil : AKs W [] []
  | cons {k : κ} {v : V} {a : AV} {vs : List (κ × V)} {as : List (κ × AV)} : AVR W v a → AKs W vs as → AKs W ((k, v) :: vs) ((k, a) :: as)

def CellOk (W : Wd) (H : Hp) (p : Addr) : Cell → Prop
  | .lst xs => W.F p = none ∧ ∃ vs, H p = some (.lst vs) ∧ AVs W vs xs
  | .dK kvs => W.F p = none ∧ ∃ vs, H p = some (.dK vs) ∧ AKs W vs kvs
  | .dT kvs => W.F p = none ∧ ∃ vs, H p = some (.dT vs) ∧ AKs W vs kvs
  | .ins C fs => W.F p = none ∧ ∃ dx vs, H p = some (.ins C dx vs) ∧ W.F dx = some (.own p) ∧ AKs W vs fs
  | .fz d => Rep W.F (.ref p) d ∧ W.F p ≠ none

structure Rel (W : Wd) (S : Store) (H : Hp) : Prop where
  sub : Sub W.F H
  len : W.loc.length = S.length
  nd : W.loc.Nodup
  ok : ∀ (i : Nat) (c : Cell) (p : Addr), S[i]? = some c → W.loc[i]? = some p → CellOk W H p c

/-- from (W, H) to (W', H'): the frozen stays, the cells stay where they are, all else that is tracked stays -/
structure Step (W : Wd) (H : Hp) (W' : Wd) (H' : Hp) : Prop where
  F : Sub W.F W'.F
  loc : ∃ m, W'.loc = W.loc ++ m
  hot : W'.hot = W.hot
  new : ∀ a, a ∈ W'.loc → a ∈ W.loc ∨ H a = none
  newF : ∀ a o, W'.F a = some o → W.F a = some o ∨ H a = none ∨ a ∈ W.loc ∨ ∃ xs, o = .tup xs
  keep : ∀ a o, H a = some o → a ∉ W.loc → H' a = some o
theorem Step.refl (W : Wd) (H : Hp) : Step W H W H := ⟨Sub.refl _, ⟨[], by simp⟩, rfl, fun _ h => .inl h, fun _ _ h => .inl h, fun _ _ h _ => h⟩
theorem Step.back {W W' : Wd} {H H' : Hp} (s : Step W H W' H') {a : Addr} (h : H' a = none) : a ∈ W.loc ∨ H a = none := by
  by_cases q : a ∈ W.loc
  · exact .inl q
  · cases e : H a with
    | none => exact .inr rfl
    | some o => rw [s.keep a o e q] at h; cases h
theorem Step.trans {W W1 W2 : Wd} {H H1 H2 : Hp} (s : Step W H W1 H1) (t : Step W1 H1 W2 H2) : Step W H W2 H2 := by
  obtain ⟨m, hm⟩ := s.loc
  obtain ⟨m2, hm2⟩ := t.loc
  refine ⟨s.F.trans t.F, ⟨m ++ m2, by rw [hm2, hm, List.append_assoc]⟩, t.hot.trans s.hot, fun a h => ?_, fun a o h => ?_, fun a o h n => ?_⟩
  · rcases t.new a h with q | q
    · exact s.new a q
    · exact s.back q
  · rcases t.newF a o h with q | q | q | q
    · exact s.newF a o q
    · rcases s.back q with q | q
      · exact .inr (.inr (.inl q))
      · exact .inr (.inl q)
    · rcases s.new a q with q | q
      · exact .inr (.inr (.inl q))
      · exact .inr (.inl q)
    · exact .inr (.inr (.inr q))
  · refine t.keep a o (s.keep a o h n) fun q => ?_
    rcases s.new a q with q | q
    · exact n q
    · rw [h] at q; cases q
theorem Step.at {W W' : Wd} {H H' : Hp} (s : Step W H W' H') {i : Nat} {p : Addr} (h : W.loc[i]? = some p) : W'.loc[i]? = some p := by
  obtain ⟨m, hm⟩ := s.loc
  rw [hm, List.getElem?_append_left (by rw [List.getElem?_eq_some_iff] at h; exact h.1)]
  exact h
theorem AVR.step {W W' : Wd} {H H' : Hp} (s : Step W H W' H') {v : V} : ∀ {a : AV}, AVR W v a → AVR W' v a
  | .val _, h => Rep.mono s.F h
  | .cell _, ⟨p, h, e⟩ => ⟨p, s.at h, e⟩
  | .hot, ⟨a, c, d, h, e⟩ => ⟨a, c, d, by rw [s.hot]; exact h, e⟩
theorem AVs.step {W W' : Wd} {H H' : Hp} (s : Step W H W' H') : ∀ {vs : List V} {as : List AV}, AVs W vs as → AVs W' vs as
  | _, _, .nil => .nil
  | _, _, .cons h r => .cons (h.step s) (AVs.step s r)
theorem AKs.step {κ : Type} {W W' : Wd} {H H' : Hp} (s : Step W H W' H') : ∀ {vs : List (κ × V)} {as : List (κ × AV)}, AKs W vs as → AKs W' vs as
  | _, _, .nil => .nil
  | _, _, .cons h r => .cons (h.step s) (AKs.step s r)
theorem AVs.len {W : Wd} : ∀ {vs : List V} {as : List AV}, AVs W vs as → vs.length = as.length
  | _, _, .nil => rfl
  | _, _, .cons _ r => by simp [AVs.len r]
theorem AVs.app {W : Wd} : ∀ {vs us : List V} {as bs : List AV}, AVs W vs as → AVs W us bs → AVs W (vs ++ us) (as ++ bs)
  | _, _, _, _, .nil, s => s
  | _, _, _, _, .cons h r, s => .cons h (AVs.app r s)
theorem AVs.get {W : Wd} : ∀ {vs : List V} {as : List AV} {i : Nat} {v : V}, AVs W vs as → vs[i]? = some v → ∃ a, as[i]? = some a ∧ AVR W v a
  | _, _, _, _, .nil, e => by simp at e
  | _, _, 0, _, .cons h _, e => by simp at e; subst e; exact ⟨_, rfl, h⟩
  | _, _, i + 1, v, .cons _ r, e => by
    obtain ⟨a, h1, h2⟩ := AVs.get (i := i) (v := v) r (by simpa using e)
    exact ⟨a, by simpa using h1, h2⟩
theorem AVs.get' {W : Wd} : ∀ {vs : List V} {as : List AV} {i : Nat} {a : AV}, AVs W vs as → as[i]? = some a → ∃ v, vs[i]? = some v ∧ AVR W v a
  | _, _, _, _, .nil, e => by simp at e
  | _, _, 0, _, .cons h _, e => by simp at e; subst e; exact ⟨_, rfl, h⟩
  | _, _, i + 1, v, .cons _ r, e => by
    obtain ⟨a, h1, h2⟩ := AVs.get' (i := i) r (by simpa using e)
    exact ⟨a, by simpa using h1, h2⟩
theorem AVs.set {W : Wd} {v : V} {a : AV} (h : AVR W v a) : ∀ {vs : List V} {as : List AV} (i : Nat), AVs W vs as → AVs W (vs.set i v) (as.set i a)
  | _, _, _, .nil => .nil
  | _, _, 0, .cons _ r => .cons h r
  | _, _, i + 1, .cons q r => .cons q (AVs.set h i r)
theorem AVs.ofReps {W : Wd} : ∀ {vs : List V} {ds : List D}, Reps W.F vs ds → AVs W vs (ds.map .val)
  | _, _, .nil => .nil
  | _, _, .cons h r => .cons h (AVs.ofReps r)
theorem AVs.toReps {W : Wd} : ∀ {vs : List V} {ds : List D}, AVs W vs (ds.map .val) → Reps W.F vs ds
  | _, [], .nil => .nil
  | _, _ :: _, .cons h r => .cons h (AVs.toReps r)
theorem AKs.ofRepK {W : Wd} : ∀ {vs : List (Key × V)} {ds : List (Key × D)}, RepK W.F vs ds → AKs W vs (ds.map fun p => (p.1, .val p.2))
  | _, _, .nil => .nil
  | _, _, .cons h r => .cons h (AKs.ofRepK r)
theorem AKs.ofRepT {W : Wd} : ∀ {vs : List (List Key × V)} {ds : List (List Key × D)}, RepT W.F vs ds → AKs W vs (ds.map fun p => (p.1, .val p.2))
  | _, _, .nil => .nil
  | _, _, .cons h r => .cons h (AKs.ofRepT r)
theorem AKs.ofRepF {W : Wd} : ∀ {vs : List (Str × V)} {ds : List (Str × D)}, RepF W.F vs ds → AKs W vs (ds.map fun p => (p.1, .val p.2))
  | _, _, .nil => .nil
  | _, _, .cons h r => .cons h (AKs.ofRepF r)

theorem AVR.more {W : Wd} {m : List Addr} {v : V} : ∀ {a : AV}, AVR W v a → AVR { W with loc := W.loc ++ m } v a
  | .val _, h => h
  | .cell i, ⟨p, h, e⟩ => ⟨p, by show (W.loc ++ m)[i]? = some p; rw [List.getElem?_append_left (List.getElem?_eq_some_iff.mp h).1]; exact h, e⟩
  | .hot, h => h
theorem AVs.mono {W : Wd} {m : List Addr} : ∀ {vs : List V} {as : List AV}, AVs W vs as → AVs { W with loc := W.loc ++ m } vs as
  | _, _, .nil => .nil
  | _, _, .cons h r => .cons h.more (AVs.mono r)
theorem AKs.mono {κ : Type} {W : Wd} {m : List Addr} : ∀ {vs : List (κ × V)} {as : List (κ × AV)}, AKs W vs as → AKs { W with loc := W.loc ++ m } vs as
  | _, _, .nil => .nil
  | _, _, .cons h r => .cons h.more (AKs.mono r)

abbrev Rho := List (Option AV)
def EnvR (W : Wd) (ρ : Rho) (σ : L2.St) : Prop := ρ.length = σ.length ∧ ∀ (i : Nat) (a : AV), ρ[i]? = some (some a) → ∃ v, σ[i]? = some (some v) ∧ AVR W v a
theorem EnvR.step {W W' : Wd} {H H' : Hp} {ρ : Rho} {σ : L2.St} (s : Step W H W' H') (e : EnvR W ρ σ) : EnvR W' ρ σ :=
  ⟨e.1, fun i a h => by obtain ⟨v, h1, h2⟩ := e.2 i a h; exact ⟨v, h1, h2.step s⟩⟩
theorem EnvR.set {W : Wd} {ρ : Rho} {σ : L2.St} {v : V} {a : AV} (e : EnvR W ρ σ) (r : AVR W v a) (i : Nat) : EnvR W (ρ.set i (some a)) (σ.set i (some v)) := by
  refine ⟨by simpa using e.1, fun j b h => ?_⟩
  by_cases hj : i = j
  · subst hj
    by_cases hi : i < ρ.length
    · rw [List.getElem?_set_self hi] at h
      cases h
      exact ⟨v, List.getElem?_set_self (by rw [← e.1]; exact hi), r⟩
    · rw [List.getElem?_eq_none (by simpa using Nat.le_of_not_lt hi)] at h
      cases h
  · rw [List.getElem?_set_ne hj] at h
    rw [List.getElem?_set_ne hj]
    exact e.2 j b h
theorem EnvR.start {W : Wd} {vs : List V} {as : List AV} (N : List Str) (r : AVs W vs as) : EnvR W (as.map some ++ List.replicate (N.length - as.length) none) (L2.start N vs) := by
  have hl := r.len
  refine ⟨by simp [L2.start, hl], fun i a h => ?_⟩
  by_cases hi : i < as.length
  · rw [List.getElem?_append_left (by simpa using hi), List.getElem?_map] at h
    cases e : as[i]? with
    | none => rw [e] at h; cases h
    | some b =>
      rw [e] at h
      cases h
      obtain ⟨v, h1, h2⟩ := r.get' e
      refine ⟨v, ?_, h2⟩
      unfold L2.start
      rw [List.getElem?_append_left (by simpa [hl] using hi), List.getElem?_map, h1]
      rfl
  · rw [List.getElem?_append_right (by simpa using hi), List.getElem?_replicate] at h
    split at h <;> cases h

section
variable {W : Wd} {S : Store} {H : Hp}
theorem Rel.fresh (r : Rel W S H) {p : Addr} (h : H p = none) : W.F p = none ∧ p ∉ W.loc := by
  constructor
  · cases e : W.F p with
    | none => rfl
    | some o => rw [r.sub p o e] at h; cases h
  · intro hm
    obtain ⟨i, hi⟩ := List.mem_iff_getElem?.mp hm
    have hlt : i < S.length := by rw [← r.len]; exact (List.getElem?_eq_some_iff.mp hi).1
    have := r.ok i _ p (List.getElem?_eq_getElem hlt) hi
    cases e : S[i] with
    | lst xs => rw [e] at this; obtain ⟨_, vs, q, _⟩ := this; rw [h] at q; cases q
    | dK xs => rw [e] at this; obtain ⟨_, vs, q, _⟩ := this; rw [h] at q; cases q
    | dT xs => rw [e] at this; obtain ⟨_, vs, q, _⟩ := this; rw [h] at q; cases q
    | ins C xs => rw [e] at this; obtain ⟨_, dx, vs, q, _⟩ := this; rw [h] at q; cases q
    | fz d =>
      rw [e] at this
      obtain ⟨_, q⟩ := this
      cases e2 : W.F p with
      | none => exact q e2
      | some o => rw [r.sub p o e2] at h; cases h
/-- what a cell's being there leans on -/
theorem CellOk.step {W' : Wd} {H' : Hp} {p : Addr} {c : Cell} (h : CellOk W H p c) (s : Step W H W' H') (hp : H' p = H p) (hF : W'.F p = W.F p) : CellOk W' H' p c := by
  cases c with
  | lst xs => obtain ⟨n, vs, q, r⟩ := h; exact ⟨hF.trans n, vs, hp.trans q, r.step s⟩
  | dK xs => obtain ⟨n, vs, q, r⟩ := h; exact ⟨hF.trans n, vs, hp.trans q, r.step s⟩
  | dT xs => obtain ⟨n, vs, q, r⟩ := h; exact ⟨hF.trans n, vs, hp.trans q, r.step s⟩
  | ins C xs => obtain ⟨n, dx, vs, q, f, r⟩ := h; exact ⟨hF.trans n, dx, vs, hp.trans q, s.F _ _ f, r.step s⟩
  | fz d => exact ⟨h.1.mono s.F, by rw [hF]; exact h.2⟩
theorem Rel.at (r : Rel W S H) {i : Nat} {c : Cell} (h : S[i]? = some c) : ∃ p, W.loc[i]? = some p ∧ CellOk W H p c := by
  have hl : i < W.loc.length := by rw [r.len]; exact (List.getElem?_eq_some_iff.mp h).1
  exact ⟨_, List.getElem?_eq_getElem hl, r.ok i c _ h (List.getElem?_eq_getElem hl)⟩
/-- frozen at once -/
theorem Rel.lay (r : Rel W S H) {p : Addr} {o : HO} (h : H p = none) : Rel { W with F := upd W.F p o } S (upd H p o) ∧ Step W H { W with F := upd W.F p o } (upd H p o) := by
  obtain ⟨hF, hl⟩ := r.fresh h
  have st : Step W H { W with F := upd W.F p o } (upd H p o) := by
    refine ⟨fun a u e => ?_, ⟨[], by simp⟩, rfl, fun a q => .inl q, fun a u e => ?_, fun a u e _ => ?_⟩
    · show upd W.F p o a = some u
      rw [upd_ne (ne_of_none e hF)]; exact e
    · have e : upd W.F p o a = some u := e
      by_cases q : a = p
      · subst q; exact .inr (.inl h)
      · rw [upd_ne q] at e; exact .inl e
    · rw [upd_ne (ne_of_none e h)]; exact e
  refine ⟨⟨fun a u e => ?_, r.len, r.nd, fun i c q hi hq => ?_⟩, st⟩
  · have e : upd W.F p o a = some u := e
    by_cases z : a = p
    · subst z; rw [upd_same] at e ⊢; exact e
    · rw [upd_ne z] at e ⊢; exact r.sub a u e
  · have hq' : W.loc[i]? = some q := hq
    have ne : q ≠ p := fun z => hl (by rw [← z]; exact List.mem_of_getElem? hq')
    exact (r.ok i c q hi hq').step st (upd_ne ne) (upd_ne ne)
/-- a new cell -/
theorem Rel.alloc (r : Rel W S H) {p : Addr} {o : HO} {c : Cell} (h : H p = none) (hc : CellOk { W with loc := W.loc ++ [p] } (upd H p o) p c) :
    Rel { W with loc := W.loc ++ [p] } (S ++ [c]) (upd H p o) ∧ Step W H { W with loc := W.loc ++ [p] } (upd H p o) := by
  obtain ⟨hF, hl⟩ := r.fresh h
  have st : Step W H { W with loc := W.loc ++ [p] } (upd H p o) := by
    refine ⟨Sub.refl _, ⟨[p], rfl⟩, rfl, fun a q => ?_, fun a u e => .inl e, fun a u e _ => ?_⟩
    · rcases List.mem_append.mp q with q | q
      · exact .inl q
      · have : a = p := by simpa using q
        subst this; exact .inr h
    · rw [upd_ne (ne_of_none e h)]; exact e
  refine ⟨⟨fun a u e => ?_, by simp [r.len], ?_, fun i c' q hi hq => ?_⟩, st⟩
  · rw [upd_ne (ne_of_none (r.sub a u e) h)]; exact r.sub a u e
  · show (W.loc ++ [p]).Nodup
    rw [List.nodup_append]
    exact ⟨r.nd, by simp, fun a ha b hb e => hl (by have z : b = p := (by simpa using hb); rw [← z, ← e]; exact ha)⟩
  · have hq' : (W.loc ++ [p])[i]? = some q := hq
    by_cases hi' : i < S.length
    · rw [List.getElem?_append_left hi'] at hi
      rw [List.getElem?_append_left (by rw [r.len]; exact hi')] at hq'
      have ne : q ≠ p := fun z => hl (by rw [← z]; exact List.mem_of_getElem? hq')
      exact (r.ok i c' q hi hq').step st (upd_ne ne) rfl
    · have e : i = S.length := by
        have := (List.getElem?_eq_some_iff.mp hi).1
        simp at this
        omega
      subst e
      rw [List.getElem?_append_right (Nat.le_refl _)] at hi
      rw [← r.len, List.getElem?_append_right (Nat.le_refl _)] at hq'
      simp at hi hq'
      subst hi
      subst hq'
      exact hc
/-- a cell written -/
theorem Rel.put (r : Rel W S H) {i : Nat} {p : Addr} {o : HO} {c : Cell} (hi : W.loc[i]? = some p) (hn : W.F p = none) (hc : CellOk W (upd H p o) p c) :
    Rel W (S.set i c) (upd H p o) ∧ Step W H W (upd H p o) := by
  have hm : p ∈ W.loc := List.mem_of_getElem? hi
  have st : Step W H W (upd H p o) := by
    refine ⟨Sub.refl _, ⟨[], by simp⟩, rfl, fun a q => .inl q, fun a u e => .inl e, fun a u e n => ?_⟩
    rw [upd_ne (fun z => n (by rw [z]; exact hm))]; exact e
  refine ⟨⟨fun a u e => ?_, by simp [r.len], r.nd, fun j c' q hj hq => ?_⟩, st⟩
  · rw [upd_ne (fun z => by rw [z, hn] at e; cases e)]; exact r.sub a u e
  · by_cases e : i = j
    · subst e
      rw [hi] at hq
      cases hq
      have hlt : i < S.length := by rw [← r.len]; exact (List.getElem?_eq_some_iff.mp hi).1
      rw [List.getElem?_set_self hlt] at hj
      cases hj
      exact hc
    · rw [List.getElem?_set_ne e] at hj
      have ne : q ≠ p := fun z => by
        subst z
        have h1 := List.getElem?_eq_some_iff.mp hi
        have h2 := List.getElem?_eq_some_iff.mp hq
        obtain ⟨l1, e1⟩ := h1
        obtain ⟨l2, e2⟩ := h2
        exact e ((List.getElem_inj r.nd).mp (e1.trans e2.symm))
      exact (r.ok j c' q hj hq).step st (upd_ne ne) rfl
/-- a cell is frozen where it stands -/
theorem Rel.freeze (r : Rel W S H) {i : Nat} {p : Addr} {o : HO} {d : D} (hi : W.loc[i]? = some p) (hn : W.F p = none) (hd : Rep (upd W.F p o) (.ref p) d) :
    Rel { W with F := upd W.F p o } (S.set i (.fz d)) (upd H p o) ∧ Step W H { W with F := upd W.F p o } (upd H p o) := by
  have hm : p ∈ W.loc := List.mem_of_getElem? hi
  have st : Step W H { W with F := upd W.F p o } (upd H p o) := by
    refine ⟨fun a u e => ?_, ⟨[], by simp⟩, rfl, fun a q => .inl q, fun a u e => ?_, fun a u e n => ?_⟩
    · show upd W.F p o a = some u
      rw [upd_ne (fun z => by rw [z, hn] at e; cases e)]; exact e
    · have e : upd W.F p o a = some u := e
      by_cases q : a = p
      · subst q; exact .inr (.inr (.inl hm))
      · rw [upd_ne q] at e; exact .inl e
    · rw [upd_ne (fun z => n (by rw [z]; exact hm))]; exact e
  refine ⟨⟨fun a u e => ?_, by simp [r.len], r.nd, fun j c' q hj hq => ?_⟩, st⟩
  · have e : upd W.F p o a = some u := e
    by_cases z : a = p
    · subst z; rw [upd_same] at e ⊢; exact e
    · rw [upd_ne z] at e ⊢; exact r.sub a u e
  · have hq : W.loc[j]? = some q := hq
    by_cases e : i = j
    · subst e
      rw [hi] at hq
      cases hq
      have hlt : i < S.length := by rw [← r.len]; exact (List.getElem?_eq_some_iff.mp hi).1
      rw [List.getElem?_set_self hlt] at hj
      cases hj
      exact ⟨hd, by show upd W.F p o p ≠ none; rw [upd_same]; simp⟩
    · rw [List.getElem?_set_ne e] at hj
      have ne : q ≠ p := fun z => by
        subst z
        obtain ⟨l1, e1⟩ := List.getElem?_eq_some_iff.mp hi
        obtain ⟨l2, e2⟩ := List.getElem?_eq_some_iff.mp hq
        exact e ((List.getElem_inj r.nd).mp (e1.trans e2.symm))
      exact (r.ok j c' q hj hq).step st (upd_ne ne) (upd_ne ne)
end
end VL

namespace VL
open PySem PySem.Spec PyProof.Rows L2

inductive Out (α : Type) where
  | ok (a : α) (S : Store)
  | exc (C : Addr) (fs : List (Str × AV)) (S : Store)
  | stuck
def Out.bind {α β : Type} (o : Out α) (g : α → Store → Out β) : Out β := match o with
  | .ok a S => g a S
  | .exc C fs S => .exc C fs S
  | .stuck => .stuck
@[simp] theorem Out.bind_ok {α β : Type} (a : α) (S : Store) (g : α → Store → Out β) : (Out.ok a S).bind g = g a S := rfl
@[simp] theorem Out.bind_exc {α β : Type} (C : Addr) (fs : List (Str × AV)) (S : Store) (g : α → Store → Out β) : (Out.exc C fs S : Out α).bind g = .exc C fs S := rfl
@[simp] theorem Out.bind_stuck {α β : Type} (g : α → Store → Out β) : (Out.stuck : Out α).bind g = .stuck := rfl
abbrev Den (α : Type) := Rho → Store → Out α

/-- an error: its class, its fields -/
def ExcR (W : Wd) (cls : Value) (d : Option Addr) (C : Addr) (fs : List (Str × AV)) : Prop :=
  cls = .ref C ∧ ((fs = [] ∧ d = none) ∨ ∃ dd vs, d = some dd ∧ W.F dd = some (.xd vs) ∧ AKs W vs fs)
def GoP {α : Type} (Wx : WX) (W : Wd) (σ : L2.St) (H : Hp) (o : Out α) (P : α → Store → Wd → Hp → Prop) : Prop := match o with
  | .ok a S => ∀ W' H', Step W H W' H' → Rel W' S H' → P a S W' H'
  | .exc C fs S => ∀ W' H' cls d, Step W H W' H' → Rel W' S H' → ExcR W' cls d C fs → Wx cls d σ H'
  | .stuck => False
section
variable {α β : Type} {Wx : WX} {W W1 : Wd} {σ : L2.St} {H H1 : Hp} {o : Out α} {P P' : α → Store → Wd → Hp → Prop}
theorem GoP.step (s : Step W H W1 H1) (h : GoP Wx W σ H o P) : GoP Wx W1 σ H1 o P := by
  cases o with
  | ok a S => exact fun W' H' t r => h W' H' (s.trans t) r
  | exc C fs S => exact fun W' H' c d t r x => h W' H' c d (s.trans t) r x
  | stuck => exact h
theorem GoP.imp (h : GoP Wx W σ H o P) (f : ∀ a S W' H', Step W H W' H' → Rel W' S H' → P a S W' H' → P' a S W' H') : GoP Wx W σ H o P' := by
  cases o with
  | ok a S => exact fun W' H' t r => f a S W' H' t r (h W' H' t r)
  | exc C fs S => exact h
  | stuck => exact h
theorem GoP.split {g : α → Store → Out β} {R : β → Store → Wd → Hp → Prop} (h : GoP Wx W σ H (o.bind g) R) : GoP Wx W σ H o (fun a S W' H' => GoP Wx W' σ H' (g a S) R) := by
  cases o with
  | ok a S => exact fun W' H' t r => GoP.step t h
  | exc C fs S => exact h
  | stuck => exact h
theorem GoP.split0 {g : α → Store → Out β} {R : β → Store → Wd → Hp → Prop} (h : GoP Wx W σ H (o.bind g) R) : GoP Wx W σ H o (fun a S _ _ => GoP Wx W σ H (g a S) R) := by
  cases o with
  | ok a S => exact fun W' H' t r => h
  | exc C fs S => exact h
  | stuck => exact h
theorem GoP.here {a : α} {S : Store} (h : GoP Wx W σ H (.ok a S) P) (r : Rel W S H) : P a S W H := h W H (Step.refl W H) r
end
/-- what is wanted of a value, of several -/
abbrev QV (Q : VK) : AV → Store → Wd → Hp → Prop := fun a _ W H => ∀ v, AVR W v a → Q v H
abbrev QB (Q : Bool → Hp → Prop) : Bool → Store → Wd → Hp → Prop := fun b _ _ H => Q b H
abbrev QA (Q : List V → Hp → Prop) : List AV → Store → Wd → Hp → Prop := fun as _ W H => ∀ vs, AVs W vs as → Q vs H

def TV (Wx : WX) (f : Den AV) : TE := fun σ H Q => ∃ W ρ S, Rel W S H ∧ EnvR W ρ σ ∧ GoP Wx W σ H (f ρ S) (QV Q)
def TVT (Wx : WX) (f : Den Bool) : TT := fun σ H Q => ∃ W ρ S, Rel W S H ∧ EnvR W ρ σ ∧ GoP Wx W σ H (f ρ S) (QB Q)
def TVA (Wx : WX) (f : Den (List AV)) : TA := fun σ H Q => ∃ W ρ S, Rel W S H ∧ EnvR W ρ σ ∧ GoP Wx W σ H (f ρ S) (QA Q)

theorem pe_imp {X : Cx} {e : Expr} {t t' : TE} (h : PE X e t) (i : ∀ σ H Q, t' σ H Q → t σ H Q) : PE X e t' := ⟨fun pins s σ H Q I q => h.run pins s σ H Q I (i σ H Q q)⟩
theorem pt_imp {X : Cx} {e : Expr} {t t' : TT} (h : PT X e t) (i : ∀ σ H Q, t' σ H Q → t σ H Q) : PT X e t' := ⟨fun pins s σ H Q I q => h.run pins s σ H Q I (i σ H Q q)⟩
theorem pw_imp {X : Cx} {e : Expr} {t t' : TT} (h : PW X e t) (i : ∀ σ H Q, t' σ H Q → t σ H Q) : PW X e t' := ⟨fun wh pins s σ H Q I q => h.run wh pins s σ H Q I (i σ H Q q)⟩
theorem pa_imp {X : Cx} {e : List Expr} {t t' : TA} (h : PA X e t) (i : ∀ σ H Q, t' σ H Q → t σ H Q) : PA X e t' := ⟨fun pos pins s σ H Q I q => h.run pos pins s σ H Q I (i σ H Q q)⟩
theorem ps_imp {X : Cx} {e : Stmt} {t t' : TS} (h : PS X e t) (i : ∀ D σ H, t' D σ H → t D σ H) : PS X e t' := ⟨fun pins s σ H D I q => h.run pins s σ H D I (i D σ H q)⟩
theorem pss_imp {X : Cx} {e : List Stmt} {t t' : TS} (h : PSs X e t) (i : ∀ D σ H, t' D σ H → t D σ H) : PSs X e t' := ⟨fun pins s σ H D I q => h.run pins s σ H D I (i D σ H q)⟩

structure VE (X : Cx) (Wx : WX) (e : Expr) (f : Den AV) : Prop where pe : PE X e (TV Wx f)
structure VT (X : Cx) (Wx : WX) (e : Expr) (f : Den Bool) : Prop where pt : PT X e (TVT Wx f)
structure VW (X : Cx) (Wx : WX) (e : Expr) (f : Den Bool) : Prop where pw : PW X e (TVT Wx f)
structure VA (X : Cx) (Wx : WX) (es : List Expr) (f : Den (List AV)) : Prop where pa : PA X es (TVA Wx f)
section
variable {X : Cx} {Wx : WX} {e : Expr}
theorem VE.of {t : TE} {f : Den AV} (h : PE X e t) (i : ∀ σ H Q W ρ S, Rel W S H → EnvR W ρ σ → GoP Wx W σ H (f ρ S) (QV Q) → t σ H Q) : VE X Wx e f :=
  ⟨pe_imp h fun σ H Q ⟨W, ρ, S, r, en, g⟩ => i σ H Q W ρ S r en g⟩
theorem VT.of {t : TT} {f : Den Bool} (h : PT X e t) (i : ∀ σ H Q W ρ S, Rel W S H → EnvR W ρ σ → GoP Wx W σ H (f ρ S) (QB Q) → t σ H Q) : VT X Wx e f :=
  ⟨pt_imp h fun σ H Q ⟨W, ρ, S, r, en, g⟩ => i σ H Q W ρ S r en g⟩
theorem VW.of {t : TT} {f : Den Bool} (h : PW X e t) (i : ∀ σ H Q W ρ S, Rel W S H → EnvR W ρ σ → GoP Wx W σ H (f ρ S) (QB Q) → t σ H Q) : VW X Wx e f :=
  ⟨pw_imp h fun σ H Q ⟨W, ρ, S, r, en, g⟩ => i σ H Q W ρ S r en g⟩
theorem VA.of {es : List Expr} {t : TA} {f : Den (List AV)} (h : PA X es t) (i : ∀ σ H Q W ρ S, Rel W S H → EnvR W ρ σ → GoP Wx W σ H (f ρ S) (QA Q) → t σ H Q) : VA X Wx es f :=
  ⟨pa_imp h fun σ H Q ⟨W, ρ, S, r, en, g⟩ => i σ H Q W ρ S r en g⟩
end
/-- an expression first, then the rest -/
theorem tv_seq {β : Type} {Wx : WX} {W : Wd} {ρ : Rho} {S : Store} {σ : L2.St} {H : Hp} {f : Den AV} {g : AV → Store → Out β} {R : β → Store → Wd → Hp → Prop} {Q : VK} (r : Rel W S H) (en : EnvR W ρ σ)
    (h : GoP Wx W σ H ((f ρ S).bind g) R) (k : ∀ a S1 W1 H1 v, Step W H W1 H1 → Rel W1 S1 H1 → EnvR W1 ρ σ → AVR W1 v a → GoP Wx W1 σ H1 (g a S1) R → Q v H1) : TV Wx f σ H Q :=
  ⟨W, ρ, S, r, en, h.split.imp fun a S1 W1 H1 s r1 q v rv => k a S1 W1 H1 v s r1 (en.step s) rv q⟩
theorem tvt_seq {β : Type} {Wx : WX} {W : Wd} {ρ : Rho} {S : Store} {σ : L2.St} {H : Hp} {f : Den Bool} {g : Bool → Store → Out β} {R : β → Store → Wd → Hp → Prop} {Q : Bool → Hp → Prop} (r : Rel W S H) (en : EnvR W ρ σ)
    (h : GoP Wx W σ H ((f ρ S).bind g) R) (k : ∀ a S1 W1 H1, Step W H W1 H1 → Rel W1 S1 H1 → EnvR W1 ρ σ → GoP Wx W1 σ H1 (g a S1) R → Q a H1) : TVT Wx f σ H Q :=
  ⟨W, ρ, S, r, en, h.split.imp fun a S1 W1 H1 s r1 q => k a S1 W1 H1 s r1 (en.step s) q⟩
theorem tva_seq {β : Type} {Wx : WX} {W : Wd} {ρ : Rho} {S : Store} {σ : L2.St} {H : Hp} {f : Den (List AV)} {g : List AV → Store → Out β} {R : β → Store → Wd → Hp → Prop} {Q : List V → Hp → Prop} (r : Rel W S H) (en : EnvR W ρ σ)
    (h : GoP Wx W σ H ((f ρ S).bind g) R) (k : ∀ a S1 W1 H1 vs, Step W H W1 H1 → Rel W1 S1 H1 → EnvR W1 ρ σ → AVs W1 vs a → GoP Wx W1 σ H1 (g a S1) R → Q vs H1) : TVA Wx f σ H Q :=
  ⟨W, ρ, S, r, en, h.split.imp fun a S1 W1 H1 s r1 q v rv => k a S1 W1 H1 v s r1 (en.step s) rv q⟩

def dVar (i : Nat) : Den AV := fun ρ S => match ρ[i]? with
  | some (some a) => .ok a S
  | _ => .stuck
def dC (d : D) : Den AV := fun _ S => .ok (.val d) S
section
variable {X : Cx} {Wx : WX}
theorem ve_var (i : Nat) {x : Str} {pos : Pos} (hN : X.N[i]? = some x := by rfl) (hv : Vis X.env.scope x := by first | exact Or.inl rfl | exact Or.inr (Or.inl rfl) | exact Or.inr (Or.inr rfl)) (hd : (x == ("__debug__" : Str)) = false := by decide)
    (hcd : (x == ("__classdict__" : Str)) = false := by decide) : VE X Wx (.Name x pos) (dVar i) :=
  .of (pe_var hN hv hd hcd) fun σ H Q W ρ S r en g => by
    unfold dVar at g
    cases e : ρ[i]? with
    | none => rw [e] at g; exact g.elim
    | some o =>
      cases o with
      | none => rw [e] at g; exact g.elim
      | some a =>
        rw [e] at g
        obtain ⟨v, h1, h2⟩ := en.2 i a e
        exact ⟨v, h1, g.here r v h2⟩
theorem ve_int {i : Int} {j : Tok} {pos : Pos} : VE X Wx (.Constant (.int i) j pos) (dC (.int i)) := .of pe_int fun σ H Q W ρ S r en g => g.here r _ .int
theorem ve_bl {b : Bool} {j : Tok} {pos : Pos} : VE X Wx (.Constant (.bool b) j pos) (dC (.bl b)) := .of pe_bl fun σ H Q W ρ S r en g => g.here r _ .bl
theorem ve_non {j : Tok} {pos : Pos} : VE X Wx (.Constant .none j pos) (dC .non) := .of pe_non fun σ H Q W ρ S r en g => g.here r _ .non
theorem ve_str {x : Str} {j : Tok} {pos : Pos} : VE X Wx (.Constant (.str x) j pos) (dC (.str x)) := .of pe_str fun σ H Q W ρ S r en g => g.here r _ .str
/-- a module's constant, a function, a class -/
theorem ve_glob {x : Str} {d : D} {v : V} {u : Value} {pos : Pos} (hm : X.mg x = some u) (r : RelV v u) (rd : ∀ F, Rep F v d) (hg : Gl X x := by rfl) (hd : (x == ("__debug__" : Str)) = false := by decide) : VE X Wx (.Name x pos) (dC d) :=
  .of (pe_glob hg hm r hd) fun σ H Q W ρ S r en g => g.here r _ (rd _)
end

/-- the operation o on values does what the rule r asks -/
def OpS (r : R2) (o : AV → AV → Store → Out AV) : Prop := ∀ (Wx : WX) (W : Wd) (S : Store) (H : Hp) (σ : L2.St) (x y : V) (a b : AV) (Q : VK), Rel W S H → AVR W x a → AVR W y b → GoP Wx W σ H (o a b S) (QV Q) → r x y H Q
def dOp (o : AV → AV → Store → Out AV) (f g : Den AV) : Den AV := fun ρ S => (f ρ S).bind fun x S1 => (g ρ S1).bind fun y S2 => o x y S2
def dUn (o : AV → Store → Out AV) (f : Den AV) : Den AV := fun ρ S => (f ρ S).bind fun x S1 => o x S1
def UnS (r : V → Hp → VK → Prop) (o : AV → Store → Out AV) : Prop := ∀ (Wx : WX) (W : Wd) (S : Store) (H : Hp) (σ : L2.St) (x : V) (a : AV) (Q : VK), Rel W S H → AVR W x a → GoP Wx W σ H (o a S) (QV Q) → r x H Q
theorem OpS.or {r r' : R2} {o : AV → AV → Store → Out AV} (h : ∀ (Wx : WX) (W : Wd) (S : Store) (H : Hp) (σ : L2.St) (x y : V) (a b : AV) (Q : VK), Rel W S H → AVR W x a → AVR W y b → GoP Wx W σ H (o a b S) (QV Q) → r x y H Q ∨ r' x y H Q) :
    OpS (fun x y H Q => r x y H Q ∨ r' x y H Q) o := h
theorem top_of {Wx : WX} {r : R2} {o : AV → AV → Store → Out AV} {f g : Den AV} (hs : OpS r o) {σ : L2.St} {H : Hp} {Q : VK} {W : Wd} {ρ : Rho} {S : Store} (rl : Rel W S H) (en : EnvR W ρ σ) (h : GoP Wx W σ H (dOp o f g ρ S) (QV Q)) :
    tOp r (TV Wx f) (TV Wx g) σ H Q :=
  tv_seq rl en h fun a S1 W1 H1 v s1 r1 e1 ra h1 => tv_seq r1 e1 h1 fun b S2 W2 H2 u s2 r2 e2 rb h2 => hs Wx W2 S2 H2 σ v u a b Q r2 (ra.step s2) rb h2
section
variable {X : Cx} {Wx : WX} {a b c : Expr} {f g k : Den AV} {pos : Pos}
theorem ve_op {op : Operator} {r : R2} {o : AV → AV → Store → Out AV} (ho : OpR X (binaryOp op) r) (hs : OpS r o) (ha : VE X Wx a f) (hb : VE X Wx b g) : VE X Wx (.BinOp a op b pos) (dOp o f g) :=
  .of (pe_op ho ha.pe hb.pe) fun σ H Q W ρ S rl en h => top_of hs rl en h
theorem ve_un {op : UnaryOp} {r : V → Hp → VK → Prop} {o : AV → Store → Out AV} (ho : UnR X (unaryOp op) r) (hs : UnS r o) (ha : VE X Wx a f) : VE X Wx (.UnaryOp op a pos) (dUn o f) :=
  .of (pe_un ho ha.pe) fun σ H Q W ρ S rl en h => tv_seq rl en h fun x S1 W1 H1 v s1 r1 e1 ra h1 => hs Wx W1 S1 H1 σ v x Q r1 ra h1
theorem ve_ix {r : R2} {o : AV → AV → Store → Out AV} (ho : IxR X r) (hs : OpS r o) (ha : VE X Wx a f) (hb : VE X Wx b g) (hp : PlainIx b := by exact fun _ _ => rfl) : VE X Wx (.Subscript a b pos) (dOp o f g) :=
  .of (pe_ix ho ha.pe hb.pe hp) fun σ H Q W ρ S rl en h => top_of hs rl en h
theorem ve_cmp {op : CmpOp} {r : R2} {o : AV → AV → Store → Out AV} (ho : OpR X (compareOp op) r) (hs : OpS r o) (ha : VE X Wx a f) (hb : VE X Wx b g) (hm : behindInMarks op b = false) : VE X Wx (.Compare a [op] [b] pos) (dOp o f g) :=
  .of (pe_cmpR ho ha.pe hb.pe hm) fun σ H Q W ρ S rl en h => top_of hs rl en h
/-- a value as a test: it is a bool -/
def toB : AV → Store → Out Bool
  | .val (.bl b), S => .ok b S
  | _, _ => .stuck
def dB (f : Den AV) : Den Bool := fun ρ S => (f ρ S).bind toB
theorem avr_bl {W : Wd} {v : V} {b : Bool} (h : AVR W v (.val (.bl b))) : v = .bl b := by cases h; rfl
theorem toB_of {Wx : WX} {W : Wd} {S : Store} {H : Hp} {σ : L2.St} {v : V} {a : AV} {Q : Bool → Hp → Prop} (r : Rel W S H) (ra : AVR W v a) (h : GoP Wx W σ H (toB a S) (QB Q)) : ∃ k, v = .bl k ∧ Q k H := by
  unfold toB at h
  split at h
  · exact ⟨_, avr_bl ra, h.here r⟩
  · exact h.elim
theorem vt_cmp {op : CmpOp} {r : R2} {o : AV → AV → Store → Out AV} (ho : OpR X (compareOp op) r) (hs : OpS r o) (ha : VE X Wx a f) (hb : VE X Wx b g) (hm : behindInMarks op b = false) : VT X Wx (.Compare a [op] [b] pos) (dB (dOp o f g)) :=
  .of (pt_cmpR ho ha.pe hb.pe hm) fun σ H Q W ρ S rl en h => by
    have h' : GoP Wx W σ H ((dOp o f g ρ S).bind toB) (QB Q) := h
    refine top_of (Wx := Wx) hs rl en (Q := fun x H' => ∃ k, x = .bl k ∧ Q k H') (h'.split.imp fun c S' W' H' s r' q v rv => ?_)
    exact toB_of r' rv q
theorem vt_val {e : Expr} (h : VE X Wx e f) (he : ∀ whole, isTrue e X.env whole = (do let v ← whole; standAt e.pos; holding [v] (truthy v)) := by intro _; rfl) : VT X Wx e (dB f) :=
  .of (pt_val h.pe he) fun σ H Q W ρ S rl en h => tv_seq rl en h fun a S1 W1 H1 v s1 r1 e1 ra h1 => toB_of r1 ra h1
variable {p q : Den Bool} {rest : List Expr}
def dAnd (p q : Den Bool) : Den Bool := fun ρ S => (p ρ S).bind fun b S1 => if b then q ρ S1 else .ok false S1
def dOr (p q : Den Bool) : Den Bool := fun ρ S => (p ρ S).bind fun b S1 => if b then .ok true S1 else q ρ S1
def dNot (p : Den Bool) : Den Bool := fun ρ S => (p ρ S).bind fun b S1 => .ok (!b) S1
theorem vw_and1 (ha : VT X Wx a p) : VW X Wx (.BoolOp .And [a] pos) p := ⟨pw_and1 ha.pt⟩
theorem vw_or1 (ha : VT X Wx a p) : VW X Wx (.BoolOp .Or [a] pos) p := ⟨pw_or1 ha.pt⟩
theorem vw_and (ha : VT X Wx a p) (hb : VW X Wx (.BoolOp .And (b :: rest) pos) q) : VW X Wx (.BoolOp .And (a :: b :: rest) pos) (dAnd p q) :=
  .of (pw_and ha.pt hb.pw) fun σ H Q W ρ S rl en h => tvt_seq rl en h fun k S1 W1 H1 s1 r1 e1 h1 => by
    cases k with
    | true => rw [if_pos rfl] at h1 ⊢; exact ⟨W1, ρ, S1, r1, e1, h1⟩
    | false => rw [if_neg Bool.false_ne_true] at h1 ⊢; exact h1.here r1
theorem vw_or (ha : VT X Wx a p) (hb : VW X Wx (.BoolOp .Or (b :: rest) pos) q) : VW X Wx (.BoolOp .Or (a :: b :: rest) pos) (dOr p q) :=
  .of (pw_or ha.pt hb.pw) fun σ H Q W ρ S rl en h => tvt_seq rl en h fun k S1 W1 H1 s1 r1 e1 h1 => by
    cases k with
    | true => rw [if_pos rfl] at h1 ⊢; exact h1.here r1
    | false => rw [if_neg Bool.false_ne_true] at h1 ⊢; exact ⟨W1, ρ, S1, r1, e1, h1⟩
theorem VW.vt (h : VW X Wx a p) : VT X Wx a p := ⟨h.pw.pt⟩
theorem vt_not (ha : VT X Wx a p) : VT X Wx (.UnaryOp .Not a pos) (dNot p) :=
  .of (pt_not ha.pt) fun σ H Q W ρ S rl en h => tvt_seq rl en h fun k S1 W1 H1 s1 r1 e1 h1 => h1.here r1
/-- as values -/
def dAndV (f g : Den AV) : Den AV := fun ρ S => (f ρ S).bind fun x S1 => (toB x S1).bind fun b S1 => if b then g ρ S1 else .ok (.val (.bl false)) S1
def dOrV (f g : Den AV) : Den AV := fun ρ S => (f ρ S).bind fun x S1 => (toB x S1).bind fun b S1 => if b then .ok (.val (.bl true)) S1 else g ρ S1
def dNotV (f : Den AV) : Den AV := fun ρ S => (f ρ S).bind fun x S1 => (toB x S1).bind fun b S1 => .ok (.val (.bl (!b))) S1
theorem toB_seq {β : Type} {Wx : WX} {W : Wd} {S : Store} {H : Hp} {σ : L2.St} {v : V} {a : AV} {g : Bool → Store → Out β} {R : β → Store → Wd → Hp → Prop} (r : Rel W S H) (ra : AVR W v a) (h : GoP Wx W σ H ((toB a S).bind g) R) : ∃ k, v = .bl k ∧ GoP Wx W σ H (g k S) R := by
  unfold toB at h
  split at h
  · exact ⟨_, avr_bl ra, h⟩
  · exact h.elim
theorem ve_one {op : BoolOp} (h : VE X Wx a f) : VE X Wx (.BoolOp op [a] pos) f := ⟨pe_one h.pe⟩
theorem ve_and (ha : VE X Wx a f) (hb : VE X Wx (.BoolOp .And (b :: rest) pos) g) : VE X Wx (.BoolOp .And (a :: b :: rest) pos) (dAndV f g) :=
  .of (pe_and ha.pe hb.pe) fun σ H Q W ρ S rl en h => tv_seq rl en h fun x S1 W1 H1 v s1 r1 e1 ra h1 => by
    obtain ⟨k, ek, h2⟩ := toB_seq r1 ra h1
    refine ⟨k, ek, ?_⟩
    cases k with
    | true => rw [if_pos rfl] at h2 ⊢; exact ⟨W1, ρ, S1, r1, e1, h2⟩
    | false => rw [if_neg Bool.false_ne_true] at h2 ⊢; exact h2.here r1 _ .bl
theorem ve_or (ha : VE X Wx a f) (hb : VE X Wx (.BoolOp .Or (b :: rest) pos) g) : VE X Wx (.BoolOp .Or (a :: b :: rest) pos) (dOrV f g) :=
  .of (pe_or ha.pe hb.pe) fun σ H Q W ρ S rl en h => tv_seq rl en h fun x S1 W1 H1 v s1 r1 e1 ra h1 => by
    obtain ⟨k, ek, h2⟩ := toB_seq r1 ra h1
    refine ⟨k, ek, ?_⟩
    cases k with
    | true => rw [if_pos rfl] at h2 ⊢; exact h2.here r1 _ .bl
    | false => rw [if_neg Bool.false_ne_true] at h2 ⊢; exact ⟨W1, ρ, S1, r1, e1, h2⟩
theorem ve_not (ha : VE X Wx a f) : VE X Wx (.UnaryOp .Not a pos) (dNotV f) :=
  .of (pe_not ha.pe) fun σ H Q W ρ S rl en h => tv_seq rl en h fun x S1 W1 H1 v s1 r1 e1 ra h1 => by
    obtain ⟨k, ek, h2⟩ := toB_seq r1 ra h1
    exact ⟨k, ek, h2.here r1 _ .bl⟩
def dIf (p : Den Bool) (f g : Den AV) : Den AV := fun ρ S => (p ρ S).bind fun b S1 => if b then f ρ S1 else g ρ S1
theorem ve_if (hc : VT X Wx c p) (ha : VE X Wx a f) (hb : VE X Wx b g) : VE X Wx (.IfExp c a b pos) (dIf p f g) :=
  .of (pe_ifExp hc.pt ha.pe hb.pe) fun σ H Q W ρ S rl en h => tvt_seq rl en h fun k S1 W1 H1 s1 r1 e1 h1 => by
    cases k with
    | true => rw [if_pos rfl] at h1 ⊢; exact ⟨W1, ρ, S1, r1, e1, h1⟩
    | false => rw [if_neg Bool.false_ne_true] at h1 ⊢; exact ⟨W1, ρ, S1, r1, e1, h1⟩
def dNil : Den (List AV) := fun _ S => .ok [] S
def dCons (f : Den AV) (g : Den (List AV)) : Den (List AV) := fun ρ S => (f ρ S).bind fun x S1 => (g ρ S1).bind fun xs S2 => .ok (x :: xs) S2
theorem va_nil : VA X Wx [] dNil := .of pa_nil fun σ H Q W ρ S rl en h => h.here rl _ .nil
theorem va_cons {es : List Expr} {u : Den (List AV)} (ha : VE X Wx a f) (hr : VA X Wx es u) (hs : starEach (a :: es) X.env = (false, eval a X.env) :: starEach es X.env := by rfl) : VA X Wx (a :: es) (dCons f u) :=
  .of (pa_cons ha.pe hr.pa hs) fun σ H Q W ρ S rl en h => tv_seq rl en h fun x S1 W1 H1 v s1 r1 e1 ra h1 => tva_seq r1 e1 h1 fun xs S2 W2 H2 vs s2 r2 e2 rs h2 => h2.here r2 _ (.cons (ra.step s2) rs)
end

inductive Flw where
  | nx | rt (a : AV) | bk | ct
inductive SOut where
  | go (fl : Flw) (ρ : Rho) (S : Store)
  | exc (C : Addr) (fs : List (Str × AV)) (ρ : Rho) (S : Store)
  | stuck
abbrev SDen := Rho → Store → SOut
/-- an expression's outcome, within a statement at ρ -/
def Out.st {α : Type} (o : Out α) (ρ : Rho) (g : α → Store → SOut) : SOut := match o with
  | .ok a S => g a S
  | .exc C fs S => .exc C fs ρ S
  | .stuck => .stuck
@[simp] theorem Out.st_ok {α : Type} (a : α) (S : Store) (ρ : Rho) (g : α → Store → SOut) : (Out.ok a S).st ρ g = g a S := rfl
@[simp] theorem Out.st_exc {α : Type} (C : Addr) (fs : List (Str × AV)) (S : Store) (ρ : Rho) (g : α → Store → SOut) : (Out.exc C fs S : Out α).st ρ g = .exc C fs ρ S := rfl
@[simp] theorem Out.st_stuck {α : Type} (ρ : Rho) (g : α → Store → SOut) : (Out.stuck : Out α).st ρ g = .stuck := rfl
def GoS (Wx : WX) (W : Wd) (H : Hp) (D : Ends) : SOut → Prop
  | .go .nx ρ S => ∀ W' H' σ, Step W H W' H' → Rel W' S H' → EnvR W' ρ σ → D.nx σ H'
  | .go (.rt a) _ S => ∀ W' H' v, Step W H W' H' → Rel W' S H' → AVR W' v a → D.rt v H'
  | .go .bk ρ S => ∀ W' H' σ, Step W H W' H' → Rel W' S H' → EnvR W' ρ σ → D.bk σ H'
  | .go .ct ρ S => ∀ W' H' σ, Step W H W' H' → Rel W' S H' → EnvR W' ρ σ → D.ct σ H'
  | .exc C fs ρ S => ∀ W' H' σ cls d, Step W H W' H' → Rel W' S H' → EnvR W' ρ σ → ExcR W' cls d C fs → Wx cls d σ H'
  | .stuck => False
def TVS (Wx : WX) (f : SDen) : TS := fun D σ H => ∃ W ρ S, Rel W S H ∧ EnvR W ρ σ ∧ GoS Wx W H D (f ρ S)
structure VS (X : Cx) (Wx : WX) (st : Stmt) (f : SDen) : Prop where ps : PS X st (TVS Wx f)
structure VSs (X : Cx) (Wx : WX) (st : List Stmt) (f : SDen) : Prop where pss : PSs X st (TVS Wx f)
section
variable {Wx : WX} {W W1 : Wd} {H H1 : Hp} {D D' : Ends} {o : SOut}
theorem GoS.step (s : Step W H W1 H1) (h : GoS Wx W H D o) : GoS Wx W1 H1 D o := by
  cases o with
  | go fl ρ S =>
    cases fl with
    | nx => exact fun W' H' σ t r e => h W' H' σ (s.trans t) r e
    | rt a => exact fun W' H' σ t r e => h W' H' σ (s.trans t) r e
    | bk => exact fun W' H' σ t r e => h W' H' σ (s.trans t) r e
    | ct => exact fun W' H' σ t r e => h W' H' σ (s.trans t) r e
  | exc C fs ρ S => exact fun W' H' σ c d t r e x => h W' H' σ c d (s.trans t) r e x
  | stuck => exact h
theorem GoS.here {ρ : Rho} {S : Store} {σ : L2.St} (h : GoS Wx W H D (.go .nx ρ S)) (r : Rel W S H) (e : EnvR W ρ σ) : D.nx σ H := h W H σ (Step.refl W H) r e
/-- an expression, then a statement's rest -/
theorem go_st {α : Type} {o : Out α} {ρ : Rho} {g : α → Store → SOut} {σ : L2.St} (en : EnvR W ρ σ) (h : GoS Wx W H D (o.st ρ g)) : GoP Wx W σ H o (fun a S W' H' => GoS Wx W' H' D (g a S)) := by
  cases o with
  | ok a S => exact fun W' H' t r => GoS.step t h
  | exc C fs S => exact fun W' H' c d t r x => h W' H' σ c d t r (en.step t) x
  | stuck => exact h
end
theorem tv_st {Wx : WX} {W : Wd} {ρ : Rho} {S : Store} {σ : L2.St} {H : Hp} {D : Ends} {f : Den AV} {g : AV → Store → SOut} {Q : VK} (r : Rel W S H) (en : EnvR W ρ σ) (h : GoS Wx W H D ((f ρ S).st ρ g))
    (k : ∀ a S1 W1 H1 v, Step W H W1 H1 → Rel W1 S1 H1 → EnvR W1 ρ σ → AVR W1 v a → GoS Wx W1 H1 D (g a S1) → Q v H1) : TV Wx f σ H Q :=
  ⟨W, ρ, S, r, en, (go_st en h).imp fun a S1 W1 H1 s r1 q v rv => k a S1 W1 H1 v s r1 (en.step s) rv q⟩
theorem tvt_st {Wx : WX} {W : Wd} {ρ : Rho} {S : Store} {σ : L2.St} {H : Hp} {D : Ends} {f : Den Bool} {g : Bool → Store → SOut} {Q : Bool → Hp → Prop} (r : Rel W S H) (en : EnvR W ρ σ) (h : GoS Wx W H D ((f ρ S).st ρ g))
    (k : ∀ a S1 W1 H1, Step W H W1 H1 → Rel W1 S1 H1 → EnvR W1 ρ σ → GoS Wx W1 H1 D (g a S1) → Q a H1) : TVT Wx f σ H Q :=
  ⟨W, ρ, S, r, en, (go_st en h).imp fun a S1 W1 H1 s r1 q => k a S1 W1 H1 s r1 (en.step s) q⟩
section
variable {X : Cx} {Wx : WX} {st : Stmt} {rest : List Stmt} {e : Expr} {pos : Pos} {f : Den AV} {k g : SDen}
theorem VS.of {t : TS} {f : SDen} (h : PS X st t) (i : ∀ D σ H W ρ S, Rel W S H → EnvR W ρ σ → GoS Wx W H D (f ρ S) → t D σ H) : VS X Wx st f :=
  ⟨ps_imp h fun D σ H ⟨W, ρ, S, r, en, g⟩ => i D σ H W ρ S r en g⟩
theorem VSs.of {st : List Stmt} {t : TS} {f : SDen} (h : PSs X st t) (i : ∀ D σ H W ρ S, Rel W S H → EnvR W ρ σ → GoS Wx W H D (f ρ S) → t D σ H) : VSs X Wx st f :=
  ⟨pss_imp h fun D σ H ⟨W, ρ, S, r, en, g⟩ => i D σ H W ρ S r en g⟩
def dNext : SDen := fun ρ S => .go .nx ρ S
def dSeq (k g : SDen) : SDen := fun ρ S => match k ρ S with
  | .go .nx ρ1 S1 => g ρ1 S1
  | o => o
theorem vss_nil : VSs X Wx [] dNext := .of pss_nil fun D σ H W ρ S r en h => h.here r en
theorem go_seq {W : Wd} {H : Hp} {D : Ends} {o : SOut} {g : SDen} (h : GoS Wx W H D (match o with
  | .go .nx ρ1 S1 => g ρ1 S1
  | o => o)) : GoS Wx W H { D with nx := TVS Wx g D } o := by
  cases o with
  | go fl ρ S =>
    cases fl with
    | nx => exact fun W' H' σ t r e => ⟨W', ρ, S, r, e, GoS.step t h⟩
    | rt a => exact h
    | bk => exact h
    | ct => exact h
  | exc C fs ρ S => exact h
  | stuck => exact h
theorem vss_cons (h1 : VS X Wx st k) (h2 : VSs X Wx rest g) : VSs X Wx (st :: rest) (dSeq k g) :=
  .of (pss_cons h1.ps h2.pss) fun D σ H W ρ S r en h => ⟨W, ρ, S, r, en, go_seq h⟩
theorem vss_one (h1 : VS X Wx st k) : VSs X Wx [st] k := ⟨pss_one h1.ps⟩
theorem vs_pass : VS X Wx (.Pass pos) dNext := .of ps_pass fun D σ H W ρ S r en h => h.here r en
def dBreak : SDen := fun ρ S => .go .bk ρ S
def dCont : SDen := fun ρ S => .go .ct ρ S
theorem vs_break : VS X Wx (.Break pos) dBreak := .of ps_break fun D σ H W ρ S r en h => h W H σ (Step.refl W H) r en
theorem vs_cont : VS X Wx (.Continue pos) dCont := .of ps_continue fun D σ H W ρ S r en h => h W H σ (Step.refl W H) r en
def dDrop (f : Den AV) : SDen := fun ρ S => (f ρ S).st ρ fun _ S1 => .go .nx ρ S1
theorem vs_expr (he : VE X Wx e f) (hs : swapsWith e none pos.line X.env = pure false := by rfl) : VS X Wx (.Expr e pos) (dDrop f) :=
  .of (ps_expr he.pe hs) fun D σ H W ρ S r en h => tv_st r en h fun a S1 W1 H1 v s1 r1 e1 ra h1 => h1.here r1 e1
def dRet (f : Den AV) : SDen := fun ρ S => (f ρ S).st ρ fun a S1 => .go (.rt a) ρ S1
theorem vs_ret (he : VE X Wx e f) : VS X Wx (.Return (some e) pos) (dRet f) :=
  .of (ps_ret he.pe) fun D σ H W ρ S r en h => tv_st r en h fun a S1 W1 H1 v s1 r1 e1 ra h1 => h1 W1 H1 v (Step.refl _ _) r1 ra
def dRetN : SDen := fun ρ S => .go (.rt (.val .non)) ρ S
theorem vs_retN : VS X Wx (.Return none pos) dRetN := .of ps_retN fun D σ H W ρ S r en h => h W H _ (Step.refl _ _) r .non
def dIfS (p : Den Bool) (k g : SDen) : SDen := fun ρ S => (p ρ S).st ρ fun b S1 => if b then k ρ S1 else g ρ S1
theorem vs_if {c : Expr} {a b : List Stmt} {p : Den Bool} (hc : VT X Wx c p) (ha : VSs X Wx a k) (hb : VSs X Wx b g) : VS X Wx (.If c a b pos) (dIfS p k g) :=
  .of (ps_if hc.pt ha.pss hb.pss) fun D σ H W ρ S r en h => tvt_st r en h fun b S1 W1 H1 s1 r1 e1 h1 => by
    cases b with
    | true => rw [if_pos rfl] at h1 ⊢; exact ⟨W1, ρ, S1, r1, e1, h1⟩
    | false => rw [if_neg Bool.false_ne_true] at h1 ⊢; exact ⟨W1, ρ, S1, r1, e1, h1⟩
/-- never come to -/
def dNever : SDen := fun _ _ => .stuck
theorem vs_never : VS X Wx st dNever := .of ps_never fun D σ H W ρ S r en h => h
theorem vss_never {st : List Stmt} : VSs X Wx st dNever := .of pss_never fun D σ H W ρ S r en h => h

abbrev GDen := AV → Rho → Store → Out Rho
abbrev GsDen := List AV → Rho → Store → Out Rho
/-- a target's outcome; what is raised is not served -/
def GoG (W : Wd) (H : Hp) (Q : L2.St → Hp → Prop) : Out Rho → Prop
  | .ok ρ S => ∀ W' H' σ, Step W H W' H' → Rel W' S H' → EnvR W' ρ σ → Q σ H'
  | _ => False
/-- at most the slots sl are set -/
def TVG (sl : List Nat) (f : GDen) : TG := fun v σ H Q => ∃ W ρ S a, Rel W S H ∧ EnvR W ρ σ ∧ AVR W v a ∧ GoG W H (fun σ' H' => wipe σ' sl = wipe σ sl → Q σ' H') (f a ρ S)
def TVGs (sl : List Nat) (f : GsDen) : TGs := fun vs σ H Q => ∃ W ρ S as, Rel W S H ∧ EnvR W ρ σ ∧ AVs W vs as ∧ GoG W H (fun σ' H' => wipe σ' sl = wipe σ sl → Q σ' H') (f as ρ S)
structure VG (X : Cx) (sl : List Nat) (tg : Expr) (f : GDen) : Prop where pg : PG X tg (TVG sl f)
structure VGs (X : Cx) (sl : List Nat) (tg : List Expr) (f : GsDen) : Prop where pgs : PGs X tg (TVGs sl f)
theorem wipe_set {i : Nat} {o : Option V} : ∀ {sl : List Nat} (σ : L2.St), i ∈ sl → wipe (σ.set i o) sl = wipe σ sl
  | v :: vs, σ, h => by
    show (wipe (σ.set i o) vs).set v none = (wipe σ vs).set v none
    by_cases e : i = v
    · subst e
      have key : ∀ (l : List Nat) (σ : L2.St), (wipe (σ.set i o) l).set i none = (wipe σ l).set i none := by
        intro l
        induction l with
        | nil => intro σ; show (σ.set i o).set i none = σ.set i none; rw [List.set_set]
        | cons w ws ih =>
          intro σ
          show ((wipe (σ.set i o) ws).set w none).set i none = ((wipe σ ws).set w none).set i none
          by_cases e2 : w = i
          · subst e2; rw [List.set_set, List.set_set]; exact ih σ
          · rw [List.set_comm _ _ e2, List.set_comm _ _ e2, ih σ]
      exact key vs σ
    · have hm : i ∈ vs := by
        rcases List.mem_cons.mp h with q | q
        · exact absurd q e
        · exact q
      rw [wipe_set σ hm]
theorem pg_imp {X : Cx} {e : Expr} {t t' : TG} (h : PG X e t) (i : ∀ v σ H Q, t' v σ H Q → t v σ H Q) : PG X e t' := ⟨fun pins s σ H v u Q I r q => h.run pins s σ H v u Q I r (i v σ H Q q)⟩
theorem pgs_imp {X : Cx} {e : List Expr} {t t' : TGs} (h : PGs X e t) (i : ∀ v σ H Q, t' v σ H Q → t v σ H Q) : PGs X e t' := ⟨fun pins s σ H v u Q I r q => h.run pins s σ H v u Q I r (i v σ H Q q)⟩
theorem GoG.step {W W1 : Wd} {H H1 : Hp} {Q : L2.St → Hp → Prop} {o : Out Rho} (s : Step W H W1 H1) (h : GoG W H Q o) : GoG W1 H1 Q o := by
  cases o with
  | ok ρ S => exact fun W' H' σ t r e => h W' H' σ (s.trans t) r e
  | exc C fs S => exact h
  | stuck => exact h
theorem GoG.imp {W : Wd} {H : Hp} {Q Q' : L2.St → Hp → Prop} {o : Out Rho} (h : GoG W H Q o) (f : ∀ σ H, Q σ H → Q' σ H) : GoG W H Q' o := by
  cases o with
  | ok ρ S => exact fun W' H' σ t r e => f σ H' (h W' H' σ t r e)
  | exc C fs S => exact h
  | stuck => exact h
def gN (i : Nat) : GDen := fun a ρ S => .ok (ρ.set i (some a)) S
theorem vg_name (i : Nat) {sl : List Nat} {x : Str} (hN : X.N.Nodup) (hsl : i ∈ sl := by decide) (hi : X.N[i]? = some x := by rfl) (hx : Loc X.env.scope x := by first | exact Or.inl rfl | exact Or.inr rfl) (hf : X.fn x = true ∨ X.env.scope.names.lookup x = some .local := by first | exact .inl rfl | exact .inr rfl | assumption) : VG X sl (.Name x pos) (gN i) :=
  ⟨pg_imp (pg_name hN hi hx hf) fun v σ H Q ⟨W, ρ, S, a, r, en, ra, g⟩ => g W H _ (Step.refl _ _) r (en.set ra i) (wipe_set σ hsl)⟩
def gsNil : GsDen := fun as ρ S => match as with
  | [] => .ok ρ S
  | _ => .stuck
def gsCons (f : GDen) (g : GsDen) : GsDen := fun as ρ S => match as with
  | a :: r => (match f a ρ S with
    | .ok ρ1 S1 => g r ρ1 S1
    | _ => .stuck)
  | _ => .stuck
theorem vgs_nil {sl : List Nat} : VGs X sl [] gsNil := ⟨pgs_imp pgs_nil fun vs σ H Q ⟨W, ρ, S, as, r, en, ra, g⟩ => by
  cases as with
  | nil => cases ra; exact ⟨rfl, g W H σ (Step.refl _ _) r en rfl⟩
  | cons a as => exact g.elim⟩
theorem vgs_cons {sl : List Nat} {e : Expr} {es : List Expr} {f : GDen} {g : GsDen} (h1 : VG X sl e f) (h2 : VGs X sl es g) (hs : (assignEach (e :: es) X.env).map (·.2) = assign e X.env :: (assignEach es X.env).map (·.2) := by rfl) : VGs X sl (e :: es) (gsCons f g) :=
  ⟨pgs_imp (pgs_cons h1.pg h2.pgs hs) fun vs σ H Q ⟨W, ρ, S, as, r, en, ra, q⟩ => by
    cases ra with
    | nil => exact q.elim
    | @cons v a vs as rv rs =>
      refine ⟨v, vs, rfl, W, ρ, S, a, r, en, rv, ?_⟩
      have q : GoG W H (fun σ' H' => wipe σ' sl = wipe σ sl → Q σ' H') (match f a ρ S with
        | .ok ρ1 S1 => g as ρ1 S1
        | _ => .stuck) := q
      cases ef : f a ρ S with
      | ok ρ1 S1 => rw [ef] at q; exact fun W' H' σ' t r' e' w => ⟨W', ρ1, S1, as, r', e', rs.step t, (GoG.step t q).imp fun σ2 H2 k w2 => k (w2.trans w)⟩
      | exc C fs S1 => rw [ef] at q; exact q
      | stuck => rw [ef] at q; exact q⟩
/-- the items of a tuple that is data -/
def tupItems : AV → Option (List AV)
  | .val (.tup ds) => some (ds.map .val)
  | _ => none
theorem tup_at {W : Wd} {S : Store} {H : Hp} {v : V} {a : AV} {as : List AV} (K : PySem.W.Frag) (r : Rel W S H) (ra : AVR W v a) (h : tupItems a = some as) : ∃ p vs, v = .ref p ∧ SqT K H p vs ∧ AVs W vs as := by
  unfold tupItems at h
  split at h
  · cases h
    cases ra with
    | tup e rs => exact ⟨_, _, rfl, SqT.of (r.sub _ _ e), AVs.ofReps rs⟩
  · cases h
def gTupD (n : Nat) (g : GsDen) : GDen := fun a ρ S => match tupItems a with
  | some as => if as.length = n then g as ρ S else .stuck
  | none => .stuck
theorem vg_tup {sl : List Nat} {es : List Expr} {k : Nat} {g : GsDen} {n : Nat} (hc : X.calm = true) (h : VGs X sl es g) (hn : (assignEach es X.env).length = n := by rfl) (hst : (assignEach es X.env).findIdx? (·.1) = none := by rfl) : VG X sl (.Tuple es k pos) (gTupD n g) :=
  ⟨pg_imp (pg_tup hc h.pgs hn hst) fun v σ H Q ⟨W, ρ, S, a, r, en, ra, q⟩ => by
    unfold gTupD at q
    cases e : tupItems a with
    | none => rw [e] at q; exact q.elim
    | some as =>
      rw [e] at q
      obtain ⟨p, vs, ev, hq, rs⟩ := tup_at X.K r ra e
      by_cases hl : as.length = n
      · refine ⟨p, vs, ev, hq, rs.len.trans hl, W, ρ, S, as, r, en, rs, ?_⟩
        have q : GoG W H (fun σ' H' => wipe σ' sl = wipe σ sl → Q σ' H') (if as.length = n then g as ρ S else .stuck) := q
        rw [if_pos hl] at q; exact q
      · have q : GoG W H (fun σ' H' => wipe σ' sl = wipe σ sl → Q σ' H') (if as.length = n then g as ρ S else .stuck) := q
        rw [if_neg hl] at q; exact q.elim⟩
def dSet (i : Nat) (f : Den AV) : SDen := fun ρ S => (f ρ S).st ρ fun a S1 => .go .nx (ρ.set i (some a)) S1
theorem vs_set (i : Nat) {x : Str} {pos' : Pos} (hN : X.N.Nodup) (he : VE X Wx e f) (hi : X.N[i]? = some x := by rfl) (hx : Loc X.env.scope x := by first | exact Or.inl rfl | exact Or.inr rfl) (hs : swapsWith e (some (.Name x pos')) pos.line X.env = pure false := by rfl)
    (hf : X.fn x = true ∨ X.env.scope.names.lookup x = some .local := by first | exact .inl rfl | exact .inr rfl | assumption) : VS X Wx (.Assign [.Name x pos'] e pos) (dSet i f) :=
  .of (ps_set hN hi hx he.pe hs hf) fun D σ H W ρ S r en h => tv_st r en h fun a S1 W1 H1 v s1 r1 e1 ra h1 => h1.here r1 (e1.set ra i)
def dAsg (f : Den AV) (g : GDen) : SDen := fun ρ S => (f ρ S).st ρ fun a S1 => match g a ρ S1 with
  | .ok ρ2 S2 => .go .nx ρ2 S2
  | _ => .stuck
theorem vs_asg (sl : List Nat) {tg : Expr} {g : GDen} (he : VE X Wx e f) (hg : VG X sl tg g) (hs : swapsWithSole [tg] e pos.line X.env = pure false := by rfl) (hw : swappedStores [tg] e X.env = pure none := by rfl)
    (h1 : (assignEach [tg] X.env).map (·.2) = [assign tg X.env] := by rfl) : VS X Wx (.Assign [tg] e pos) (dAsg f g) :=
  .of (ps_asg he.pe hg.pg hs hw h1) fun D σ H W ρ S r en h => tv_st r en h fun a S1 W1 H1 v s1 r1 e1 ra h1 => ⟨W1, ρ, S1, a, r1, e1, ra, by
    cases eg : g a ρ S1 with
    | ok ρ2 S2 => rw [eg] at h1; exact fun W' H' σ' t r' e' _ => h1 W' H' σ' t r' e'
    | exc C fs S2 => rw [eg] at h1; exact h1.elim
    | stuck => rw [eg] at h1; exact h1.elim⟩
end
end VL

namespace VL
open PySem PySem.Spec PyProof.Rows L2

def valOf : AV → Option D
  | .val d => some d
  | _ => none
def valsOf : List AV → Option (List D)
  | [] => some []
  | .val d :: r => (match valsOf r with
    | some ds => some (d :: ds)
    | none => none)
  | _ :: _ => none
@[simp] theorem valsOf_map : ∀ ds : List D, valsOf (ds.map .val) = some ds
  | [] => rfl
  | d :: ds => by simp [valsOf, valsOf_map ds]
theorem valsOf_eq : ∀ {as : List AV} {ds : List D}, valsOf as = some ds → as = ds.map .val
  | [], ds, h => by cases h; rfl
  | .val d :: r, ds, h => by
    unfold valsOf at h
    cases e : valsOf r with
    | none => rw [e] at h; cases h
    | some es => rw [e] at h; cases h; rw [valsOf_eq e]; rfl
  | .cell _ :: r, ds, h => by cases h
  | .hot :: r, ds, h => by cases h
/-- the items of a list, of a tuple -/
def lstItems (S : Store) : AV → Option (List AV)
  | .val (.lst ds) => some (ds.map .val)
  | .cell i => (match S[i]? with
    | some (.lst xs) => some xs
    | some (.fz (.lst ds)) => some (ds.map .val)
    | _ => none)
  | _ => none
section
variable {W : Wd} {S : Store} {H : Hp} {v : V} {a : AV} {as : List AV}
theorem rep_lst {F : Hp} {v : V} {ds : List D} (h : Rep F v (.lst ds)) : ∃ p vs, v = .ref p ∧ F p = some (.lst vs) ∧ Reps F vs ds := by
  cases h with
  | lst e r => exact ⟨_, _, rfl, e, r⟩
theorem rep_tup {F : Hp} {v : V} {ds : List D} (h : Rep F v (.tup ds)) : ∃ p vs, v = .ref p ∧ F p = some (.tup vs) ∧ Reps F vs ds := by
  cases h with
  | tup e r => exact ⟨_, _, rfl, e, r⟩
theorem rep_dK {F : Hp} {v : V} {ds : List (Key × D)} (h : Rep F v (.dK ds)) : ∃ p o vs, v = .ref p ∧ F p = some (.frz o (.dK vs)) ∧ RepK F vs ds := by
  cases h with
  | dK e r => exact ⟨_, _, _, rfl, e, r⟩
theorem rep_dT {F : Hp} {v : V} {ds : List (List Key × D)} (h : Rep F v (.dT ds)) : ∃ p o vs, v = .ref p ∧ F p = some (.frz o (.dT vs)) ∧ RepT F vs ds := by
  cases h with
  | dT e r => exact ⟨_, _, _, rfl, e, r⟩
theorem rep_str {F : Hp} {v : V} {x : Str} (h : Rep F v (.str x)) : v = .str x := by cases h; rfl
theorem rep_int {F : Hp} {v : V} {x : Int} (h : Rep F v (.int x)) : v = .int x := by cases h; rfl
theorem rep_non {F : Hp} {v : V} (h : Rep F v .non) : v = .non := by cases h; rfl
theorem rep_scr {F : Hp} {v : V} {K : PySem.W.Frag} {ds : List D} (h : Rep F v (.scr K ds)) : ∃ p vs, v = .ref p ∧ ((∃ o, F p = some (.frz o (.lst vs))) ∨ ∀ H : Hp, SqL K H p vs) ∧ Reps F vs ds := by
  cases h with
  | scr e r => exact ⟨_, _, rfl, e, r⟩
theorem lst_at (r : Rel W S H) (ra : AVR W v a) (h : lstItems S a = some as) : ∃ p vs, v = .ref p ∧ Rd H p (.lst vs) ∧ H p = some (.lst vs) ∧ AVs W vs as := by
  cases a with
  | val d =>
    cases d with
    | lst ds =>
      cases h
      obtain ⟨p, vs, e, h1, h2⟩ := rep_lst ra
      exact ⟨p, vs, e, .inl (r.sub _ _ h1), r.sub _ _ h1, AVs.ofReps h2⟩
    | _ => cases h
  | cell i =>
    obtain ⟨p, hp, e⟩ := ra
    unfold lstItems at h
    cases hi : S[i]? with
    | none => simp only [hi] at h; cases h
    | some c =>
      have hc := r.ok i c p hi hp
      cases c with
      | lst xs =>
        simp only [hi] at h
        cases h
        obtain ⟨_, vs, h1, h2⟩ := hc
        exact ⟨p, vs, e, .inl h1, h1, h2⟩
      | fz d =>
        cases d with
        | lst ds =>
          simp only [hi] at h
          cases h
          obtain ⟨q, vs, e2, h1, h2⟩ := rep_lst hc.1
          cases e2
          exact ⟨p, vs, e, .inl (r.sub _ _ h1), r.sub _ _ h1, AVs.ofReps h2⟩
        | _ => simp only [hi] at h; cases h
      | _ => simp only [hi] at h; cases h
  | hot => cases h
/-- where a dict stands, with keys of two sorts -/
inductive DV where
  | k (kvs : List (Key × AV)) | t (kvs : List (List Key × AV))
def dicOf (S : Store) : AV → Option DV
  | .val (.dK ds) => some (.k (ds.map fun p => (p.1, .val p.2)))
  | .val (.dT ds) => some (.t (ds.map fun p => (p.1, .val p.2)))
  | .cell i => (match S[i]? with
    | some (.dK xs) => some (.k xs)
    | some (.dT xs) => some (.t xs)
    | some (.fz (.dK ds)) => some (.k (ds.map fun p => (p.1, .val p.2)))
    | some (.fz (.dT ds)) => some (.t (ds.map fun p => (p.1, .val p.2)))
    | _ => none)
  | _ => none
def DicAt (W : Wd) (H : Hp) (p : Addr) : DV → Prop
  | .k kvs => ∃ vs, Rd H p (.dK vs) ∧ AKs W vs kvs
  | .t kvs => ∃ vs, Rd H p (.dT vs) ∧ AKs W vs kvs
theorem dic_at {dv : DV} (r : Rel W S H) (ra : AVR W v a) (h : dicOf S a = some dv) : ∃ p, v = .ref p ∧ DicAt W H p dv := by
  cases a with
  | val d =>
    cases d with
    | dK ds =>
      cases h
      obtain ⟨p, o, vs, e, h1, h2⟩ := rep_dK ra
      exact ⟨p, e, vs, .inr ⟨o, r.sub _ _ h1⟩, AKs.ofRepK h2⟩
    | dT ds =>
      cases h
      obtain ⟨p, o, vs, e, h1, h2⟩ := rep_dT ra
      exact ⟨p, e, vs, .inr ⟨o, r.sub _ _ h1⟩, AKs.ofRepT h2⟩
    | _ => cases h
  | cell i =>
    obtain ⟨p, hp, e⟩ := ra
    unfold dicOf at h
    cases hi : S[i]? with
    | none => simp only [hi] at h; cases h
    | some c =>
      have hc := r.ok i c p hi hp
      cases c with
      | dK xs =>
        simp only [hi] at h
        cases h
        obtain ⟨_, vs, h1, h2⟩ := hc
        exact ⟨p, e, vs, .inl h1, h2⟩
      | dT xs =>
        simp only [hi] at h
        cases h
        obtain ⟨_, vs, h1, h2⟩ := hc
        exact ⟨p, e, vs, .inl h1, h2⟩
      | fz d =>
        cases d with
        | dK ds =>
          simp only [hi] at h
          cases h
          obtain ⟨q, o, vs, e2, h1, h2⟩ := rep_dK hc.1
          cases e2
          exact ⟨p, e, vs, .inr ⟨o, r.sub _ _ h1⟩, AKs.ofRepK h2⟩
        | dT ds =>
          simp only [hi] at h
          cases h
          obtain ⟨q, o, vs, e2, h1, h2⟩ := rep_dT hc.1
          cases e2
          exact ⟨p, e, vs, .inr ⟨o, r.sub _ _ h1⟩, AKs.ofRepT h2⟩
        | _ => simp only [hi] at h; cases h
      | _ => simp only [hi] at h; cases h
  | hot => cases h
def keyOf : D → Option Key
  | .int i => some (.inl i)
  | .str x => some (.inr x)
  | _ => none
def keysOf : List D → Option (List Key)
  | [] => some []
  | d :: r => (match keyOf d, keysOf r with
    | some k, some ks => some (k :: ks)
    | _, _ => none)
def kD : Key → D
  | .inl i => .int i
  | .inr x => .str x
@[simp] theorem keyOf_kD (k : Key) : keyOf (kD k) = some k := by cases k <;> rfl
theorem rep_key {F : Hp} {d : D} {k : Key} (r : Rep F v d) (h : keyOf d = some k) : v = kV k := by
  cases d with
  | int i => cases h; cases r; rfl
  | str x => cases h; cases r; rfl
  | _ => cases h
theorem reps_keys {F : Hp} : ∀ {vs : List V} {ds : List D} {ks : List Key}, Reps F vs ds → keysOf ds = some ks → vs = ks.map kV
  | _, _, ks, .nil, h => by cases h; rfl
  | _, d :: ds, ks, .cons r rs, h => by
    unfold keysOf at h
    cases e : keyOf d with
    | none => rw [e] at h; cases h
    | some k =>
      cases e2 : keysOf ds with
      | none => rw [e, e2] at h; cases h
      | some kr =>
        rw [e, e2] at h
        cases h
        rw [rep_key r e, reps_keys rs e2]
        rfl
/-- a look-up: the dict, the key -/
def find {κ : Type} [DecidableEq κ] (kvs : List (κ × AV)) (k : κ) : Option AV := (kvs.find? fun p => decide (p.1 = k)).map (·.2)
theorem AKs.find {κ : Type} [DecidableEq κ] (k : κ) : ∀ {vs : List (κ × V)} {as : List (κ × AV)}, AKs W vs as →
    (find as k = none ∧ valV vs k = none) ∨ ∃ a v, find as k = some a ∧ valV vs k = some v ∧ AVR W v a
  | _, _, .nil => .inl ⟨rfl, rfl⟩
  | _, _, .cons (k := j) (v := v) (a := a) h r => by
    by_cases e : j = k
    · refine .inr ⟨a, v, ?_, ?_, h⟩
      · simp [VL.find, e]
      · rw [valV_pos (p := (j, v)) e]
    · have e1 : ∀ l, VL.find ((j, a) :: l) k = VL.find l k := fun l => by simp only [VL.find, List.find?_cons, decide_eq_false e]
      rw [e1, valV_neg (p := (j, v)) e]
      exact AKs.find k r
def dfind (dv : DV) (a : AV) : Option (Option AV) := match dv, a with
  | .k kvs, .val d => (keyOf d).map fun k => find kvs k
  | .t kvs, .val (.tup ds) => (keysOf ds).map fun k => find kvs k
  | _, _ => none
theorem dget {dv : DV} {p : Addr} {y : V} {b : AV} {o : Option AV} (r : Rel W S H) (hd : DicAt W H p dv) (rb : AVR W y b) (h : dfind dv b = some o) :
    (o = none ∧ DGet H p y none) ∨ ∃ a v, o = some a ∧ DGet H p y (some v) ∧ AVR W v a := by
  cases dv with
  | k kvs =>
    obtain ⟨vs, h1, h2⟩ := hd
    cases b with
    | val d =>
      cases e : keyOf d with
      | none => simp [dfind, e] at h
      | some k =>
        simp [dfind, e] at h
        have ey := rep_key rb e
        rcases h2.find k with ⟨a1, a2⟩ | ⟨a, v, a1, a2, a3⟩
        · exact .inl ⟨by rw [← h, a1], .inl ⟨vs, k, h1, ey, a2.symm⟩⟩
        · exact .inr ⟨a, v, by rw [← h, a1], .inl ⟨vs, k, h1, ey, a2.symm⟩, a3⟩
    | _ => simp [dfind] at h
  | t kvs =>
    obtain ⟨vs, h1, h2⟩ := hd
    cases b with
    | val d =>
      cases d with
      | tup ds =>
        cases e : keysOf ds with
        | none => simp [dfind, e] at h
        | some k =>
          simp [dfind, e] at h
          obtain ⟨q, us, ey, hq, rs⟩ := rep_tup rb
          have eu := reps_keys rs e
          subst eu
          have hq' := r.sub _ _ hq
          rcases h2.find k with ⟨a1, a2⟩ | ⟨a, v, a1, a2, a3⟩
          · exact .inl ⟨by rw [← h, a1], .inr ⟨vs, k, q, h1, ey, hq', a2.symm⟩⟩
          · exact .inr ⟨a, v, by rw [← h, a1], .inr ⟨vs, k, q, h1, ey, hq', a2.symm⟩, a3⟩
      | _ => simp [dfind] at h
    | _ => simp [dfind] at h

mutual
def toP : D → PyData
  | .non => .none
  | .bl b => .bool b
  | .int i => .int i
  | .str x => .str x
  | .tup xs => .tuple (toPs xs)
  | .lst xs => .list (toPs xs)
  | .dK _ => .dict []
  | .dT _ => .dict []
  | .obj _ _ => .dict []
  | .scr _ _ => .dict []
  | .exc _ _ => .dict []
  | .raw _ => .dict []
def toPs : List D → List PyData
  | [] => []
  | x :: xs => toP x :: toPs xs
end
mutual
def eqOk : Nat → D → Bool
  | _, .non => true
  | _, .bl _ => true
  | _, .int _ => true
  | _, .str x => PyData.strOk x
  | n + 1, .tup xs => eqOks n xs
  | n + 1, .lst xs => eqOks n xs
  | _, _ => false
def eqOks : Nat → List D → Bool
  | _, [] => true
  | n, x :: xs => eqOk n x && eqOks n xs
end
theorem toPs_eq : ∀ xs : List D, toPs xs = xs.map toP
  | [] => rfl
  | x :: xs => by rw [toPs, toPs_eq xs]; rfl
@[simp] theorem eqOks_eq (n : Nat) : ∀ xs : List D, eqOks n xs = xs.all (eqOk n)
  | [] => by simp [eqOks]
  | x :: xs => by simp [eqOks, eqOks_eq n xs]
mutual
theorem lay_of : ∀ (n : Nat) (d : D), eqOk n d = true → (toP d).canLay0 = true ∧ (toP d).depth ≤ n
  | n, .non, _ => by simp [toP, PyData.canLay0, PyData.depth]
  | n, .bl _, _ => by simp [toP, PyData.canLay0, PyData.depth]
  | n, .int _, _ => by simp [toP, PyData.canLay0, PyData.depth]
  | n, .str x, h => by
    have h : PyData.strOk x = true := by cases n <;> exact h
    simp [toP, PyData.canLay0, PyData.depth, h]
  | n + 1, .tup xs, h => by
    have h : eqOks n xs = true := h
    obtain ⟨h1, h2⟩ := lay_ofs n xs h
    simp [toP, PyData.canLay0, PyData.depth, h1]; omega
  | n + 1, .lst xs, h => by
    have h : eqOks n xs = true := h
    obtain ⟨h1, h2⟩ := lay_ofs n xs h
    simp [toP, PyData.canLay0, PyData.depth, h1]; omega
  | 0, .tup _, h => by cases h
  | 0, .lst _, h => by cases h
  | n, .dK _, h => by cases n <;> cases h
  | n, .dT _, h => by cases n <;> cases h
  | n, .obj _ _, h => by cases n <;> cases h
  | n, .exc _ _, h => by cases n <;> cases h
  | n, .raw _, h => by cases n <;> cases h
  | n, .scr _ _, h => by cases n <;> cases h
theorem lay_ofs : ∀ (n : Nat) (d : List D), eqOks n d = true → PyData.canLayAll0 (toPs d) = true ∧ PyData.depthAll (toPs d) ≤ n
  | n, [], _ => by simp [toPs, PyData.canLayAll0, PyData.depthAll]
  | n, x :: xs, h => by
    have h : (eqOk n x && eqOks n xs) = true := h
    rw [Bool.and_eq_true] at h
    obtain ⟨h1, h2⟩ := lay_of n x h.1
    obtain ⟨h3, h4⟩ := lay_ofs n xs h.2
    simp [toPs, PyData.canLayAll0, PyData.depthAll, h1, h3]; omega
end
theorem shaped_of {n : Nat} {d : D} (h : eqOk n d = true) (hn : n ≤ 64) : SeqAt.shaped (toP d) = true := by
  obtain ⟨h1, h2⟩ := lay_of n d h
  show ((toP d).canLay0 && decide ((toP d).depth ≤ 64)) = true
  rw [h1, Bool.true_and]
  exact decide_eq_true (by omega)
mutual
theorem dp_of {K : PySem.W.Frag} {F : Hp} (e : Sub F H) : ∀ {v : V} {d : D} {n : Nat}, Rep F v d → eqOk n d = true → Dp K H v (toP d)
  | _, _, _, .non, _ => .non
  | _, _, _, .bl, _ => .bl _
  | _, _, _, .int, _ => .int _
  | _, _, _, .str, _ => .str _
  | _, _, n, .tup h r, q => by
    cases n with
    | zero => cases q
    | succ n => exact .tup (SqT.of (e _ _ h)) (dps_of e r (show eqOks n _ = true from q))
  | _, _, n, .lst h r, q => by
    cases n with
    | zero => cases q
    | succ n => exact .lst (SqL.of (e _ _ h)) (dps_of e r (show eqOks n _ = true from q))
  | _, _, n, .dK h r, q => by cases n <;> cases q
  | _, _, n, .dT h r, q => by cases n <;> cases q
  | _, _, n, .obj h h2 r, q => by cases n <;> cases q
  | _, _, n, .raw, q => by cases n <;> cases q
  | _, _, n, .scr h r, q => by cases n <;> cases q
theorem dps_of {K : PySem.W.Frag} {F : Hp} (e : Sub F H) : ∀ {v : List V} {d : List D} {n : Nat}, Reps F v d → eqOks n d = true → DpAll K H v (toPs d)
  | _, _, _, .nil, _ => .nil
  | _, _, n, .cons h r, q => by
    have q : (eqOk n _ && eqOks n _) = true := q
    rw [Bool.and_eq_true] at q
    exact .cons (dp_of e h q.1) (dps_of e r q.2)
end
/-- == of data -/
def deq (a b : D) : Bool := PyData.eqv (toP a) (toP b)
/-- a value as data: data, or a list of data -/
def rd (S : Store) : AV → Option D
  | .val d => some d
  | .cell i => (match S[i]? with
    | some (.lst xs) => (valsOf xs).map .lst
    | some (.fz d) => some d
    | _ => none)
  | .hot => none
theorem dp_rd {K : PySem.W.Frag} {d : D} {n : Nat} (r : Rel W S H) (ra : AVR W v a) (h : rd S a = some d) (hk : eqOk n d = true) : Dp K H v (toP d) := by
  cases a with
  | val e => cases h; exact dp_of r.sub ra hk
  | cell i =>
    obtain ⟨p, hp, e⟩ := ra
    unfold rd at h
    cases hi : S[i]? with
    | none => simp only [hi] at h; cases h
    | some c =>
      have hc := r.ok i c p hi hp
      cases c with
      | lst xs =>
        simp only [hi] at h
        cases hv : valsOf xs with
        | none => rw [hv] at h; cases h
        | some ds =>
          rw [hv] at h
          cases h
          have ex := valsOf_eq hv
          subst ex
          obtain ⟨_, vs, h1, h2⟩ := hc
          cases n with
          | zero => cases hk
          | succ n =>
            subst e
            exact .lst (SqL.of h1) (dps_of r.sub h2.toReps (show eqOks n ds = true from hk))
      | fz e2 =>
        simp only [hi] at h
        cases h
        subst e
        exact dp_of r.sub hc.1 hk
      | _ => simp only [hi] at h; cases h
  | hot => cases h
end
end VL

namespace VL
open PySem PySem.Spec PyProof.Rows L2

theorem avr_int {W : Wd} {v : V} {i : Int} (h : AVR W v (.val (.int i))) : v = .int i := rep_int h
theorem avr_str {W : Wd} {v : V} {i : Str} (h : AVR W v (.val (.str i))) : v = .str i := rep_str h
theorem avr_non {W : Wd} {v : V} (h : AVR W v (.val .non)) : v = .non := rep_non h
/-- ints, under C -/
def oI (C : Int → Int → Bool) (g : Int → Int → D) : AV → AV → Store → Out AV
  | .val (.int i), .val (.int j), S => if C i j then .ok (.val (g i j)) S else .stuck
  | _, _, _ => .stuck
theorem oI_S {C : Int → Int → Bool} {CP : Int → Int → Prop} {g : Int → Int → D} {gv : Int → Int → V} (hc : ∀ i j, C i j = true → CP i j) (hg : ∀ F i j, Rep F (gv i j) (g i j)) : OpS (rI CP gv) (oI C g) := by
  intro Wx W S H σ x y a b Q r rx ry h
  unfold oI at h
  split at h
  · rename_i i j
    cases e : C i j with
    | true => rw [if_pos e] at h; exact ⟨i, j, avr_int rx, avr_int ry, hc i j e, h.here r _ (hg _ i j)⟩
    | false => rw [if_neg (by rw [e]; exact Bool.false_ne_true)] at h; exact h.elim
  · exact h.elim
def tt (_ _ : Int) : Bool := true
theorem rI0_I {X : Cx} {f : Value → Value → Sem Value} {g : Int → Int → V} (h : OpR X f (rI0 g)) : OpR X f (rI (fun _ _ => True) g) := fun pins s σ H x y v u Q I rx ry ⟨i, j, e1, e2, _, q⟩ => h pins s σ H x y v u Q I rx ry ⟨i, j, e1, e2, q⟩
/-- the lists' sum: all items data -/
def oAdd : AV → AV → Store → Out AV := fun a b S => match a, b with
  | .val (.int i), .val (.int j) => .ok (.val (.int (i + j))) S
  | .val (.str x), .val (.str y) => if x.length + y.length ≤ sizeLine then .ok (.val (.str (x ++ y))) S else .stuck
  | a, b => match lstItems S a, lstItems S b with
    | some xs, some ys => (match valsOf xs, valsOf ys with
      | some ds, some es => if ds.length + es.length ≤ sizeLine then .ok (.val (.lst (ds ++ es))) S else .stuck
      | _, _ => .stuck)
    | _, _ => .stuck
def rStrAdd : R2 := fun x y H Q => ∃ i j, x = .str i ∧ y = .str j ∧ i.length + j.length ≤ sizeLine ∧ Q (.str (i ++ j)) H
abbrev rAddAll : R2 := fun x y H Q => rI0 (fun i j => .int (i + j)) x y H Q ∨ rStrAdd x y H Q ∨ rCat x y H Q
theorem Reps.app {F : Hp} : ∀ {vs us : List V} {as bs : List D}, Reps F vs as → Reps F us bs → Reps F (vs ++ us) (as ++ bs)
  | _, _, _, _, .nil, s => s
  | _, _, _, _, .cons h r, s => .cons h (Reps.app r s)
theorem Reps.len {F : Hp} : ∀ {vs : List V} {as : List D}, Reps F vs as → vs.length = as.length
  | _, _, .nil => rfl
  | _, _, .cons _ r => by simp [Reps.len r]
/-- a new list of data, frozen at once -/
theorem new_lst {Wx : WX} {W : Wd} {S : Store} {H : Hp} {σ : L2.St} {Q : VK} {vs : List V} {ds : List D} (r : Rel W S H) (rs : Reps W.F vs ds) (h : GoP Wx W σ H (.ok (.val (.lst ds)) S) (QV Q)) : ∀ p, H p = none → Q (.ref p) (upd H p (.lst vs)) := fun p hp => by
  obtain ⟨r', s'⟩ := r.lay (o := .lst vs) hp
  exact h _ _ s' r' _ (.lst (by show upd W.F p (.lst vs) p = _; exact upd_same) (rs.mono s'.F))
theorem new_tup {Wx : WX} {W : Wd} {S : Store} {H : Hp} {σ : L2.St} {Q : VK} {vs : List V} {ds : List D} (r : Rel W S H) (rs : Reps W.F vs ds) (h : GoP Wx W σ H (.ok (.val (.tup ds)) S) (QV Q)) : ∀ p, H p = none → Q (.ref p) (upd H p (.tup vs)) := fun p hp => by
  obtain ⟨r', s'⟩ := r.lay (o := .tup vs) hp
  exact h _ _ s' r' _ (.tup (by show upd W.F p (.tup vs) p = _; exact upd_same) (rs.mono s'.F))
theorem new_cell {Wx : WX} {W : Wd} {S : Store} {H : Hp} {σ : L2.St} {Q : VK} {vs : List V} {as : List AV} (r : Rel W S H) (rs : AVs W vs as) (h : GoP Wx W σ H (.ok (.cell S.length) (S ++ [.lst as])) (QV Q)) : ∀ p, H p = none → Q (.ref p) (upd H p (.lst vs)) := fun p hp => by
  have st : Step W H { W with loc := W.loc ++ [p] } (upd H p (.lst vs)) := by
    refine ⟨Sub.refl _, ⟨[p], rfl⟩, rfl, fun a q => ?_, fun a u e => .inl e, fun a u e _ => ?_⟩
    · rcases List.mem_append.mp q with q | q
      · exact .inl q
      · have z : a = p := by simpa using q
        subst z; exact .inr hp
    · rw [upd_ne (ne_of_none e hp)]; exact e
  obtain ⟨r', s'⟩ := r.alloc (o := .lst vs) (c := .lst as) hp ⟨(r.fresh hp).1, vs, upd_same, rs.step st⟩
  refine h _ _ s' r' _ ⟨p, ?_, rfl⟩
  show (W.loc ++ [p])[S.length]? = some p
  rw [← r.len, List.getElem?_append_right (Nat.le_refl _)]
  simp
section
variable {X : Cx}
theorem op_addX : OpR X (binaryOp .Add) rAddAll := op_add.or ((show OpR X (binaryOp .Add) rStrAdd from op_add_str).or op_cat)
theorem oAdd_S : OpS rAddAll oAdd := by
  intro Wx W S H σ x y a b Q r rx ry h
  unfold oAdd at h
  split at h
  · exact .inl ⟨_, _, avr_int rx, avr_int ry, h.here r _ .int⟩
  · rename_i u w
    by_cases e : u.length + w.length ≤ sizeLine
    · rw [if_pos e] at h; exact .inr (.inl ⟨_, _, avr_str rx, avr_str ry, e, h.here r _ .str⟩)
    · rw [if_neg e] at h; exact h.elim
  · rename_i hz1 hz2
    cases ea : lstItems S a with
    | none => simp only [ea] at h; exact h.elim
    | some xs =>
      cases eb : lstItems S b with
      | none => simp only [ea, eb] at h; exact h.elim
      | some ys =>
        simp only [ea, eb] at h
        cases e1 : valsOf xs with
        | none => simp only [e1] at h; exact h.elim
        | some ds =>
          cases e2 : valsOf ys with
          | none => simp only [e1, e2] at h; exact h.elim
          | some es =>
            simp only [e1, e2] at h
            obtain ⟨p, vs, ex, _, hp, rs⟩ := lst_at r rx ea
            obtain ⟨q, us, ey, _, hq, rt⟩ := lst_at r ry eb
            have z1 := valsOf_eq e1; subst z1
            have z2 := valsOf_eq e2; subst z2
            by_cases e : ds.length + es.length ≤ sizeLine
            · rw [if_pos e] at h
              have l1 := rs.toReps.len
              have l2 := rt.toReps.len
              exact .inr (.inr ⟨p, q, vs, us, ex, ey, hp, hq, by rw [l1, l2]; exact e, new_lst r (rs.toReps.app rt.toReps) h⟩)
            · rw [if_neg e] at h; exact h.elim
variable {Wx : WX} {a b : Expr} {f g : Den AV} {pos : Pos}
abbrev dAdd : Den AV → Den AV → Den AV := dOp oAdd
theorem ve_add (ha : VE X Wx a f) (hb : VE X Wx b g) : VE X Wx (.BinOp a .Add b pos) (dAdd f g) := ve_op op_addX oAdd_S ha hb
abbrev dSub : Den AV → Den AV → Den AV := dOp (oI tt fun i j => .int (i - j))
theorem ve_sub (ha : VE X Wx a f) (hb : VE X Wx b g) : VE X Wx (.BinOp a .Sub b pos) (dSub f g) := ve_op (rI0_I op_sub) (oI_S (fun _ _ _ => trivial) fun _ _ _ => .int) ha hb
def cMul (i j : Int) : Bool := (decide (-(2 ^ 64) < i) && decide (i < 2 ^ 64)) || (decide (-(2 ^ 64) < j) && decide (j < 2 ^ 64))
abbrev dMul : Den AV → Den AV → Den AV := dOp (oI cMul fun i j => .int (i * j))
theorem ve_mul (ha : VE X Wx a f) (hb : VE X Wx b g) : VE X Wx (.BinOp a .Mult b pos) (dMul f g) := ve_op op_mul (oI_S (fun i j h => by simpa [cMul, CMul] using h) fun _ _ _ => .int) ha hb
abbrev dMod : Den AV → Den AV → Den AV := dOp (oI (fun _ j => decide (0 < j)) fun i j => .int (i % j))
theorem ve_mod (ha : VE X Wx a f) (hb : VE X Wx b g) : VE X Wx (.BinOp a .Mod b pos) (dMod f g) := ve_op op_mod (oI_S (fun i j h => by simpa using h) fun _ _ _ => .int) ha hb
abbrev dFdiv : Den AV → Den AV → Den AV := dOp (oI (fun _ j => decide (0 < j) && decide (j < 1073741824)) fun i j => .int (i / j))
theorem ve_fdiv (ha : VE X Wx a f) (hb : VE X Wx b g) : VE X Wx (.BinOp a .FloorDiv b pos) (dFdiv f g) := ve_op op_fdiv (oI_S (fun i j h => by simpa [CDiv] using h) fun _ _ _ => .int) ha hb
abbrev dPow : Den AV → Den AV → Den AV := dOp (oI (fun i j => decide (0 ≤ j) && decide (j ≤ 1000000) && decide (i.natAbs < 2 ^ 64)) fun i j => .int (i ^ j.toNat))
theorem ve_pow (ha : VE X Wx a f) (hb : VE X Wx b g) : VE X Wx (.BinOp a .Pow b pos) (dPow f g) := ve_op op_pow (oI_S (fun i j h => by simpa [CPow, and_assoc] using h) fun _ _ _ => .int) ha hb
abbrev dNeg : Den AV → Den AV := dUn fun a S => match a with
  | .val (.int i) => .ok (.val (.int (-i))) S
  | _ => .stuck
theorem ve_neg (ha : VE X Wx a f) : VE X Wx (.UnaryOp .USub a pos) (dNeg f) := ve_un un_neg (fun Wx W S H σ x a Q r rx h => by
  split at h
  · exact ⟨_, avr_int rx, h.here r _ .int⟩
  · exact h.elim) ha
abbrev oLt := oI tt fun i j => .bl (decide (i < j))
abbrev oLe := oI tt fun i j => .bl (decide (i ≤ j))
abbrev oGt := oI tt fun i j => .bl (decide (j < i))
abbrev oGe := oI tt fun i j => .bl (decide (j ≤ i))
theorem oLt_S : OpS (rI (fun _ _ => True) fun i j => .bl (decide (i < j))) oLt := oI_S (fun _ _ _ => trivial) fun _ _ _ => .bl
theorem oLe_S : OpS (rI (fun _ _ => True) fun i j => .bl (decide (i ≤ j))) oLe := oI_S (fun _ _ _ => trivial) fun _ _ _ => .bl
theorem oGt_S : OpS (rI (fun _ _ => True) fun i j => .bl (decide (j < i))) oGt := oI_S (fun _ _ _ => trivial) fun _ _ _ => .bl
theorem oGe_S : OpS (rI (fun _ _ => True) fun i j => .bl (decide (j ≤ i))) oGe := oI_S (fun _ _ _ => trivial) fun _ _ _ => .bl
theorem op_ltX : OpR X (compareOp .Lt) (rI (fun _ _ => True) fun i j => .bl (decide (i < j))) := rI0_I op_lt
theorem op_leX : OpR X (compareOp .LtE) (rI (fun _ _ => True) fun i j => .bl (decide (i ≤ j))) := rI0_I op_le
theorem op_gtX : OpR X (compareOp .Gt) (rI (fun _ _ => True) fun i j => .bl (decide (j < i))) := rI0_I op_gt
theorem op_geX : OpR X (compareOp .GtE) (rI (fun _ _ => True) fun i j => .bl (decide (j ≤ i))) := rI0_I op_ge
def oEq (neg : Bool) : AV → AV → Store → Out AV := fun a b S => match a, b with
  | .val (.str x), .val (.str y) => .ok (.val (.bl (xor neg (decide (x = y))))) S
  | .val (.int x), .val (.int y) => .ok (.val (.bl (xor neg (decide (x = y))))) S
  | a, b => (match rd S a, rd S b with
    | some d, some e => if eqOk 8 d && eqOk 8 e then .ok (.val (.bl (xor neg (deq d e)))) S else .stuck
    | _, _ => .stuck)
abbrev rEqAll (K : PySem.W.Frag) : R2 := fun x y H Q => rEq x y H Q ∨ rEqD K x y H Q
abbrev rNeAll (K : PySem.W.Frag) : R2 := fun x y H Q => rNe x y H Q ∨ rNeD K x y H Q
theorem op_eqX (hu : X.A.units + 64 < cLine) : OpR X (compareOp .Eq) (rEqAll X.K) := op_eq.or (op_eqD hu)
theorem op_neX (hu : X.A.units + 64 < cLine) : OpR X (compareOp .NotEq) (rNeAll X.K) := op_ne.or (op_neD hu)
theorem oEq_S (K : PySem.W.Frag) : OpS (rEqAll K) (oEq false) := by
  intro Wx W S H σ x y a b Q r rx ry h
  unfold oEq at h
  split at h
  · rename_i u w
    refine .inl ⟨by rw [avr_str rx, avr_str ry]; rfl, ?_⟩
    rw [avr_str rx, avr_str ry]
    have e : decide (V.str u = V.str w) = decide (u = w) := by simp
    rw [e]
    exact h.here r _ (by rw [Bool.false_xor]; exact .bl)
  · rename_i u w
    refine .inl ⟨by rw [avr_int rx, avr_int ry]; rfl, ?_⟩
    rw [avr_int rx, avr_int ry]
    have e : decide (V.int u = V.int w) = decide (u = w) := by simp
    rw [e]
    exact h.here r _ (by rw [Bool.false_xor]; exact .bl)
  · rename_i hz1 hz2
    cases ea : rd S a with
    | none => simp only [ea] at h; exact h.elim
    | some d =>
      cases eb : rd S b with
      | none => simp only [ea, eb] at h; exact h.elim
      | some e =>
        simp only [ea, eb] at h
        cases hk : (eqOk 8 d && eqOk 8 e) with
        | false => rw [if_neg (by rw [hk]; exact Bool.false_ne_true)] at h; exact h.elim
        | true =>
          rw [if_pos hk] at h
          rw [Bool.and_eq_true] at hk
          refine .inr ⟨toP d, toP e, dp_rd r rx ea hk.1, dp_rd r ry eb hk.2, shaped_of hk.1 (by decide), shaped_of hk.2 (by decide), ?_⟩
          exact h.here r _ (by rw [Bool.false_xor]; exact .bl)
theorem oNe_S (K : PySem.W.Frag) : OpS (rNeAll K) (oEq true) := by
  intro Wx W S H σ x y a b Q r rx ry h
  unfold oEq at h
  split at h
  · rename_i u w
    refine .inl ⟨by rw [avr_str rx, avr_str ry]; rfl, ?_⟩
    rw [avr_str rx, avr_str ry]
    have e : decide (V.str u = V.str w) = decide (u = w) := by simp
    rw [e]
    exact h.here r _ (by rw [Bool.true_xor]; exact .bl)
  · rename_i u w
    refine .inl ⟨by rw [avr_int rx, avr_int ry]; rfl, ?_⟩
    rw [avr_int rx, avr_int ry]
    have e : decide (V.int u = V.int w) = decide (u = w) := by simp
    rw [e]
    exact h.here r _ (by rw [Bool.true_xor]; exact .bl)
  · rename_i hz1 hz2
    cases ea : rd S a with
    | none => simp only [ea] at h; exact h.elim
    | some d =>
      cases eb : rd S b with
      | none => simp only [ea, eb] at h; exact h.elim
      | some e =>
        simp only [ea, eb] at h
        cases hk : (eqOk 8 d && eqOk 8 e) with
        | false => rw [if_neg (by rw [hk]; exact Bool.false_ne_true)] at h; exact h.elim
        | true =>
          rw [if_pos hk] at h
          rw [Bool.and_eq_true] at hk
          refine .inr ⟨toP d, toP e, dp_rd r rx ea hk.1, dp_rd r ry eb hk.2, shaped_of hk.1 (by decide), shaped_of hk.2 (by decide), ?_⟩
          exact h.here r _ (by rw [Bool.true_xor]; exact .bl)
def isNon : AV → Bool
  | .val .non => true
  | _ => false
def notRaw : AV → Bool
  | .val (.raw _) => false
  | _ => true
theorem isNon_of {W : Wd} {v : V} {a : AV} (r : AVR W v a) (n : notRaw a = true) : decide (v = .non) = isNon a := by
  cases a with
  | val d =>
    cases d with
    | raw v => cases n
    | _ => cases r <;> simp [isNon]
  | cell i => obtain ⟨p, _, e⟩ := r; subst e; simp [isNon]
  | hot => obtain ⟨p, _, _, _, e⟩ := r; subst e; simp [isNon]
def oIs (neg : Bool) : AV → AV → Store → Out AV := fun a b S => match b with
  | .val .non => if notRaw a then .ok (.val (.bl (xor neg (isNon a)))) S else .stuck
  | _ => .stuck
theorem oIs_S : OpS (fun x y H Q => y = .non ∧ Q (.bl (decide (x = .non))) H) (oIs false) := by
  intro Wx W S H σ x y a b Q r rx ry h
  unfold oIs at h
  split at h
  · cases e : notRaw a with
    | false => rw [if_neg (by rw [e]; exact Bool.false_ne_true)] at h; exact h.elim
    | true =>
      rw [if_pos e] at h
      rw [isNon_of rx e]
      exact ⟨avr_non ry, h.here r _ (by rw [Bool.false_xor]; exact .bl)⟩
  · exact h.elim
theorem oIsNot_S : OpS (fun x y H Q => y = .non ∧ Q (.bl (!decide (x = .non))) H) (oIs true) := by
  intro Wx W S H σ x y a b Q r rx ry h
  unfold oIs at h
  split at h
  · cases e : notRaw a with
    | false => rw [if_neg (by rw [e]; exact Bool.false_ne_true)] at h; exact h.elim
    | true =>
      rw [if_pos e] at h
      rw [isNon_of rx e]
      exact ⟨avr_non ry, h.here r _ (by rw [Bool.true_xor]; exact .bl)⟩
  · exact h.elim
def rIxD : R2 := fun x y H Q => ∃ a v, x = .ref a ∧ DGet H a y (some v) ∧ Q v H
theorem ix_dict (hu : X.A.units + 1 < cLine) : IxR X rIxD := by
  rintro value slice pins s σ H _ y v u Q I rx ry ⟨a, w, rfl, look, q⟩ hs
  cases rx
  exact tail_any (dict_typeIs I look) PySem.F.slot_dict_getitem.lookup (d_getItem hu I look ry fun _ _ J rw' => ⟨w, H, J, rw', q⟩) hs
def oIx : AV → AV → Store → Out AV := fun a b S => match a, b with
  | .val (.str z), .val (.int i) => if z.length ≤ sizeLine then (match atI z.cps.toList i with
      | some c => .ok (.val (.str ⟨#[c]⟩)) S
      | none => .stuck) else .stuck
  | .val (.tup ds), .val (.int i) => (match atI (ds.map AV.val) i with
      | some c => .ok c S
      | none => .stuck)
  | a, b => (match lstItems S a with
    | some xs => (match b with
      | .val (.int i) => (match atI xs i with
        | some c => .ok c S
        | none => .stuck)
      | _ => .stuck)
    | none => (match dicOf S a with
      | some dv => (match dfind dv b with
        | some (some c) => .ok c S
        | _ => .stuck)
      | none => .stuck))
abbrev rIxAll (K : PySem.W.Frag) : R2 := fun x y H Q => rIx K x y H Q ∨ rIxD x y H Q
theorem ix_all (hu : X.A.units + 1 < cLine) : IxR X (rIxAll X.K) := ix_seq.or (ix_dict hu)
theorem AVs.atI {W : Wd} {vs : List V} {as : List AV} {i : Int} {c : AV} (r : AVs W vs as) (h : L2.atI as i = some c) : ∃ v, L2.atI vs i = some v ∧ AVR W v c := by
  unfold L2.atI at h ⊢
  rw [r.len]
  cases e : ixN as.length i with
  | none => rw [e] at h; cases h
  | some j =>
    rw [e] at h
    exact r.get' h
theorem oIx_S (K : PySem.W.Frag) : OpS (rIxAll K) oIx := by
  intro Wx W S H σ x y a b Q r rx ry h
  unfold oIx at h
  split at h
  · rename_i z i
    by_cases e : z.length ≤ sizeLine
    · rw [if_pos e] at h
      cases ec : L2.atI z.cps.toList i with
      | none => simp only [ec] at h; exact h.elim
      | some c => simp only [ec] at h; exact .inl (.inr (.inr ⟨z, i, c, avr_str rx, avr_int ry, e, ec, h.here r _ .str⟩))
    · rw [if_neg e] at h; exact h.elim
  · rename_i ds i
    cases ec : L2.atI (ds.map AV.val) i with
    | none => simp only [ec] at h; exact h.elim
    | some c =>
      simp only [ec] at h
      obtain ⟨p, vs, ex, hp, rs⟩ := rep_tup rx
      obtain ⟨v, hv, rv⟩ := (AVs.ofReps rs).atI ec
      exact .inl (.inr (.inl ⟨p, vs, i, v, ex, avr_int ry, SqT.of (r.sub _ _ hp), hv, h.here r v rv⟩))
  · rename_i hz1 hz2
    cases ea : lstItems S a with
    | some xs =>
      simp only [ea] at h
      split at h
      · rename_i i
        cases ec : L2.atI xs i with
        | none => simp only [ec] at h; exact h.elim
        | some c =>
          simp only [ec] at h
          obtain ⟨p, vs, ex, hp, _, rs⟩ := lst_at r rx ea
          obtain ⟨v, hv, rv⟩ := rs.atI ec
          exact .inl (.inl ⟨p, vs, i, v, ex, avr_int ry, .inl hp, hv, h.here r v rv⟩)
      · exact h.elim
    | none =>
      simp only [ea] at h
      cases ed : dicOf S a with
      | none => simp only [ed] at h; exact h.elim
      | some dv =>
        simp only [ed] at h
        cases ef : dfind dv b with
        | none => simp only [ef] at h; exact h.elim
        | some o =>
          cases o with
          | none => simp only [ef] at h; exact h.elim
          | some c =>
            simp only [ef] at h
            obtain ⟨p, ex, hd⟩ := dic_at r rx ed
            rcases dget r hd ry ef with ⟨z, _⟩ | ⟨c', v, ec, g, rv⟩
            · cases z
            · cases ec
              exact .inr ⟨p, v, ex, g, h.here r v rv⟩
def flatD : D → Bool
  | .non => true
  | .bl _ => true
  | .int _ => true
  | .str _ => true
  | _ => false
def oIn (neg : Bool) : AV → AV → Store → Out AV := fun a b S => match a, b with
  | .val (.str x), .val (.str y) => .ok (.val (.bl (xor neg (!(Builtin.Str.occurrences y x 0 y.length 1).isEmpty)))) S
  | .val d, .val (.tup es) => if flatD d && es.all flatD then .ok (.val (.bl (xor neg (es.any fun z => deq z d)))) S else .stuck
  | a, b => (match lstItems S b with
    | some ys => (match rd S a, valsOf ys with
      | some d, some es => if eqOk 7 d && es.all (eqOk 7) then .ok (.val (.bl (xor neg (es.any fun z => deq z d)))) S else .stuck
      | _, _ => .stuck)
    | none => (match dicOf S b with
      | some dv => (match dfind dv a with
        | some o => .ok (.val (.bl (xor neg o.isSome))) S
        | none => .stuck)
      | none => .stuck))
abbrev rInAll (K : PySem.W.Frag) (neg : Bool) : R2 := fun x y H Q => (∃ i j, x = .str i ∧ y = .str j ∧ Q (.bl (xor neg (!(Builtin.Str.occurrences j i 0 j.length 1).isEmpty))) H) ∨ rIn K neg x y H Q ∨
  (∃ d ds, Dp K H x d ∧ Dp K H y (.list ds) ∧ SeqAt.shaped d = true ∧ SeqAt.shaped (.list ds) = true ∧ Q (.bl (xor neg (ds.any fun z => PyData.eqv z d))) H) ∨ ∃ a o, y = .ref a ∧ DGet H a x o ∧ Q (.bl (xor neg o.isSome)) H
theorem op_inX (hu : X.A.units + 65 < cLine) : OpR X (compareOp .In) (rInAll X.K false) := by
  refine OpR.or ?_ (OpR.or op_in_seq (OpR.or ?_ ?_))
  · intro pins s σ H x y v u Q I rx ry ⟨i, j, e1, e2, q⟩
    exact op_in_str pins s σ H x y v u Q I rx ry ⟨i, j, e1, e2, by simpa using q⟩
  · intro pins s σ H x y v u Q I rx ry ⟨d, ds, h1, h2, h3, h4, q⟩
    exact op_inD hu pins s σ H x y v u Q I rx ry ⟨d, ds, h1, h2, h3, h4, by simpa using q⟩
  · intro pins s σ H x y v u Q I rx ry ⟨a, o, e, g, q⟩
    subst e
    obtain rfl : u = Value.ref a := ry
    exact d_in (by omega) I g rx fun s' I' => ⟨.bl _, H, I', rfl, by simpa using q⟩
theorem op_notInX (hu : X.A.units + 65 < cLine) : OpR X (compareOp .NotIn) (rInAll X.K true) := by
  refine OpR.or ?_ (OpR.or op_notIn_seq (OpR.or ?_ ?_))
  · intro pins s σ H x y v u Q I rx ry ⟨i, j, e1, e2, q⟩
    exact op_notIn_str pins s σ H x y v u Q I rx ry ⟨i, j, e1, e2, by simpa using q⟩
  · intro pins s σ H x y v u Q I rx ry ⟨d, ds, h1, h2, h3, h4, q⟩
    exact op_notInD hu pins s σ H x y v u Q I rx ry ⟨d, ds, h1, h2, h3, h4, by simpa using q⟩
  · intro pins s σ H x y v u Q I rx ry ⟨a, o, e, g, q⟩
    subst e
    obtain rfl : u = Value.ref a := ry
    exact d_notIn (by omega) I g rx fun s' I' => ⟨.bl _, H, I', rfl, by simpa using q⟩
theorem eqV_deq {F : Hp} {x y : V} {d e : D} (rx : Rep F x d) (ry : Rep F y e) (fd : flatD d = true) (fe : flatD e = true) : flatV x = true ∧ flatV y = true ∧ eqV x y = deq d e := by
  cases d <;> cases rx <;> first | exact (Bool.false_ne_true fd).elim | skip
  all_goals (cases e <;> cases ry <;> first | exact (Bool.false_ne_true fe).elim | (refine ⟨rfl, rfl, ?_⟩; simp [eqV, deq, toP, PyData.eqv]))
theorem any_deq {F : Hp} {x : V} {d : D} (rx : Rep F x d) (fd : flatD d = true) : ∀ {vs : List V} {es : List D}, Reps F vs es → es.all flatD = true → vs.all flatV = true ∧ inV x vs = es.any fun z => deq z d
  | _, _, .nil, _ => ⟨rfl, rfl⟩
  | _, _, .cons (v := v) (d := e) (vs := vs) (ds := es) h r, q => by
    rw [List.all_cons, Bool.and_eq_true] at q
    obtain ⟨h1, h2⟩ := any_deq rx fd r q.2
    obtain ⟨e1, e2, e3⟩ := eqV_deq h rx q.1 fd
    have h2' : (vs.any fun y => eqV y x) = es.any fun z => deq z d := h2
    exact ⟨by rw [List.all_cons, e1, h1]; rfl, by show ((v :: vs).any fun y => eqV y x) = _; rw [List.any_cons, List.any_cons, e3, h2']⟩
theorem any_toPs (d : D) : ∀ es : List D, ((toPs es).any fun z => PyData.eqv z (toP d)) = es.any fun z => deq z d
  | [] => rfl
  | e :: es => by show (PyData.eqv (toP e) (toP d) || (toPs es).any _) = (deq e d || es.any _); rw [any_toPs d es]; rfl
theorem oIn_S (K : PySem.W.Frag) (neg : Bool) : OpS (rInAll K neg) (oIn neg) := by
  intro Wx W S H σ x y a b Q r rx ry h
  unfold oIn at h
  split at h
  · exact .inl ⟨_, _, avr_str rx, avr_str ry, h.here r _ .bl⟩
  · rename_i d es
    cases hk : (flatD d && es.all flatD) with
    | false => rw [if_neg (by rw [hk]; exact Bool.false_ne_true)] at h; exact h.elim
    | true =>
      rw [if_pos hk] at h
      rw [Bool.and_eq_true] at hk
      obtain ⟨p, vs, ey, hp, rs⟩ := rep_tup ry
      obtain ⟨f2, e2⟩ := any_deq rx hk.1 rs hk.2
      have f1 : flatV x = true := (eqV_deq rx rx hk.1 hk.1).1
      refine .inr (.inl ⟨p, vs, ey, .inr (SqT.of (r.sub _ _ hp)), f1, f2, ?_⟩)
      have e3 : (if neg then !inV x vs else inV x vs) = xor neg (es.any fun z => deq z d) := by rw [e2]; cases neg <;> simp
      rw [e3]
      exact h.here r _ .bl
  · rename_i hz1 hz2
    cases eb : lstItems S b with
    | some ys =>
      simp only [eb] at h
      cases ea : rd S a with
      | none => simp only [ea] at h; exact h.elim
      | some d =>
        cases ev : valsOf ys with
        | none => simp only [ea, ev] at h; exact h.elim
        | some es =>
          simp only [ea, ev] at h
          cases hk : (eqOk 7 d && es.all (eqOk 7)) with
          | false => rw [if_neg (by rw [hk]; exact Bool.false_ne_true)] at h; exact h.elim
          | true =>
            rw [if_pos hk] at h
            rw [Bool.and_eq_true] at hk
            obtain ⟨p, vs, ey, hp, _, rs⟩ := lst_at r ry eb
            have z := valsOf_eq ev
            subst z
            subst ey
            have hk2 : eqOks 7 es = true := by rw [eqOks_eq]; exact hk.2
            have hd : Dp K H (.ref p) (.list (toPs es)) := .lst (.inl hp) (dps_of r.sub rs.toReps hk2)
            refine .inr (.inr (.inl ⟨toP d, toPs es, dp_rd r rx ea hk.1, hd, shaped_of hk.1 (by decide), shaped_of (n := 8) (d := .lst es) (show eqOks 7 es = true from hk2) (by decide), ?_⟩))
            rw [any_toPs]
            exact h.here r _ .bl
    | none =>
      simp only [eb] at h
      cases ed : dicOf S b with
      | none => simp only [ed] at h; exact h.elim
      | some dv =>
        simp only [ed] at h
        cases ef : dfind dv a with
        | none => simp only [ef] at h; exact h.elim
        | some o =>
          simp only [ef] at h
          obtain ⟨p, ey, hd⟩ := dic_at r ry ed
          rcases dget r hd rx ef with ⟨z, g⟩ | ⟨c', v, ec, g, rv⟩
          · subst z; exact .inr (.inr (.inr ⟨p, none, ey, g, h.here r _ .bl⟩))
          · subst ec; exact .inr (.inr (.inr ⟨p, some v, ey, g, h.here r _ .bl⟩))
end
end VL

namespace VL
open PySem PySem.Spec PyProof.Rows L2

section
variable {W W2 : Wd} {S : Store} {H H2 : Hp} {p : Addr} {o : HO}
theorem Step.temp (h : H p = none) : Step W H W (upd H p o) :=
  ⟨Sub.refl _, ⟨[], by simp⟩, rfl, fun _ q => .inl q, fun _ _ e => .inl e, fun a u e _ => by rw [upd_ne (ne_of_none e h)]; exact e⟩
theorem Rel.temp (r : Rel W S H) (h : H p = none) : Rel W S (upd H p o) := by
  obtain ⟨hF, hl⟩ := r.fresh h
  refine ⟨fun a u e => by rw [upd_ne (ne_of_none (r.sub a u e) h)]; exact r.sub a u e, r.len, r.nd, fun i c q hi hq => ?_⟩
  have ne : q ≠ p := fun z => hl (by rw [← z]; exact List.mem_of_getElem? hq)
  exact (r.ok i c q hi hq).step (Step.temp h) (upd_ne ne) rfl
/-- what was laid for a time is still not ours -/
theorem Step.stays (s : Step W H W2 H2) (h : H p = some o) (hl : p ∉ W.loc) (hF : W.F p = none) (r : Rel W2 S H2) (nt : ∀ xs, o ≠ .tup xs) : H2 p = some o ∧ W2.F p = none ∧ p ∉ W2.loc := by
  have h2 := s.keep p o h hl
  refine ⟨h2, ?_, fun q => ?_⟩
  · cases e : W2.F p with
    | none => rfl
    | some u =>
      rcases s.newF p u e with q | q | q | ⟨xs, q⟩
      · rw [hF] at q; cases q
      · rw [h] at q; cases q
      · exact (hl q).elim
      · subst q
        have := r.sub p _ e
        rw [h2] at this
        cases this
        exact (nt xs rfl).elim
  · rcases s.new p q with q | q
    · exact hl q
    · rw [h] at q; cases q
theorem Step.cell (s : Step W H W2 H2) (h : H p = none) : Step W H { W2 with loc := W2.loc ++ [p] } (upd H2 p o) := by
  obtain ⟨m, hm⟩ := s.loc
  refine ⟨s.F, ⟨m ++ [p], by show W2.loc ++ [p] = _; rw [hm, List.append_assoc]⟩, s.hot, fun a q => ?_, s.newF, fun a u e n => ?_⟩
  · rcases List.mem_append.mp q with q | q
    · exact s.new a q
    · have z : a = p := by simpa using q
      subst z; exact .inr h
  · rw [upd_ne (ne_of_none e h)]; exact s.keep a u e n
theorem Rel.cell {c : Cell} (r : Rel W S H) (hF : W.F p = none) (hl : p ∉ W.loc) (hc : CellOk { W with loc := W.loc ++ [p] } (upd H p o) p c) : Rel { W with loc := W.loc ++ [p] } (S ++ [c]) (upd H p o) := by
  refine ⟨fun a u e => ?_, by simp [r.len], ?_, fun i c' q hi hq => ?_⟩
  · have e : W.F a = some u := e
    rw [upd_ne (fun z => by rw [z, hF] at e; cases e)]; exact r.sub a u e
  · show (W.loc ++ [p]).Nodup
    rw [List.nodup_append]
    exact ⟨r.nd, by simp, fun a ha b hb e => hl (by have z : b = p := (by simpa using hb); rw [← z, ← e]; exact ha)⟩
  · have hq' : (W.loc ++ [p])[i]? = some q := hq
    by_cases hi' : i < S.length
    · rw [List.getElem?_append_left hi'] at hi
      rw [List.getElem?_append_left (by rw [r.len]; exact hi')] at hq'
      have ne : q ≠ p := fun z => hl (by rw [← z]; exact List.mem_of_getElem? hq')
      have c0 := r.ok i c' q hi hq'
      cases c' with
      | lst xs => obtain ⟨n, vs, q2, r2⟩ := c0; exact ⟨n, vs, (upd_ne ne).trans q2, r2.mono⟩
      | dK xs => obtain ⟨n, vs, q2, r2⟩ := c0; exact ⟨n, vs, (upd_ne ne).trans q2, r2.mono⟩
      | dT xs => obtain ⟨n, vs, q2, r2⟩ := c0; exact ⟨n, vs, (upd_ne ne).trans q2, r2.mono⟩
      | ins C xs => obtain ⟨n, dx, vs, q2, f, r2⟩ := c0; exact ⟨n, dx, vs, (upd_ne ne).trans q2, f, r2.mono⟩
      | fz d => exact c0
    · have e : i = S.length := by
        have := (List.getElem?_eq_some_iff.mp hi).1
        simp at this
        omega
      subst e
      rw [List.getElem?_append_right (Nat.le_refl _)] at hi
      rw [← r.len, List.getElem?_append_right (Nat.le_refl _)] at hq'
      simp at hi hq'
      subst hi
      subst hq'
      exact hc
end
end VL

namespace VL
open PySem PySem.Spec PyProof.Rows L2

theorem upd_id {H : Hp} {p : Addr} {o : HO} (h : H p = some o) : upd H p o = H := by
  funext b
  by_cases e : b = p
  · subst e; rw [upd_same, h]
  · rw [upd_ne e]
def frz1 (S : Store) : AV → Option (D × Store)
  | .val d => some (d, S)
  | .cell i => (match S[i]? with
    | some (.fz d) => some (d, S)
    | some (.lst xs) => (valsOf xs).map fun ds => (.lst ds, S.set i (.fz (.lst ds)))
    | _ => none)
  | .hot => none
def frzs (S : Store) : List AV → Option (List D × Store)
  | [] => some ([], S)
  | a :: r => (match frz1 S a with
    | some (d, S1) => (match frzs S1 r with
      | some (ds, S2) => some (d :: ds, S2)
      | none => none)
    | none => none)
@[simp] theorem frzs_vals (S : Store) : ∀ ds : List D, frzs S (ds.map .val) = some (ds, S)
  | [] => rfl
  | d :: ds => by simp [frzs, frz1, frzs_vals S ds]
section
variable {W : Wd} {S S' : Store} {H : Hp}
theorem frz1_ok {v : V} {a : AV} {d : D} (r : Rel W S H) (ra : AVR W v a) (h : frz1 S a = some (d, S')) : ∃ W', Step W H W' H ∧ Rel W' S' H ∧ Rep W'.F v d := by
  cases a with
  | val e => cases h; exact ⟨W, Step.refl _ _, r, ra⟩
  | hot => cases h
  | cell i =>
    obtain ⟨p, hp, e⟩ := ra
    subst e
    unfold frz1 at h
    cases hi : S[i]? with
    | none => simp only [hi] at h; cases h
    | some c =>
      have hc := r.ok i c p hi hp
      cases c with
      | fz e => simp only [hi] at h; cases h; exact ⟨W, Step.refl _ _, r, hc.1⟩
      | lst xs =>
        simp only [hi] at h
        cases hv : valsOf xs with
        | none => rw [hv] at h; cases h
        | some ds =>
          rw [hv] at h
          cases h
          have ex := valsOf_eq hv
          subst ex
          obtain ⟨n, vs, h1, h2⟩ := hc
          have sub : Sub W.F (upd W.F p (.lst vs)) := fun a u e => by rw [upd_ne (fun z => by rw [z, n] at e; cases e)]; exact e
          have rp : Rep (upd W.F p (.lst vs)) (.ref p) (.lst ds) := .lst upd_same (h2.toReps.mono sub)
          obtain ⟨r', s'⟩ := r.freeze (o := .lst vs) hp n rp
          rw [upd_id h1] at r' s'
          exact ⟨_, s', r', rp⟩
      | _ => simp only [hi] at h; cases h
theorem frzs_ok : ∀ {as : List AV} {vs : List V} {ds : List D} {W : Wd} {S S' : Store}, Rel W S H → AVs W vs as → frzs S as = some (ds, S') → ∃ W', Step W H W' H ∧ Rel W' S' H ∧ Reps W'.F vs ds
  | [], _, _, W, S, S', r, .nil, h => by cases h; exact ⟨W, Step.refl _ _, r, .nil⟩
  | a :: as, _, ds, W, S, S', r, .cons ra rs, h => by
    unfold frzs at h
    cases e1 : frz1 S a with
    | none => rw [e1] at h; cases h
    | some q =>
      obtain ⟨d, S1⟩ := q
      rw [e1] at h
      cases e2 : frzs S1 as with
      | none => simp only [e2] at h; cases h
      | some q2 =>
        obtain ⟨es, S2⟩ := q2
        simp only [e2] at h
        cases h
        obtain ⟨W1, s1, r1, p1⟩ := frz1_ok r ra e1
        obtain ⟨W2, s2, r2, p2⟩ := frzs_ok r1 (rs.step s1) e2
        exact ⟨W2, s1.trans s2, r2, .cons (p1.mono s2.F) p2⟩
end

section
variable {X : Cx} {Wx : WX} {es : List Expr} {e : Expr} {g : Den (List AV)} {f : Den AV} {pos : Pos}
def dTup (g : Den (List AV)) : Den AV := fun ρ S => (g ρ S).bind fun as S1 => match frzs S1 as with
  | some (ds, S2) => if ds.length ≤ 100 then .ok (.val (.tup ds)) S2 else .stuck
  | none => .stuck
theorem le100 {n : Nat} (h : n ≤ 100) : n ≤ sizeLine := Nat.le_trans h (by decide)
theorem ve_tup {k : Nat} (h : VA X Wx es g) : VE X Wx (.Tuple es k pos) (dTup g) :=
  .of (pe_tup h.pa) fun σ H Q W ρ S rl en q => tva_seq rl en q fun as S1 W1 H1 vs s1 r1 e1 ra h1 => by
    cases e : frzs S1 as with
    | none => simp only [e] at h1; exact h1.elim
    | some z =>
      obtain ⟨ds, S2⟩ := z
      simp only [e] at h1
      by_cases hl : ds.length ≤ 100
      · rw [if_pos hl] at h1
        obtain ⟨W2, s2, r2, rs⟩ := frzs_ok r1 ra e
        exact ⟨by rw [rs.len]; exact le100 hl, new_tup r2 rs (h1.step s2)⟩
      · rw [if_neg hl] at h1; exact h1.elim
/-- a list of data -/
def dLst (g : Den (List AV)) : Den AV := fun ρ S => (g ρ S).bind fun as S1 => match frzs S1 as with
  | some (ds, S2) => if ds.length ≤ 100 then .ok (.val (.lst ds)) S2 else .stuck
  | none => .stuck
theorem ve_lst (h : VA X Wx es g) : VE X Wx (.List es pos) (dLst g) :=
  .of (pe_lst h.pa) fun σ H Q W ρ S rl en q => tva_seq rl en q fun as S1 W1 H1 vs s1 r1 e1 ra h1 => by
    cases e : frzs S1 as with
    | none => simp only [e] at h1; exact h1.elim
    | some z =>
      obtain ⟨ds, S2⟩ := z
      simp only [e] at h1
      by_cases hl : ds.length ≤ 100
      · rw [if_pos hl] at h1
        obtain ⟨W2, s2, r2, rs⟩ := frzs_ok r1 ra e
        exact ⟨by rw [rs.len]; exact le100 hl, new_lst r2 rs (h1.step s2)⟩
      · rw [if_neg hl] at h1; exact h1.elim
/-- a list as a cell -/
def dLstC (g : Den (List AV)) : Den AV := fun ρ S => (g ρ S).bind fun as S1 => if as.length ≤ 100 then .ok (.cell S1.length) (S1 ++ [.lst as]) else .stuck
theorem ve_lstC (h : VA X Wx es g) : VE X Wx (.List es pos) (dLstC g) :=
  .of (pe_lst h.pa) fun σ H Q W ρ S rl en q => tva_seq rl en q fun as S1 W1 H1 vs s1 r1 e1 ra h1 => by
    by_cases hl : as.length ≤ 100
    · rw [if_pos hl] at h1
      exact ⟨by rw [ra.len]; exact le100 hl, new_cell r1 ra h1⟩
    · rw [if_neg hl] at h1; exact h1.elim
/-- {} -/
def dDicK : Den AV := fun ρ S => .ok (.cell S.length) (S ++ [.dK []])
def dDicT : Den AV := fun ρ S => .ok (.cell S.length) (S ++ [.dT []])
theorem ve_dicK : VE X Wx (.Dict [] [] pos) dDicK := .of pe_dnewK fun σ H Q W ρ S rl en q => fun p hp => by
  obtain ⟨r', s'⟩ := rl.alloc (o := .dK []) (c := .dK []) hp ⟨(rl.fresh hp).1, [], upd_same, .nil⟩
  refine q _ _ s' r' _ ⟨p, ?_, rfl⟩
  show (W.loc ++ [p])[S.length]? = some p
  rw [← rl.len, List.getElem?_append_right (Nat.le_refl _)]
  simp
theorem ve_dicT : VE X Wx (.Dict [] [] pos) dDicT := .of pe_dnewT fun σ H Q W ρ S rl en q => fun p hp => by
  obtain ⟨r', s'⟩ := rl.alloc (o := .dT []) (c := .dT []) hp ⟨(rl.fresh hp).1, [], upd_same, .nil⟩
  refine q _ _ s' r' _ ⟨p, ?_, rfl⟩
  show (W.loc ++ [p])[S.length]? = some p
  rw [← rl.len, List.getElem?_append_right (Nat.le_refl _)]
  simp
def put {κ : Type} [DecidableEq κ] (kvs : List (κ × AV)) (k : κ) (a : AV) : List (κ × AV) :=
  if (kvs.any fun kv => decide (kv.1 = k)) = true then kvs.map (fun kv => if kv.1 = k then (kv.1, a) else kv) else kvs ++ [(k, a)]
theorem AKs.any {κ : Type} [DecidableEq κ] {W : Wd} (k : κ) : ∀ {vs : List (κ × V)} {as : List (κ × AV)}, AKs W vs as → (vs.any fun kv => decide (kv.1 = k)) = as.any fun kv => decide (kv.1 = k)
  | _, _, .nil => rfl
  | _, _, .cons _ r => by rw [List.any_cons, List.any_cons, AKs.any k r]
theorem AKs.repl {κ : Type} [DecidableEq κ] {W : Wd} (k : κ) {v : V} {a : AV} (ra : AVR W v a) : ∀ {vs : List (κ × V)} {as : List (κ × AV)}, AKs W vs as →
    AKs W (vs.map fun kv => if kv.1 = k then (kv.1, v) else kv) (as.map fun kv => if kv.1 = k then (kv.1, a) else kv)
  | _, _, .nil => .nil
  | _, _, .cons (k := j) h r => by
    rw [List.map_cons, List.map_cons]
    by_cases e : j = k
    · rw [if_pos e, if_pos e]; exact .cons ra (AKs.repl k ra r)
    · rw [if_neg e, if_neg e]; exact .cons h (AKs.repl k ra r)
theorem AKs.app {κ : Type} {W : Wd} : ∀ {vs us : List (κ × V)} {as bs : List (κ × AV)}, AKs W vs as → AKs W us bs → AKs W (vs ++ us) (as ++ bs)
  | _, _, _, _, .nil, s => s
  | _, _, _, _, .cons h r, s => .cons h (AKs.app r s)
theorem AKs.put {κ : Type} [DecidableEq κ] {W : Wd} {k : κ} {v : V} {a : AV} {vs : List (κ × V)} {as : List (κ × AV)} (r : AKs W vs as) (ra : AVR W v a) : AKs W (putK vs k v) (VL.put as k a) := by
  unfold putK VL.put
  rw [r.any k]
  by_cases e : (as.any fun kv => decide (kv.1 = k)) = true
  · rw [if_pos e, if_pos e]; exact r.repl k ra
  · rw [if_neg e, if_neg e]; exact r.app (.cons ra .nil)
theorem AKs.len {κ : Type} {W : Wd} : ∀ {vs : List (κ × V)} {as : List (κ × AV)}, AKs W vs as → vs.length = as.length
  | _, _, .nil => rfl
  | _, _, .cons _ r => by simp [AKs.len r]
def merge (kvs more : List (Key × AV)) : List (Key × AV) := more.foldl (fun acc kv => put acc kv.1 kv.2) kvs
theorem AKs.merge {W : Wd} : ∀ (bs : List (Key × AV)) (ms : List (Key × V)) (vs : List (Key × V)) (as : List (Key × AV)), AKs W ms bs → AKs W vs as → AKs W (mergeK vs ms) (VL.merge as bs)
  | [], _, _, _, .nil, r => r
  | (k, a) :: bs, _, vs, as, .cons (v := v) (vs := ms) h r, q => by
    show AKs W (mergeK (putK vs k v) ms) (VL.merge (VL.put as k a) bs)
    exact AKs.merge bs ms _ _ r (q.put h)
/-- the pairs of a display -/
abbrev PDen := Den (List (AV × AV))
def dpNil : PDen := fun _ S => .ok [] S
def dpCons (k v : Den AV) (r : PDen) : PDen := fun ρ S => (k ρ S).bind fun a S1 => (v ρ S1).bind fun b S2 => (r ρ S2).bind fun ps S3 => .ok ((a, b) :: ps) S3
inductive VP (X : Cx) (Wx : WX) (pos : Pos) : List (Option Expr) → List Expr → PDen → Prop
  | nil : VP X Wx pos [] [] dpNil
  | cons {k v : Expr} {ks : List (Option Expr)} {vs : List Expr} {fk fv : Den AV} {r : PDen} : VE X Wx k fk → VE X Wx v fv → VP X Wx pos ks vs r → VP X Wx pos (some k :: ks) (v :: vs) (dpCons fk fv r)
inductive APs (W : Wd) : List (V × V) → List (AV × AV) → Prop
  | nil : APs W [] []
  | cons {x y : V} {a b : AV} {vs : List (V × V)} {as : List (AV × AV)} : AVR W x a → AVR W y b → APs W vs as → APs W ((x, y) :: vs) ((a, b) :: as)
theorem VP.run {keys : List (Option Expr)} {values : List Expr} {f : PDen} (h : VP X Wx pos keys values f) : ∃ trs, PPs X pos keys values trs ∧
    ∀ σ H Q W ρ S, Rel W S H → EnvR W ρ σ → GoP Wx W σ H (f ρ S) (fun ps _ W' H' => ∀ vs, APs W' vs ps → Q vs H') → tPairs trs σ H Q := by
  induction h with
  | nil => exact ⟨[], pps_nil, fun σ H Q W ρ S r en g => g.here r _ .nil⟩
  | @cons k v ks vs fk fv r hk hv _ ih =>
    obtain ⟨trs, h1, h2⟩ := ih
    refine ⟨(TV Wx fk, TV Wx fv) :: trs, pps_cons hk.pe hv.pe h1, fun σ H Q W ρ S rl en g => ?_⟩
    show TV Wx fk σ H fun x H1 => TV Wx fv σ H1 fun y H2 => tPairs trs σ H2 fun ps H3 => Q ((x, y) :: ps) H3
    refine tv_seq rl en g fun a S1 W1 H1 x s1 r1 e1 ra g1 => ?_
    refine tv_seq r1 e1 g1 fun b S2 W2 H2 y s2 r2 e2 rb g2 => ?_
    refine h2 σ H2 _ W2 ρ S2 r2 e2 (g2.split.imp fun ps S3 W3 H3 s3 r3 g3 vs rs => ?_)
    exact g3.here r3 _ (.cons ((ra.step s2).step s3) (rb.step s3) rs)
/-- all keys ints and texts -/
def keyed : List (AV × AV) → Option (List (Key × AV))
  | [] => some []
  | (.val d, b) :: r => (match keyOf d, keyed r with
    | some k, some ks => some ((k, b) :: ks)
    | _, _ => none)
  | _ :: _ => none
theorem keyed_ok {W : Wd} : ∀ {ps : List (AV × AV)} {vs : List (V × V)} {ks : List (Key × AV)}, APs W vs ps → keyed ps = some ks → ∃ us : List (Key × V), vs = us.map (fun kv => (kV kv.1, kv.2)) ∧ AKs W us ks
  | [], _, ks, .nil, h => by cases h; exact ⟨[], rfl, .nil⟩
  | (.val d, b) :: r, _, ks, .cons (x := x) (y := y) ra rb rs, h => by
    unfold keyed at h
    cases e1 : keyOf d with
    | none => rw [e1] at h; cases h
    | some k =>
      cases e2 : keyed r with
      | none => rw [e1, e2] at h; cases h
      | some kr =>
        rw [e1, e2] at h
        cases h
        obtain ⟨us, e3, q⟩ := keyed_ok rs e2
        exact ⟨(k, y) :: us, by rw [e3, rep_key ra e1]; rfl, .cons rb q⟩
  | (.cell _, b) :: r, _, ks, _, h => by cases h
  | (.hot, b) :: r, _, ks, _, h => by cases h
def dDic (f : PDen) : Den AV := fun ρ S => (f ρ S).bind fun ps S1 => match keyed ps with
  | some ks => if ks.length ≤ 15 then .ok (.cell S1.length) (S1 ++ [.dK (merge [] ks)]) else .stuck
  | none => .stuck
theorem ve_dic {keys : List (Option Expr)} {values : List Expr} {f : PDen} (h : VP X Wx pos keys values f) (hall : keys.all (·.isSome) = true := by rfl) (hl : keys.length = values.length := by rfl) (h0 : keys ≠ [] := by intro z; cases z)
    (h15 : keys.length ≤ 15 := by decide) : VE X Wx (.Dict keys values pos) (dDic f) := by
  obtain ⟨trs, h1, h2⟩ := h.run
  refine .of (pe_disp h1 hall hl h0 h15) fun σ H Q W ρ S rl en g => fun p hp => ?_
  have st := Step.temp (W := W) (o := HO.dK []) hp
  have r0 := rl.temp (o := HO.dK []) hp
  obtain ⟨hF0, hl0⟩ := rl.fresh hp
  have g' : GoP Wx W σ H ((f ρ S).bind fun ps S1 => match keyed ps with
    | some ks => if ks.length ≤ 15 then .ok (.cell S1.length) (S1 ++ [.dK (merge [] ks)]) else .stuck
    | none => .stuck) (QV Q) := g
  refine h2 σ _ _ W ρ S r0 (en.step st) ((GoP.step st g'.split0).imp fun ps S1 W1 H1 s1 r1 k vs rs => ?_)
  obtain ⟨hp1, hF1, hl1⟩ := s1.stays upd_same hl0 hF0 r1 (fun xs z => by cases z)
  refine ⟨hp1, ?_⟩
  cases ek : keyed ps with
  | none => simp only [ek] at k; exact k.elim
  | some ks =>
    simp only [ek] at k
    obtain ⟨us, e1, q⟩ := keyed_ok rs ek
    by_cases hk : ks.length ≤ 15
    · rw [if_pos hk] at k
      refine ⟨us, e1, by rw [q.len]; exact hk, ?_⟩
      have qm : AKs W1 (mergeK [] us) (VL.merge [] ks) := AKs.merge _ _ _ _ q .nil
      have r2 := r1.cell (o := .dK (mergeK [] us)) (c := .dK (VL.merge [] ks)) hF1 hl1 ⟨hF1, _, upd_same, qm.mono⟩
      refine k _ _ (Step.cell (st.trans s1) hp) r2 _ ⟨p, ?_, rfl⟩
      show (W1.loc ++ [p])[S1.length]? = some p
      rw [← r1.len, List.getElem?_append_right (Nat.le_refl _)]
      simp
    · rw [if_neg hk] at k; exact k.elim
end
end VL

namespace VL
open PySem PySem.Spec PyProof.Rows L2

def CallS (r : List V → Hp → VK → Prop) (o : List AV → Store → Out AV) : Prop := ∀ (Wx : WX) (W : Wd) (S : Store) (H : Hp) (σ : L2.St) (vs : List V) (as : List AV) (Q : VK), Rel W S H → AVs W vs as → GoP Wx W σ H (o as S) (QV Q) → r vs H Q
def dCB (o : List AV → Store → Out AV) (g : Den (List AV)) : Den AV := fun ρ S => (g ρ S).bind fun as S1 => o as S1
section
variable {X : Cx} {Wx : WX} {x : Str} {p pos : Pos} {e : Expr} {es : List Expr} {g : Den (List AV)} {id T : String} {r : List V → Hp → VK → Prop} {o : List AV → Store → Out AV}
theorem ve_callB (hc : CallR X (.builtin id) r) (hs : CallS r o) (hm : X.mg x = none) (ha : VA X Wx (e :: es) g) (hv : bootBuiltins x = some (.builtin id) := by decide +kernel) (hg : Gl X x := by rfl) (hn : x ≠ "__name__" := by decide) (hdb : (x == ("__debug__" : Str)) = false := by decide)
    (he : starEach (e :: es) X.env = (false, eval e X.env) :: starEach es X.env := by rfl) (hpl : (backTo pos (starEach es X.env)).any (·.1) = false := by rfl) : VE X Wx (.Call (.Name x p) (e :: es) [] pos) (dCB o g) :=
  .of (pe_callB hc hg hm hv ha.pa hn hdb he hpl) fun σ H Q W ρ S rl en h => tva_seq rl en h fun as S1 W1 H1 vs s1 r1 e1 ra h1 => hs Wx W1 S1 H1 σ vs as Q r1 ra h1
theorem ve_callT (hc : CallR X (.type T) r) (hs : CallS r o) (hm : X.mg x = none) (ha : VA X Wx (e :: es) g) (hv : bootBuiltins x = some (.type T) := by decide +kernel) (hg : Gl X x := by rfl) (hn : x ≠ "__name__" := by decide) (hdb : (x == ("__debug__" : Str)) = false := by decide)
    (he : starEach (e :: es) X.env = (false, eval e X.env) :: starEach es X.env := by rfl) (hpl : (backTo pos (starEach es X.env)).any (·.1) = false := by rfl) : VE X Wx (.Call (.Name x p) (e :: es) [] pos) (dCB o g) :=
  .of (pe_callTy hc hg hm hv ha.pa hn hdb he hpl) fun σ H Q W ρ S rl en h => tva_seq rl en h fun as S1 W1 H1 vs s1 r1 e1 ra h1 => hs Wx W1 S1 H1 σ vs as Q r1 ra h1
theorem avs1 {W : Wd} {vs : List V} {a : AV} (h : AVs W vs [a]) : ∃ v, vs = [v] ∧ AVR W v a := by
  cases h with
  | cons h r => cases r; exact ⟨_, rfl, h⟩
theorem avs2 {W : Wd} {vs : List V} {a b : AV} (h : AVs W vs [a, b]) : ∃ v u, vs = [v, u] ∧ AVR W v a ∧ AVR W u b := by
  cases h with
  | cons h r => obtain ⟨u, e, h2⟩ := avs1 r; subst e; exact ⟨_, _, rfl, h, h2⟩
def oLen : List AV → Store → Out AV := fun as S => match as with
  | [.val (.str x)] => if x.length ≤ sizeLine then .ok (.val (.int x.length)) S else .stuck
  | [.val (.tup ds)] => .ok (.val (.int ds.length)) S
  | [a] => (match lstItems S a with
    | some xs => .ok (.val (.int xs.length)) S
    | none => (match dicOf S a with
      | some (.k kvs) => .ok (.val (.int kvs.length)) S
      | _ => .stuck))
  | _ => .stuck
abbrev rLenAll (K : PySem.W.Frag) : List V → Hp → VK → Prop := fun xs H Q => (∃ x n, xs = [x] ∧ LenV K x H n ∧ Q (.int n) H) ∨ ∃ a kvs, xs = [.ref a] ∧ Rd H a (.dK kvs) ∧ Q (.int kvs.length) H
theorem call_lenX : CallR X (.builtin "len") (rLenAll X.K) := by
  refine CallR.or call_len ?_
  intro pins s σ H xs us Q I r ⟨a, kvs, e, hd, q⟩
  subst e
  obtain ⟨u, rfl, ru⟩ := r.one
  obtain rfl : u = Value.ref a := ru
  exact d_len I hd fun t s' I' => ⟨.int kvs.length, H, I', ⟨t, rfl⟩, q⟩
theorem oLen_S (K : PySem.W.Frag) : CallS (rLenAll K) oLen := by
  intro Wx W S H σ vs as Q r ra h
  unfold oLen at h
  split at h
  · rename_i x
    obtain ⟨v, rfl, rv⟩ := avs1 ra
    by_cases e : x.length ≤ sizeLine
    · rw [if_pos e] at h; rw [avr_str rv]; exact .inl ⟨_, _, rfl, ⟨e, rfl⟩, h.here r _ .int⟩
    · rw [if_neg e] at h; exact h.elim
  · rename_i ds
    obtain ⟨v, rfl, rv⟩ := avs1 ra
    obtain ⟨p, us, e, hp, rs⟩ := rep_tup rv
    subst e
    refine .inl ⟨_, _, rfl, .inr ⟨us, SqT.of (r.sub _ _ hp), rfl⟩, ?_⟩
    rw [rs.len]
    exact h.here r _ .int
  · rename_i a hz1 hz2
    obtain ⟨v, rfl, rv⟩ := avs1 ra
    cases ea : lstItems S a with
    | some xs =>
      simp only [ea] at h
      obtain ⟨p, us, e, hp, _, rs⟩ := lst_at r rv ea
      subst e
      refine .inl ⟨_, _, rfl, .inl ⟨us, .inl hp, rfl⟩, ?_⟩
      rw [rs.len]
      exact h.here r _ .int
    | none =>
      simp only [ea] at h
      cases ed : dicOf S a with
      | none => simp only [ed] at h; exact h.elim
      | some dv =>
        cases dv with
        | t kvs => simp only [ed] at h; exact h.elim
        | k kvs =>
          simp only [ed] at h
          obtain ⟨p, e, ws, hd, rs⟩ := dic_at r rv ed
          subst e
          refine .inr ⟨p, ws, rfl, hd, ?_⟩
          rw [rs.len]
          exact h.here r _ .int
  · exact h.elim
abbrev dLen : Den (List AV) → Den AV := dCB oLen
theorem ve_len (hm : X.mg "len" = none) (ha : VA X Wx (e :: es) g) (hg : Gl X "len" := by rfl) (he : starEach (e :: es) X.env = (false, eval e X.env) :: starEach es X.env := by rfl) (hpl : (backTo pos (starEach es X.env)).any (·.1) = false := by rfl) :
    VE X Wx (.Call (.Name "len" p) (e :: es) [] pos) (dLen g) := ve_callB call_lenX (oLen_S X.K) hm ha PySem.boot_len hg (by decide) (by decide) he hpl
def oInt : List AV → Store → Out AV := fun as S => match as with
  | [.val (.int i)] => .ok (.val (.int i)) S
  | _ => .stuck
theorem oInt_S : CallS (fun xs H Q => (∃ i, xs = [.int i] ∧ Q (.int i) H) ∨ ∃ k, xs = [.bl k] ∧ Q (.int (if k then 1 else 0)) H) oInt := by
  intro Wx W S H σ vs as Q r ra h
  unfold oInt at h
  split at h
  · obtain ⟨v, rfl, rv⟩ := avs1 ra
    rw [avr_int rv]
    exact .inl ⟨_, rfl, h.here r _ .int⟩
  · exact h.elim
abbrev dInt : Den (List AV) → Den AV := dCB oInt
theorem ve_callInt (hm : X.mg "int" = none) (ha : VA X Wx (e :: es) g) (hg : Gl X "int" := by rfl) (he : starEach (e :: es) X.env = (false, eval e X.env) :: starEach es X.env := by rfl) (hpl : (backTo pos (starEach es X.env)).any (·.1) = false := by rfl) :
    VE X Wx (.Call (.Name "int" p) (e :: es) [] pos) (dInt g) := ve_callT call_int1 oInt_S hm ha boot_int hg (by decide) (by decide) he hpl
def oAbs : List AV → Store → Out AV := fun as S => match as with
  | [.val (.int i)] => .ok (.val (.int (if i < 0 then -i else i))) S
  | _ => .stuck
theorem oAbs_S : CallS (fun xs H Q => ∃ i, xs = [.int i] ∧ Q (.int (if i < 0 then -i else i)) H) oAbs := by
  intro Wx W S H σ vs as Q r ra h
  unfold oAbs at h
  split at h
  · obtain ⟨v, rfl, rv⟩ := avs1 ra
    rw [avr_int rv]
    exact ⟨_, rfl, h.here r _ .int⟩
  · exact h.elim
abbrev dAbs : Den (List AV) → Den AV := dCB oAbs
theorem ve_abs (hm : X.mg "abs" = none) (ha : VA X Wx (e :: es) g) (hg : Gl X "abs" := by rfl) (he : starEach (e :: es) X.env = (false, eval e X.env) :: starEach es X.env := by rfl) (hpl : (backTo pos (starEach es X.env)).any (·.1) = false := by rfl) :
    VE X Wx (.Call (.Name "abs" p) (e :: es) [] pos) (dAbs g) := ve_callB call_abs oAbs_S hm ha boot_abs hg (by decide) (by decide) he hpl
def oStr : List AV → Store → Out AV := fun as S => match as with
  | [.val (.int i)] => if i.natAbs.log2 < 1920 then .ok (.val (.str (toString i))) S else .stuck
  | _ => .stuck
theorem oStr_S : CallS (fun xs H Q => ∃ i, xs = [.int i] ∧ i.natAbs.log2 < 1920 ∧ Q (.str (toString i)) H) oStr := by
  intro Wx W S H σ vs as Q r ra h
  unfold oStr at h
  split at h
  · rename_i i
    obtain ⟨v, rfl, rv⟩ := avs1 ra
    rw [avr_int rv]
    by_cases e : i.natAbs.log2 < 1920
    · rw [if_pos e] at h; exact ⟨_, rfl, e, h.here r _ .str⟩
    · rw [if_neg e] at h; exact h.elim
  · exact h.elim
abbrev dStr : Den (List AV) → Den AV := dCB oStr
theorem ve_callStr (hm : X.mg "str" = none) (ha : VA X Wx (e :: es) g) (hg : Gl X "str" := by rfl) (he : starEach (e :: es) X.env = (false, eval e X.env) :: starEach es X.env := by rfl) (hpl : (backTo pos (starEach es X.env)).any (·.1) = false := by rfl) :
    VE X Wx (.Call (.Name "str" p) (e :: es) [] pos) (dStr g) := ve_callT call_str_int oStr_S hm ha boot_str hg (by decide) (by decide) he hpl
def seqItems (S : Store) (a : AV) : Option (List AV) := match lstItems S a with
  | some xs => some xs
  | none => tupItems a
theorem seq_at {W : Wd} {S : Store} {H : Hp} {v : V} {a : AV} {as : List AV} (K : PySem.W.Frag) (r : Rel W S H) (ra : AVR W v a) (h : seqItems S a = some as) : ∃ q vs, v = .ref q ∧ (SqL K H q vs ∨ SqT K H q vs) ∧ AVs W vs as := by
  unfold seqItems at h
  cases e : lstItems S a with
  | some xs =>
    rw [e] at h; cases h
    obtain ⟨q, vs, e1, h1, _, h2⟩ := lst_at r ra e
    exact ⟨q, vs, e1, .inl (.inl h1), h2⟩
  | none =>
    rw [e] at h
    obtain ⟨q, vs, e1, h1, h2⟩ := tup_at K r ra h
    exact ⟨q, vs, e1, .inr h1, h2⟩
def oList : List AV → Store → Out AV := fun as S => match as with
  | [a] => (match seqItems S a with
    | some xs => (match valsOf xs with
      | some ds => .ok (.val (.lst ds)) S
      | none => .stuck)
    | none => .stuck)
  | _ => .stuck
abbrev rListOf (K : PySem.W.Frag) : List V → Hp → VK → Prop := fun xs H Q => ∃ p ys, xs = [.ref p] ∧ (SqL K H p ys ∨ SqT K H p ys) ∧ ∀ l, H l = none → Q (.ref l) (upd H l (.lst ys))
theorem oList_S (K : PySem.W.Frag) : CallS (rListOf K) oList := by
  intro Wx W S H σ vs as Q r ra h
  unfold oList at h
  split at h
  · rename_i a
    obtain ⟨v, rfl, rv⟩ := avs1 ra
    cases ea : seqItems S a with
    | none => simp only [ea] at h; exact h.elim
    | some xs =>
      simp only [ea] at h
      cases ev : valsOf xs with
      | none => simp only [ev] at h; exact h.elim
      | some ds =>
        simp only [ev] at h
        have z := valsOf_eq ev
        subst z
        obtain ⟨q, us, e1, h1, h2⟩ := seq_at K r rv ea
        subst e1
        exact ⟨q, us, rfl, h1, new_lst r h2.toReps h⟩
  · exact h.elim
def oListC : List AV → Store → Out AV := fun as S => match as with
  | [a] => (match seqItems S a with
    | some xs => .ok (.cell S.length) (S ++ [.lst xs])
    | none => .stuck)
  | _ => .stuck
theorem oListC_S (K : PySem.W.Frag) : CallS (rListOf K) oListC := by
  intro Wx W S H σ vs as Q r ra h
  unfold oListC at h
  split at h
  · rename_i a
    obtain ⟨v, rfl, rv⟩ := avs1 ra
    cases ea : seqItems S a with
    | none => simp only [ea] at h; exact h.elim
    | some xs =>
      simp only [ea] at h
      obtain ⟨q, us, e1, h1, h2⟩ := seq_at K r rv ea
      subst e1
      exact ⟨q, us, rfl, h1, new_cell r h2 h⟩
  · exact h.elim
abbrev dList : Den (List AV) → Den AV := dCB oList
abbrev dListC : Den (List AV) → Den AV := dCB oListC
theorem ve_list (hm : X.mg "list" = none) (ha : VA X Wx (e :: es) g) (hg : Gl X "list" := by rfl) (he : starEach (e :: es) X.env = (false, eval e X.env) :: starEach es X.env := by rfl) (hpl : (backTo pos (starEach es X.env)).any (·.1) = false := by rfl) :
    VE X Wx (.Call (.Name "list" p) (e :: es) [] pos) (dList g) := ve_callT call_list_of (oList_S X.K) hm ha boot_list hg (by decide) (by decide) he hpl
theorem ve_listC (hm : X.mg "list" = none) (ha : VA X Wx (e :: es) g) (hg : Gl X "list" := by rfl) (he : starEach (e :: es) X.env = (false, eval e X.env) :: starEach es X.env := by rfl) (hpl : (backTo pos (starEach es X.env)).any (·.1) = false := by rfl) :
    VE X Wx (.Call (.Name "list" p) (e :: es) [] pos) (dListC g) := ve_callT call_list_of (oListC_S X.K) hm ha boot_list hg (by decide) (by decide) he hpl
def oTuple : List AV → Store → Out AV := fun as S => match as with
  | [.val (.tup ds)] => .ok (.val (.tup ds)) S
  | [a] => (match lstItems S a with
    | some xs => (match valsOf xs with
      | some ds => .ok (.val (.tup ds)) S
      | none => .stuck)
    | none => .stuck)
  | _ => .stuck
abbrev rTupleOf (K : PySem.W.Frag) : List V → Hp → VK → Prop := fun xs H Q => ∃ p ys, xs = [.ref p] ∧ ((SqL K H p ys ∧ ∀ l, H l = none → Q (.ref l) (upd H l (.tup ys))) ∨ (SqT K H p ys ∧ Q (.ref p) H))
theorem oTuple_S (K : PySem.W.Frag) : CallS (rTupleOf K) oTuple := by
  intro Wx W S H σ vs as Q r ra h
  unfold oTuple at h
  split at h
  · obtain ⟨v, rfl, rv⟩ := avs1 ra
    have q := h.here r v rv
    obtain ⟨p, us, e, hp, rs⟩ := rep_tup rv
    subst e
    exact ⟨p, us, rfl, .inr ⟨SqT.of (r.sub _ _ hp), q⟩⟩
  · rename_i a hz
    obtain ⟨v, rfl, rv⟩ := avs1 ra
    cases ea : lstItems S a with
    | none => simp only [ea] at h; exact h.elim
    | some xs =>
      simp only [ea] at h
      cases ev : valsOf xs with
      | none => simp only [ev] at h; exact h.elim
      | some ds =>
        simp only [ev] at h
        have z := valsOf_eq ev
        subst z
        obtain ⟨q, us, e1, h1, _, h2⟩ := lst_at r rv ea
        subst e1
        exact ⟨q, us, rfl, .inl ⟨.inl h1, new_tup r h2.toReps h⟩⟩
  · exact h.elim
abbrev dTuple : Den (List AV) → Den AV := dCB oTuple
theorem ve_tuple (hm : X.mg "tuple" = none) (ha : VA X Wx (e :: es) g) (hg : Gl X "tuple" := by rfl) (he : starEach (e :: es) X.env = (false, eval e X.env) :: starEach es X.env := by rfl) (hpl : (backTo pos (starEach es X.env)).any (·.1) = false := by rfl) :
    VE X Wx (.Call (.Name "tuple" p) (e :: es) [] pos) (dTuple g) := ve_callT call_tuple_of (oTuple_S X.K) hm ha boot_tuple hg (by decide) (by decide) he hpl
def bools : List AV → Option (List Bool)
  | [] => some []
  | .val (.bl b) :: r => (bools r).map (b :: ·)
  | _ :: _ => none
@[simp] theorem bools_map : ∀ bs : List Bool, bools (bs.map fun b => .val (.bl b)) = some bs
  | [] => rfl
  | b :: bs => by simp [bools, bools_map bs]
theorem bools_ok {W : Wd} : ∀ {as : List AV} {vs : List V} {bs : List Bool}, AVs W vs as → bools as = some bs → vs = bs.map V.bl
  | [], _, _, .nil, h => by cases h; rfl
  | .val d :: r, _, bs, .cons ra rs, h => by
    cases d with
    | bl b =>
      unfold bools at h
      cases e : bools r with
      | none => rw [e] at h; cases h
      | some cs => rw [e] at h; cases h; rw [bools_ok rs e, avr_bl ra]; rfl
    | _ => cases h
  | .cell _ :: r, _, _, _, h => by cases h
  | .hot :: r, _, _, _, h => by cases h
def oAll (any : Bool) : List AV → Store → Out AV := fun as S => match as with
  | [a] => (match lstItems S a with
    | some xs => (match bools xs with
      | some bs => .ok (.val (.bl (if any then bs.any _root_.id else bs.all _root_.id))) S
      | none => .stuck)
    | none => .stuck)
  | _ => .stuck
theorem oAll_S (K : PySem.W.Frag) : CallS (rAll K) (oAll false) := by
  intro Wx W S H σ vs as Q r ra h
  unfold oAll at h
  split at h
  · rename_i a
    obtain ⟨v, rfl, rv⟩ := avs1 ra
    cases ea : lstItems S a with
    | none => simp only [ea] at h; exact h.elim
    | some xs =>
      simp only [ea] at h
      cases ev : bools xs with
      | none => simp only [ev] at h; exact h.elim
      | some bs =>
        simp only [ev] at h
        obtain ⟨q, us, e1, h1, _, h2⟩ := lst_at r rv ea
        have z := bools_ok h2 ev
        subst e1
        subst z
        exact ⟨q, bs, rfl, .inl h1, h.here r _ .bl⟩
  · exact h.elim
theorem oAny_S (K : PySem.W.Frag) : CallS (rAny K) (oAll true) := by
  intro Wx W S H σ vs as Q r ra h
  unfold oAll at h
  split at h
  · rename_i a
    obtain ⟨v, rfl, rv⟩ := avs1 ra
    cases ea : lstItems S a with
    | none => simp only [ea] at h; exact h.elim
    | some xs =>
      simp only [ea] at h
      cases ev : bools xs with
      | none => simp only [ev] at h; exact h.elim
      | some bs =>
        simp only [ev] at h
        obtain ⟨q, us, e1, h1, _, h2⟩ := lst_at r rv ea
        have z := bools_ok h2 ev
        subst e1
        subst z
        exact ⟨q, bs, rfl, .inl h1, h.here r _ .bl⟩
  · exact h.elim
abbrev dAll : Den (List AV) → Den AV := dCB (oAll false)
abbrev dAny : Den (List AV) → Den AV := dCB (oAll true)
theorem ve_all (hcm : X.calm = true) (hm : X.mg "all" = none) (ha : VA X Wx (e :: es) g) (hg : Gl X "all" := by rfl) (he : starEach (e :: es) X.env = (false, eval e X.env) :: starEach es X.env := by rfl) (hpl : (backTo pos (starEach es X.env)).any (·.1) = false := by rfl) :
    VE X Wx (.Call (.Name "all" p) (e :: es) [] pos) (dAll g) := ve_callB (cr_all hcm) (oAll_S X.K) hm ha (by decide +kernel) hg (by decide) (by decide) he hpl
theorem ve_any (hcm : X.calm = true) (hm : X.mg "any" = none) (ha : VA X Wx (e :: es) g) (hg : Gl X "any" := by rfl) (he : starEach (e :: es) X.env = (false, eval e X.env) :: starEach es X.env := by rfl) (hpl : (backTo pos (starEach es X.env)).any (·.1) = false := by rfl) :
    VE X Wx (.Call (.Name "any" p) (e :: es) [] pos) (dAny g) := ve_callB (cr_any hcm) (oAny_S X.K) hm ha (by decide +kernel) hg (by decide) (by decide) he hpl
def oMin2 (mx : Bool) : List AV → Store → Out AV := fun as S => match as with
  | [.val (.int i), .val (.int j)] => .ok (.val (.int (if mx then (if j > i then j else i) else (if j < i then j else i)))) S
  | _ => .stuck
theorem oMax2_S : CallS (fun xs H Q => ∃ i j, xs = [.int i, .int j] ∧ Q (.int (if j > i then j else i)) H) (oMin2 true) := by
  intro Wx W S H σ vs as Q r ra h
  unfold oMin2 at h
  split at h
  · obtain ⟨v, u, rfl, rv, ru⟩ := avs2 ra
    rw [avr_int rv, avr_int ru]
    exact ⟨_, _, rfl, h.here r _ .int⟩
  · exact h.elim
theorem oMin2_S : CallS (fun xs H Q => ∃ i j, xs = [.int i, .int j] ∧ Q (.int (if j < i then j else i)) H) (oMin2 false) := by
  intro Wx W S H σ vs as Q r ra h
  unfold oMin2 at h
  split at h
  · obtain ⟨v, u, rfl, rv, ru⟩ := avs2 ra
    rw [avr_int rv, avr_int ru]
    exact ⟨_, _, rfl, h.here r _ .int⟩
  · exact h.elim
abbrev dMin2 : Den (List AV) → Den AV := dCB (oMin2 false)
abbrev dMax2 : Den (List AV) → Den AV := dCB (oMin2 true)
theorem ve_min2 (hcm : X.calm = true) (hm : X.mg "min" = none) (ha : VA X Wx (e :: es) g) (hg : Gl X "min" := by rfl) (he : starEach (e :: es) X.env = (false, eval e X.env) :: starEach es X.env := by rfl) (hpl : (backTo pos (starEach es X.env)).any (·.1) = false := by rfl) :
    VE X Wx (.Call (.Name "min" p) (e :: es) [] pos) (dMin2 g) := ve_callB (call_min2 hcm) oMin2_S hm ha (by decide +kernel) hg (by decide) (by decide) he hpl
theorem ve_max2 (hcm : X.calm = true) (hm : X.mg "max" = none) (ha : VA X Wx (e :: es) g) (hg : Gl X "max" := by rfl) (he : starEach (e :: es) X.env = (false, eval e X.env) :: starEach es X.env := by rfl) (hpl : (backTo pos (starEach es X.env)).any (·.1) = false := by rfl) :
    VE X Wx (.Call (.Name "max" p) (e :: es) [] pos) (dMax2 g) := ve_callB (call_max2 hcm) oMax2_S hm ha (by decide +kernel) hg (by decide) (by decide) he hpl
end

def MtS (r : V → List V → Hp → VK → Prop) (o : AV → List AV → Store → Out AV) : Prop := ∀ (Wx : WX) (W : Wd) (S : Store) (H : Hp) (σ : L2.St) (x : V) (a : AV) (vs : List V) (as : List AV) (Q : VK), Rel W S H → AVR W x a → AVs W vs as → GoP Wx W σ H (o a as S) (QV Q) → r x vs H Q
/-- few arguments, no star among them -/
abbrev fewA (p : Pos) (as : List Expr) (X : Cx) : Bool :=
  (backTo p (starEach as X.env)).all (fun a => !a.1)
    && (backToKw p (keywordEach [] X.env)).all (fun a => a.1.isSome)
    && decide (as.length + ([] : List Keyword).length + (if ([] : List Keyword).isEmpty then 0 else 1) < 30)
def isLst (a : AV) (S : Store) : Bool := (lstItems S a).isSome
def dBM (isT : AV → Store → Bool) (o : AV → List AV → Store → Out AV) (f : Den AV) (g : Den (List AV)) : Den AV := fun ρ S => (f ρ S).bind fun x S1 => if isT x S1 then (g ρ S1).bind fun ys S2 => o x ys S2 else .stuck
def dBM0 (isT : AV → Store → Bool) (o : AV → List AV → Store → Out AV) (f : Den AV) : Den AV := fun ρ S => (f ρ S).bind fun x S1 => if isT x S1 then o x [] S1 else .stuck
section
variable {X : Cx} {Wx : WX} {ob e : Expr} {es : List Expr} {f : Den AV} {g : Den (List AV)} {name : Str} {apos cpos : Pos} {T id : String} {r : V → List V → Hp → VK → Prop} {o : AV → List AV → Store → Out AV} {isT : AV → Store → Bool}
theorem ve_bm (pa : PlainAttrs T) (slot : Slot T name id) (hty : typeOf (.builtin id) = pure (.type "method_descriptor")) (hm : MtR X id r) (ht : ∀ W S H x a, Rel W S H → AVR W x a → isT a S = true → tyV X.K T x H) (hs : MtS r o) (ho : VE X Wx ob f) (ha : VA X Wx (e :: es) g)
    (hbase : attributeBase ob name X.env (eval ob X.env) = eval ob X.env)
    (hfew : fewA cpos (e :: es) X = true)
    (hline : (apos.endLine == cpos.line) = true) (hst : starEach (e :: es) X.env = (false, eval e X.env) :: starEach es X.env) (hplain : (backTo cpos (starEach es X.env)).any (·.1) = false) :
    VE X Wx (.Call (.Attribute ob name apos) (e :: es) [] cpos) (dBM isT o f g) :=
  .of (pe_bm pa slot hty hm ho.pe ha.pa hbase hfew hline hst hplain) fun σ H Q W ρ S rl en h => tv_seq rl en h fun a S1 W1 H1 v s1 r1 e1 ra h1 => by
    cases et : isT a S1 with
    | false => rw [if_neg (by rw [et]; exact Bool.false_ne_true)] at h1; exact h1.elim
    | true =>
      rw [if_pos et] at h1
      exact ⟨ht W1 S1 H1 v a r1 ra et, tva_seq r1 e1 h1 fun as S2 W2 H2 vs s2 r2 e2 rs h2 => hs Wx W2 S2 H2 σ v a vs as Q r2 (ra.step s2) rs h2⟩
theorem ve_bm0 (pa : PlainAttrs T) (slot : Slot T name id) (hty : typeOf (.builtin id) = pure (.type "method_descriptor")) (hm : MtR X id r) (ht : ∀ W S H x a, Rel W S H → AVR W x a → isT a S = true → tyV X.K T x H) (hs : MtS r o) (ho : VE X Wx ob f)
    (hbase : attributeBase ob name X.env (eval ob X.env) = eval ob X.env) (hline : (apos.endLine == cpos.line) = true) : VE X Wx (.Call (.Attribute ob name apos) [] [] cpos) (dBM0 isT o f) :=
  .of (pe_bm0 pa slot hty hm ho.pe hbase hline) fun σ H Q W ρ S rl en h => tv_seq rl en h fun a S1 W1 H1 v s1 r1 e1 ra h1 => by
    cases et : isT a S1 with
    | false => rw [if_neg (by rw [et]; exact Bool.false_ne_true)] at h1; exact h1.elim
    | true =>
      rw [if_pos et] at h1
      exact ⟨ht W1 S1 H1 v a r1 ra et, hs Wx W1 S1 H1 σ v a [] [] Q r1 ra .nil h1⟩
theorem ty_lst (K : PySem.W.Frag) (W : Wd) (S : Store) (H : Hp) (x : V) (a : AV) (r : Rel W S H) (ra : AVR W x a) (h : isLst a S = true) : tyV K "list" x H := by
  unfold isLst at h
  cases e : lstItems S a with
  | none => rw [e] at h; cases h
  | some xs =>
    obtain ⟨p, vs, e1, h1, _, _⟩ := lst_at r ra e
    subst e1
    exact .inl ⟨rfl, vs, .inl h1⟩
def oAppend : AV → List AV → Store → Out AV := fun a as S => match a, as with
  | .cell i, [b] => (match S[i]? with
    | some (.lst xs) => if xs.length < sizeLine then .ok (.val .non) (S.set i (.lst (xs ++ [b]))) else .stuck
    | _ => .stuck)
  | _, _ => .stuck
theorem oAppend_S : MtS rAppend oAppend := by
  intro Wx W S H σ x a vs as Q r ra rs h
  unfold oAppend at h
  split at h
  · rename_i i b
    obtain ⟨v, rfl, rv⟩ := avs1 rs
    split at h
    · rename_i xs hi
      obtain ⟨p, hp, e⟩ := ra
      subst e
      by_cases hl : xs.length < sizeLine
      · rw [if_pos hl] at h
        obtain ⟨n, us, h1, h2⟩ := r.ok i _ p hi hp
        obtain ⟨r', s'⟩ := r.put (o := .lst (us ++ [v])) (c := .lst (xs ++ [b])) hp n ⟨n, _, upd_same, h2.app (.cons rv .nil)⟩
        exact ⟨p, us, v, rfl, rfl, h1, by rw [h2.len]; exact hl, h _ _ s' r' _ .non⟩
      · rw [if_neg hl] at h; exact h.elim
    · exact h.elim
  · exact h.elim
abbrev dAppend : Den AV → Den (List AV) → Den AV := dBM isLst oAppend
theorem ve_append (ho : VE X Wx ob f) (ha : VA X Wx (e :: es) g) (hbase : attributeBase ob "append" X.env (eval ob X.env) = eval ob X.env := by rfl)
    (hfew : fewA cpos (e :: es) X = true := by rfl)
    (hline : (apos.endLine == cpos.line) = true := by rfl) (hst : starEach (e :: es) X.env = (false, eval e X.env) :: starEach es X.env := by rfl) (hplain : (backTo cpos (starEach es X.env)).any (·.1) = false := by rfl) :
    VE X Wx (.Call (.Attribute ob "append" apos) (e :: es) [] cpos) (dAppend f g) :=
  ve_bm PySem.F.plainAttrs_list PySem.F.slot_list_append PySem.F.type_list_append mt_append (ty_lst X.K) oAppend_S ho ha hbase hfew hline hst hplain
theorem AVs.dropLast {W : Wd} : ∀ {vs : List V} {as : List AV}, AVs W vs as → AVs W vs.dropLast as.dropLast
  | _, _, .nil => .nil
  | _, _, .cons _ .nil => .nil
  | _, _, .cons h (.cons h2 r) => .cons h (AVs.dropLast (.cons h2 r))
def oPop : AV → List AV → Store → Out AV := fun a as S => match a, as with
  | .cell i, [] => (match S[i]? with
    | some (.lst xs) => (match xs[xs.length - 1]? with
      | some b => .ok b (S.set i (.lst xs.dropLast))
      | none => .stuck)
    | _ => .stuck)
  | _, _ => .stuck
theorem oPop_S : MtS rPop oPop := by
  intro Wx W S H σ x a vs as Q r ra rs h
  unfold oPop at h
  split at h
  · rename_i i
    cases rs
    split at h
    · rename_i xs hi
      obtain ⟨p, hp, e⟩ := ra
      subst e
      split at h
      · rename_i b hb
        obtain ⟨n, us, h1, h2⟩ := r.ok i _ p hi hp
        obtain ⟨v, hv, rv⟩ := h2.get' hb
        obtain ⟨r', s'⟩ := r.put (o := .lst us.dropLast) (c := .lst xs.dropLast) hp n ⟨n, _, upd_same, h2.dropLast⟩
        exact ⟨p, us, v, rfl, rfl, h1, by rw [h2.len]; exact hv, h _ _ s' r' _ rv⟩
      · exact h.elim
    · exact h.elim
  · exact h.elim
abbrev dPop : Den AV → Den AV := dBM0 isLst oPop
theorem ve_pop (ho : VE X Wx ob f) (hbase : attributeBase ob "pop" X.env (eval ob X.env) = eval ob X.env := by rfl) (hline : (apos.endLine == cpos.line) = true := by rfl) : VE X Wx (.Call (.Attribute ob "pop" apos) [] [] cpos) (dPop f) :=
  ve_bm0 PySem.F.plainAttrs_list PySem.F.slot_list_pop PySem.F.type_list_pop mt_pop (ty_lst X.K) oPop_S ho hbase hline
def isDic (a : AV) (S : Store) : Bool := (dicOf S a).isSome
def dGet1 (f g : Den AV) : Den AV := fun ρ S => (f ρ S).bind fun x S1 => if isDic x S1 then (g ρ S1).bind fun y S2 => (match dicOf S2 x with
  | some dv => (match dfind dv y with
    | some o => .ok (o.getD (.val .non)) S2
    | none => .stuck)
  | none => .stuck) else .stuck
theorem isD_of {W : Wd} {S : Store} {H : Hp} {v : V} {a : AV} (r : Rel W S H) (ra : AVR W v a) (h : isDic a S = true) : ∃ p, v = .ref p ∧ IsD H p := by
  unfold isDic at h
  cases e : dicOf S a with
  | none => rw [e] at h; cases h
  | some dv =>
    obtain ⟨p, e1, hd⟩ := dic_at r ra e
    cases dv with
    | k kvs => obtain ⟨vs, h1, _⟩ := hd; exact ⟨p, e1, .inl ⟨vs, h1⟩⟩
    | t kvs => obtain ⟨vs, h1, _⟩ := hd; exact ⟨p, e1, .inr ⟨vs, h1⟩⟩
theorem ve_get1 (hu : X.A.units + 1 < cLine) (ho : VE X Wx ob f) {f2 : Den AV} (ha : VE X Wx e f2) (m : M1 X ob "get" apos e cpos := by exact ⟨rfl, rfl, rfl, rfl⟩) : VE X Wx (.Call (.Attribute ob "get" apos) [e] [] cpos) (dGet1 f f2) :=
  .of (pe_dget1 hu ho.pe ha.pe m) fun σ H Q W ρ S rl en h => tv_seq rl en h fun a S1 W1 H1 v s1 r1 e1 ra h1 => by
    cases et : isDic a S1 with
    | false => rw [if_neg (by rw [et]; exact Bool.false_ne_true)] at h1; exact h1.elim
    | true =>
      rw [if_pos et] at h1
      obtain ⟨p, ep, hd⟩ := isD_of r1 ra et
      refine ⟨p, ep, hd, tv_seq r1 e1 h1 fun b S2 W2 H2 y s2 r2 e2 rb h2 => ?_⟩
      cases ed : dicOf S2 a with
      | none => simp only [ed] at h2; exact h2.elim
      | some dv =>
        simp only [ed] at h2
        cases ef : dfind dv b with
        | none => simp only [ef] at h2; exact h2.elim
        | some o =>
          simp only [ef] at h2
          obtain ⟨q, eq, hq⟩ := dic_at r2 (ra.step s2) ed
          rw [ep] at eq
          cases eq
          rcases dget r2 hq rb ef with ⟨z, gg⟩ | ⟨c, w, z, gg, rw'⟩
          · subst z; exact ⟨none, gg, h2.here r2 _ .non⟩
          · subst z; exact ⟨some w, gg, h2.here r2 _ rw'⟩
def dGet2 (f g k : Den AV) : Den AV := fun ρ S => (f ρ S).bind fun x S1 => if isDic x S1 then (g ρ S1).bind fun y S2 => (k ρ S2).bind fun z S3 => (match dicOf S3 x with
  | some dv => (match dfind dv y with
    | some o => .ok (o.getD z) S3
    | none => .stuck)
  | none => .stuck) else .stuck
theorem ve_get2 (hu : X.A.units + 1 < cLine) (ho : VE X Wx ob f) {f2 f3 : Den AV} {e3 : Expr} (ha : VE X Wx e f2) (hb : VE X Wx e3 f3) (m : M2 X ob "get" apos e e3 cpos := by exact ⟨rfl, rfl, rfl, rfl⟩) : VE X Wx (.Call (.Attribute ob "get" apos) [e, e3] [] cpos) (dGet2 f f2 f3) :=
  .of (pe_dget2 hu ho.pe ha.pe hb.pe m) fun σ H Q W ρ S rl en h => tv_seq rl en h fun a S1 W1 H1 v s1 r1 e1 ra h1 => by
    cases et : isDic a S1 with
    | false => rw [if_neg (by rw [et]; exact Bool.false_ne_true)] at h1; exact h1.elim
    | true =>
      rw [if_pos et] at h1
      obtain ⟨p, ep, hd⟩ := isD_of r1 ra et
      refine ⟨p, ep, hd, tv_seq r1 e1 h1 fun b S2 W2 H2 y s2 r2 e2 rb h2 => tv_seq r2 e2 h2 fun c S3 W3 H3 u s3 r3 e3 rc h3 => ?_⟩
      cases ed : dicOf S3 a with
      | none => simp only [ed] at h3; exact h3.elim
      | some dv =>
        simp only [ed] at h3
        cases ef : dfind dv b with
        | none => simp only [ef] at h3; exact h3.elim
        | some o =>
          simp only [ef] at h3
          obtain ⟨q, eq, hq⟩ := dic_at r3 ((ra.step s2).step s3) ed
          rw [ep] at eq
          cases eq
          rcases dget r3 hq (rb.step s3) ef with ⟨z, gg⟩ | ⟨c', w, z, gg, rw'⟩
          · subst z; exact ⟨none, gg, h3.here r3 _ rc⟩
          · subst z; exact ⟨some w, gg, h3.here r3 _ rw'⟩
end

def oSet : AV → AV → AV → Store → Out Rho := fun o i b S => match o with
  | .cell n => (match S[n]?, i with
    | some (.lst xs), .val (.int k) => (match ixN xs.length k with
      | some j => .ok [] (S.set n (.lst (xs.set j b)))
      | none => .stuck)
    | some (.dK kvs), .val d => (match keyOf d with
      | some k => if kvs.length < sizeLine then .ok [] (S.set n (.dK (put kvs k b))) else .stuck
      | none => .stuck)
    | some (.dT kvs), .val (.tup ds) => (match keysOf ds with
      | some k => if kvs.length < sizeLine then .ok [] (S.set n (.dT (put kvs k b))) else .stuck
      | none => .stuck)
    | _, _ => .stuck)
  | _ => .stuck
def rSetD : V → V → V → Hp → (Hp → Prop) → Prop := fun o i v H Q => ∃ a H', o = .ref a ∧ DPut H a i v H' ∧ Q H'
theorem set_dict {X : Cx} (hu : X.A.units + 1 < cLine) : PSet X rSetD := by
  rintro pins s σ H _ i v _ iv u Q I ro ri rv ⟨a, H2, rfl, put, q⟩
  cases ro
  exact d_setItem hu I put ri rv fun s2 J => ⟨H2, J, q⟩
abbrev rSetAll : V → V → V → Hp → (Hp → Prop) → Prop := fun o i v H Q => rSetL o i v H Q ∨ rSetD o i v H Q
theorem set_all {X : Cx} (hu : X.A.units + 1 < cLine) : PSet X rSetAll := by
  rintro pins s σ H o i v a1 a2 u Q I r1 r2 r3 (h | h)
  · exact set_list pins s σ H o i v a1 a2 u Q I r1 r2 r3 h
  · exact set_dict hu pins s σ H o i v a1 a2 u Q I r1 r2 r3 h
theorem oSet_ok {W : Wd} {S S' : Store} {H : Hp} {o i v : V} {a b c : AV} {ρ' : Rho} {Q : Hp → Prop} (r : Rel W S H) (ra : AVR W o a) (rb : AVR W i b) (rc : AVR W v c) (h : oSet a b c S = .ok ρ' S')
    (q : ∀ H', Step W H W H' → Rel W S' H' → Q H') : rSetAll o i v H Q := by
  unfold oSet at h
  split at h
  · rename_i n
    obtain ⟨p, hp, e⟩ := ra
    subst e
    split at h
    · rename_i xs k hi
      split at h
      · rename_i j hj
        cases h
        obtain ⟨nf, us, h1, h2⟩ := r.ok n _ p hi hp
        obtain ⟨r', s'⟩ := r.put (o := .lst (us.set j v)) (c := .lst (xs.set j c)) hp nf ⟨nf, _, upd_same, h2.set rc j⟩
        exact .inl ⟨p, us, k, j, rfl, avr_int rb, h1, by rw [h2.len]; exact hj, q _ s' r'⟩
      · cases h
    · rename_i kvs d hi
      split at h
      · rename_i k hk
        split at h
        · rename_i hl
          cases h
          obtain ⟨nf, us, h1, h2⟩ := r.ok n _ p hi hp
          obtain ⟨r', s'⟩ := r.put (o := .dK (putK us k v)) (c := .dK (VL.put kvs k c)) hp nf ⟨nf, _, upd_same, h2.put rc⟩
          exact .inr ⟨p, _, rfl, .inl ⟨us, k, h1, rep_key rb hk, by rw [h2.len]; exact hl, rfl⟩, q _ s' r'⟩
        · cases h
      · cases h
    · rename_i kvs ds hi
      split at h
      · rename_i k hk
        split at h
        · rename_i hl
          cases h
          obtain ⟨nf, us, h1, h2⟩ := r.ok n _ p hi hp
          obtain ⟨r', s'⟩ := r.put (o := .dT (putK us k v)) (c := .dT (VL.put kvs k c)) hp nf ⟨nf, _, upd_same, h2.put rc⟩
          obtain ⟨q2, ws, ey, hq, rs⟩ := rep_tup rb
          have eu := reps_keys rs hk
          subst eu
          exact .inr ⟨p, _, rfl, .inr ⟨us, k, q2, h1, ey, r.sub _ _ hq, by rw [h2.len]; exact hl, rfl⟩, q _ s' r'⟩
        · cases h
      · cases h
    · cases h
  · cases h
def gSubD (fo fi : Den AV) : GDen := fun a ρ S => match fo ρ S with
  | .ok o S1 => (match fi ρ S1 with
    | .ok i S2 => (match oSet o i a S2 with
      | .ok _ S3 => .ok ρ S3
      | _ => .stuck)
    | _ => .stuck)
  | _ => .stuck
/-- what raises in a target is not served: a wish of nothing -/
theorem tv_ok {Wx : WX} {W : Wd} {ρ : Rho} {S S1 : Store} {σ : L2.St} {H : Hp} {f : Den AV} {a : AV} {Q : VK} (r : Rel W S H) (en : EnvR W ρ σ) (h : f ρ S = .ok a S1)
    (k : ∀ W1 H1 v, Step W H W1 H1 → Rel W1 S1 H1 → EnvR W1 ρ σ → AVR W1 v a → Q v H1) : TV Wx f σ H Q :=
  ⟨W, ρ, S, r, en, by rw [h]; exact fun W1 H1 s r1 v rv => k W1 H1 v s r1 (en.step s) rv⟩
theorem vg_sub {X : Cx} {sl : List Nat} {Wx : WX} {o i : Expr} {pos : Pos} {fo fi : Den AV} (hu : X.A.units + 1 < cLine) (ho : VE X Wx o fo) (hi : VE X Wx i fi) (ha : ∀ v, assign (.Subscript o i pos) X.env v = (do
      let a1 ← holding [v] (eval o X.env)
      let a2 ← holding [v, a1] (eval i X.env)
      standAt pos
      holding [v, a1, a2] (setItem a1 a2 v)
      release [v, a1, a2] []) := by intro _; rfl) : VG X sl (.Subscript o i pos) (gSubD fo fi) :=
  ⟨pg_imp (pg_sub ho.pe hi.pe (set_all hu) ha) fun v σ H Q ⟨W, ρ, S, a, r, en, ra, g⟩ => by
    unfold gSubD at g
    cases e1 : fo ρ S with
    | exc C fs S1 => simp only [e1] at g; exact g.elim
    | stuck => simp only [e1] at g; exact g.elim
    | ok oa S1 =>
      simp only [e1] at g
      cases e2 : fi ρ S1 with
      | exc C fs S2 => simp only [e2] at g; exact g.elim
      | stuck => simp only [e2] at g; exact g.elim
      | ok ia S2 =>
        simp only [e2] at g
        cases e3 : oSet oa ia a S2 with
        | exc C fs S3 => simp only [e3] at g; exact g.elim
        | stuck => simp only [e3] at g; exact g.elim
        | ok ρ' S3 =>
          simp only [e3] at g
          refine tv_ok r en e1 fun W1 H1 ov s1 r1 en1 ro => tv_ok r1 en1 e2 fun W2 H2 iv s2 r2 en2 ri => ?_
          refine oSet_ok r2 (ro.step s2) ri ((ra.step s1).step s2) e3 fun H' s' r' => ?_
          exact g W2 H' σ ((s1.trans s2).trans s') r' (en2.step s') rfl⟩
end VL

namespace VL
open PySem PySem.Spec PyProof.Rows L2

/-- the walk J yields the items -/
def ItOk (J : It) (W1 : Wd) (H1 : Hp) (items : List AV) : Prop := ∀ (i : Nat) (W' : Wd) (S' : Store) (H' : Hp), Step W1 H1 W' H' → Rel W' S' H' →
  (∀ a, items[i]? = some a → J.go i H' ∧ ∀ x H'', J.yld i H' x H'' → ∃ W'', Step W' H' W'' H'' ∧ Rel W'' S' H'' ∧ AVR W'' x a) ∧ (items.length ≤ i → J.stop i H')
def TVI (Wx : WX) (f : Den (List AV)) : TI := fun σ H R => ∃ W ρ S, Rel W S H ∧ EnvR W ρ σ ∧ GoP Wx W σ H (f ρ S) (fun items S1 W1 H1 => ∀ J, ItOk J W1 H1 items → R J H1)
structure VI (X : Cx) (Wx : WX) (tg iter : Expr) (f : Den (List AV)) : Prop where pi : PI X tg iter (TVI Wx f)
theorem pi_imp {X : Cx} {tg e : Expr} {t t' : TI} (h : PI X tg e t) (i : ∀ σ H R, t' σ H R → t σ H R) : PI X tg e t' := ⟨fun pins s σ H R I q => h.run pins s σ H R I (i σ H R q)⟩
theorem VI.of {X : Cx} {Wx : WX} {tg e : Expr} {t : TI} {f : Den (List AV)} (h : PI X tg e t) (i : ∀ σ H R W ρ S, Rel W S H → EnvR W ρ σ → GoP Wx W σ H (f ρ S) (fun items S1 W1 H1 => ∀ J, ItOk J W1 H1 items → R J H1) → t σ H R) : VI X Wx tg e f :=
  ⟨pi_imp h fun σ H R ⟨W, ρ, S, r, en, g⟩ => i σ H R W ρ S r en g⟩

def loopD (g : GDen) (b : SDen) : List AV → SDen
  | [], ρ, S => .go .nx ρ S
  | x :: xs, ρ, S => (match g x ρ S with
    | .ok ρ1 S1 => (match b ρ1 S1 with
      | .go .nx ρ2 S2 => loopD g b xs ρ2 S2
      | .go .ct ρ2 S2 => loopD g b xs ρ2 S2
      | .go .bk ρ2 S2 => .go .nx ρ2 S2
      | o => o)
    | _ => .stuck)
def dFor (it : Den (List AV)) (g : GDen) (b : SDen) : SDen := fun ρ S => (it ρ S).st ρ fun xs S1 => loopD g b xs ρ S1
theorem go_turn {Wx : WX} {W : Wd} {H : Hp} {D : Ends} {o : SOut} {k : SDen} {N : L2.St → Hp → Prop} (h : GoS Wx W H D (match o with
      | .go .nx ρ2 S2 => k ρ2 S2
      | .go .ct ρ2 S2 => k ρ2 S2
      | .go .bk ρ2 S2 => .go .nx ρ2 S2
      | o => o)) (hN : ∀ W' H' ρ' S' σ', Step W H W' H' → Rel W' S' H' → EnvR W' ρ' σ' → GoS Wx W' H' D (k ρ' S') → N σ' H') : GoS Wx W H { D with nx := N, ct := N, bk := D.nx } o := by
  cases o with
  | go fl ρ S =>
    cases fl with
    | nx => exact fun W' H' σ t r e => hN W' H' ρ S σ t r e (GoS.step t h)
    | ct => exact fun W' H' σ t r e => hN W' H' ρ S σ t r e (GoS.step t h)
    | bk => exact h
    | rt a => exact h
  | exc C fs ρ S => exact h
  | stuck => exact h
section
variable {X : Cx} {Wx : WX} {tg iter : Expr} {body : List Stmt} {f : Den (List AV)} {g : GDen} {b : SDen} {pos : Pos}
theorem vs_for (sl : List Nat) (hp : PassesOwn (model X.prog X.w) X.A X.env X.xe) (hc : X.calm = true) (hi : VI X Wx tg iter f) (hg : VG X sl tg g) (hb : VSs X Wx body b)
    (hs : ∀ x, foldedSetIterable iter X.env x = pure x := by intro _; rfl) : VS X Wx (.For tg iter body [] pos) (dFor f g b) :=
  .of (ps_for hp hc hi.pi hg.pg hb.pss hs) fun D σ H W ρ S r en h => by
    have h : GoS Wx W H D ((f ρ S).st ρ fun xs S1 => loopD g b xs ρ S1) := h
    refine ⟨W, ρ, S, r, en, (go_st en h).imp fun xs S1 W1 H1 s1 r1 h1 J hJ => ?_⟩
    refine ⟨fun i m σ' H' => m = xs.length - i ∧ ∃ Wd ρ' S', Step W1 H1 Wd H' ∧ Rel Wd S' H' ∧ EnvR Wd ρ' σ' ∧ GoS Wx Wd H' D (loopD g b (xs.drop i) ρ' S'), ⟨_, rfl, W1, ρ, S1, Step.refl _ _, r1, en.step s1, by simpa using h1⟩, ?_⟩
    rintro i m σ' H' ⟨rfl, Wd, ρ', S', st, r', en', q⟩
    by_cases hlt : i < xs.length
    · right
      have hx : xs[i]? = some xs[i] := List.getElem?_eq_getElem hlt
      obtain ⟨go, yl⟩ := (hJ i Wd S' H' st r').1 _ hx
      refine ⟨go, fun σ2 H2 => ∃ Wd ρ' S', Step W1 H1 Wd H2 ∧ Rel Wd S' H2 ∧ EnvR Wd ρ' σ2 ∧ GoS Wx Wd H2 D (loopD g b (xs.drop (i + 1)) ρ' S'), fun σ2 H2 z => ⟨xs.length - (i + 1), by omega, rfl, z⟩, fun x H2 y => ?_⟩
      obtain ⟨W2, s2, r2, rv⟩ := yl x H2 y
      rw [List.drop_eq_getElem_cons hlt] at q
      have q : GoS Wx Wd H' D (match g xs[i] ρ' S' with
        | .ok ρ1 S1 => (match b ρ1 S1 with
          | .go .nx ρ2 S2 => loopD g b (xs.drop (i + 1)) ρ2 S2
          | .go .ct ρ2 S2 => loopD g b (xs.drop (i + 1)) ρ2 S2
          | .go .bk ρ2 S2 => .go .nx ρ2 S2
          | o => o)
        | _ => .stuck) := q
      refine ⟨W2, ρ', S', _, r2, en'.step s2, rv, ?_⟩
      cases eg : g xs[i] ρ' S' with
      | exc C fs S2 => rw [eg] at q; exact q.elim
      | stuck => rw [eg] at q; exact q.elim
      | ok ρ1 S2 =>
        rw [eg] at q
        intro W3 H3 σ3 s3 r3 e3 _
        refine ⟨W3, ρ1, S2, r3, e3, go_turn (k := loopD g b (xs.drop (i + 1))) (GoS.step (s2.trans s3) q) fun W4 H4 ρ4 S4 σ4 s4 r4 e4 q4 => ⟨W4, ρ4, S4, ((st.trans s2).trans s3).trans s4, r4, e4, q4⟩⟩
    · left
      have hd : xs.drop i = [] := List.drop_eq_nil_of_le (by omega)
      rw [hd] at q
      exact ⟨(hJ i Wd S' H' st r').2 (by omega), q.here r' en'⟩
def whileD (c : Den Bool) (b : SDen) : Nat → SDen
  | 0 => fun _ _ => .stuck
  | n + 1 => fun ρ S => (c ρ S).st ρ fun k S1 => if k then (match b ρ S1 with
      | .go .nx ρ2 S2 => whileD c b n ρ2 S2
      | .go .ct ρ2 S2 => whileD c b n ρ2 S2
      | .go .bk ρ2 S2 => .go .nx ρ2 S2
      | o => o) else .go .nx ρ S1
def dWhile (c : Den Bool) (b : SDen) : SDen := fun ρ S => whileD c b 100000 ρ S
theorem vs_while {c : Expr} {t : Den Bool} (hp : PassesOwn (model X.prog X.w) X.A X.env X.xe) (hc : VT X Wx c t) (hb : VSs X Wx body b) : VS X Wx (.While c body [] pos) (dWhile t b) :=
  .of (ps_while hp hc.pt hb.pss) fun D σ H W ρ S r en h => by
    refine ⟨fun m σ' H' => ∃ Wd ρ' S', Rel Wd S' H' ∧ EnvR Wd ρ' σ' ∧ GoS Wx Wd H' D (whileD t b m ρ' S'), ⟨100000, W, ρ, S, r, en, h⟩, ?_⟩
    rintro m σ' H' ⟨Wd, ρ', S', r', en', q⟩
    cases m with
    | zero => exact q.elim
    | succ m =>
      refine tvt_st r' en' q fun k S1 W1 H1 s1 r1 e1 q1 => ?_
      cases k with
      | true =>
        rw [if_pos rfl] at q1 ⊢
        refine ⟨fun σ2 H2 => ∃ Wd ρ' S', Rel Wd S' H2 ∧ EnvR Wd ρ' σ2 ∧ GoS Wx Wd H2 D (whileD t b m ρ' S'), fun σ2 H2 z => ⟨m, Nat.lt_succ_self m, z⟩, ?_⟩
        exact ⟨W1, ρ', S1, r1, e1, go_turn (k := whileD t b m) q1 fun W4 H4 ρ4 S4 σ4 s4 r4 e4 q4 => ⟨W4, ρ4, S4, r4, e4, q4⟩⟩
      | false =>
        rw [if_neg Bool.false_ne_true] at q1 ⊢
        exact q1.here r1 e1
end

theorem pi_or {X : Cx} {tg e : Expr} {w1 w2 : TI} (h1 : PI X tg e w1) (h2 : PI X tg e w2) : PI X tg e (fun σ H R => w1 σ H R ∨ w2 σ H R) := ⟨fun pins s σ H R I q => q.elim (h1.run pins s σ H R I) (h2.run pins s σ H R I)⟩
/-- a dict may be locked for good behind the expression -/
def tLockO (te : TE) : TE := fun σ H Q => te σ H fun v H1 => Q v H1 ∨ ∃ d u, H1 d = some u ∧ Mut (some u) ∧ ∀ od, Q v (upd H1 d (.frz od u))
theorem pe_lockO {X : Cx} {e : Expr} {te : TE} (h : PE X e te) : PE X e (tLockO te) :=
  ⟨fun pins s σ H Q I q => thn (h.run pins s σ H _ I q) fun u s1 ⟨v, H1, I1, rv, q1⟩ => by
    rcases q1 with q1 | ⟨d, w, hd, mu, q1⟩
    · exact ⟨v, H1, I1, rv, q1⟩
    · obtain ⟨od, I2⟩ := I1.lock hd mu
      exact ⟨v, _, I2, rv, q1 od⟩⟩
section
variable {W1 : Wd} {H1 : Hp} {p : Addr}
theorem itl_ok {K : PySem.W.Frag} {o : HO} {vs : List V} {as : List AV} (hF : W1.F p = some o) (ho : ∀ H' : Hp, H' p = some o → Rd H' p (.lst vs)) (rs : AVs W1 vs as) : ItOk (Itl K p) W1 H1 as := by
  intro i W' S' H' s r
  have hp : H' p = some o := r.sub _ _ (s.F _ _ hF)
  have hq : SqL K H' p vs := .inl (ho H' hp)
  refine ⟨fun a ha => ?_, fun hl => ⟨vs, hq, by rw [rs.len]; exact hl⟩⟩
  obtain ⟨v, hv, rv⟩ := rs.get' ha
  refine ⟨⟨vs, v, hq, hv⟩, fun x H'' y => ?_⟩
  obtain ⟨e, y⟩ := y
  subst e
  have := y vs hq
  rw [hv] at this
  cases this
  exact ⟨W', Step.refl _ _, r, rv.step s⟩
theorem itt_ok {K : PySem.W.Frag} {vs : List V} {as : List AV} (hF : W1.F p = some (.tup vs)) (rs : AVs W1 vs as) : ItOk (Itt K p) W1 H1 as := by
  intro i W' S' H' s r
  have hp : H' p = some (.tup vs) := r.sub _ _ (s.F _ _ hF)
  have hq : SqT K H' p vs := SqT.of hp
  refine ⟨fun a ha => ?_, fun hl => ⟨vs, hq, by rw [rs.len]; exact hl⟩⟩
  obtain ⟨v, hv, rv⟩ := rs.get' ha
  refine ⟨⟨vs, v, hq, hv⟩, fun x H'' y => ?_⟩
  obtain ⟨e, y⟩ := y
  subst e
  have := y vs hq
  rw [hv] at this
  cases this
  exact ⟨W', Step.refl _ _, r, rv.step s⟩
theorem its_ok (x : Str) : ItOk (Its x) W1 H1 (x.cps.toList.map fun c => .val (.str ⟨#[c]⟩)) := by
  intro i W' S' H' s r
  refine ⟨fun a ha => ?_, fun hl => (by simpa using hl : x.cps.size ≤ i)⟩
  rw [List.getElem?_map] at ha
  cases e : x.cps.toList[i]? with
  | none => rw [e] at ha; cases ha
  | some c =>
    rw [e] at ha
    cases ha
    have hi := (List.getElem?_eq_some_iff.mp e).1
    refine ⟨(by simpa using hi : i < x.cps.size), fun v H'' y => ?_⟩
    obtain ⟨e2, c', hc, ev⟩ := y
    subst e2
    subst ev
    have hc' : x.cps.toList[i]? = some c' := by simpa using hc
    rw [e] at hc'
    cases hc'
    exact ⟨W', Step.refl _ _, r, .str⟩
theorem itk_ok {o : Obj} {vs : List (Key × V)} {ks : List Key} (hF : W1.F p = some (.frz o (.dK vs))) (hk : vs.map (·.1) = ks) : ItOk (Itk p o vs) W1 H1 (ks.map fun k => .val (kD k)) := by
  intro i W' S' H' s r
  have hp := r.sub _ _ (s.F _ _ hF)
  have hl : vs.length = ks.length := by rw [← hk]; simp
  refine ⟨fun a ha => ?_, fun hle => ⟨hp, by rw [hl]; simpa using hle⟩⟩
  rw [List.getElem?_map, ← hk, List.getElem?_map] at ha
  cases e : vs[i]? with
  | none => rw [e] at ha; cases ha
  | some kv =>
    rw [e] at ha
    cases ha
    refine ⟨⟨hp, (List.getElem?_eq_some_iff.mp e).1⟩, fun x H'' y => ?_⟩
    obtain ⟨e2, k, v, hkv, ex⟩ := y
    subst e2
    subst ex
    rw [e] at hkv
    cases hkv
    refine ⟨W', Step.refl _ _, r, ?_⟩
    cases k with
    | inl i => exact .int
    | inr x => exact .str
theorem Rel.seen {W : Wd} {S : Store} {H : Hp} {q : Addr} {vs : List V} (r : Rel W S H) (h : H q = some (.tup vs)) : ∃ W', Step W H W' H ∧ Rel W' S H ∧ W'.F q = some (.tup vs) := by
  cases e : W.F q with
  | some o =>
    have := r.sub q o e
    rw [h] at this
    cases this
    exact ⟨W, Step.refl _ _, r, e⟩
  | none =>
    have hn : q ∉ W.loc := fun hm => by
      obtain ⟨i, hi⟩ := List.mem_iff_getElem?.mp hm
      have hlt : i < S.length := by rw [← r.len]; exact (List.getElem?_eq_some_iff.mp hi).1
      have c := r.ok i _ q (List.getElem?_eq_getElem hlt) hi
      cases ec : S[i] with
      | lst xs => rw [ec] at c; obtain ⟨_, vs, q2, _⟩ := c; rw [h] at q2; cases q2
      | dK xs => rw [ec] at c; obtain ⟨_, vs, q2, _⟩ := c; rw [h] at q2; cases q2
      | dT xs => rw [ec] at c; obtain ⟨_, vs, q2, _⟩ := c; rw [h] at q2; cases q2
      | ins C xs => rw [ec] at c; obtain ⟨_, dx, vs, q2, _⟩ := c; rw [h] at q2; cases q2
      | fz d => rw [ec] at c; exact c.2 e
    have st : Step W H { W with F := upd W.F q (.tup vs) } H := by
      refine ⟨fun a u z => ?_, ⟨[], by simp⟩, rfl, fun a z => .inl z, fun a u z => ?_, fun a u z _ => z⟩
      · show upd W.F q (.tup vs) a = some u
        rw [upd_ne (ne_of_none z e)]; exact z
      · have z : upd W.F q (.tup vs) a = some u := z
        by_cases k : a = q
        · subst k; rw [upd_same] at z; cases z; exact .inr (.inr (.inr ⟨vs, rfl⟩))
        · rw [upd_ne k] at z; exact .inl z
    refine ⟨_, st, ⟨fun a u z => ?_, r.len, r.nd, fun i c p hi hp => ?_⟩, upd_same⟩
    · have z : upd W.F q (.tup vs) a = some u := z
      by_cases k : a = q
      · subst k; rw [upd_same] at z; cases z; exact h
      · rw [upd_ne k] at z; exact r.sub a u z
    · have hp' : W.loc[i]? = some p := hp
      have ne : p ≠ q := fun z => hn (by rw [← z]; exact List.mem_of_getElem? hp')
      exact (r.ok i c p hi hp').step st rfl (upd_ne ne)
theorem reps_kV {F : Hp} : ∀ ks : List Key, Reps F (ks.map kV) (ks.map kD)
  | [] => .nil
  | .inl i :: ks => .cons .int (reps_kV ks)
  | .inr x :: ks => .cons .str (reps_kV ks)
theorem itkt_ok {o : Obj} {vs : List (List Key × V)} {ks : List (List Key)} (hF : W1.F p = some (.frz o (.dT vs))) (hk : vs.map (·.1) = ks) : ItOk (Itkt p o vs) W1 H1 (ks.map fun k => .val (.tup (k.map kD))) := by
  intro i W' S' H' s r
  have hp := r.sub _ _ (s.F _ _ hF)
  have hl : vs.length = ks.length := by rw [← hk]; simp
  refine ⟨fun a ha => ?_, fun hle => ⟨hp, by rw [hl]; simpa using hle⟩⟩
  rw [List.getElem?_map, ← hk, List.getElem?_map] at ha
  cases e : vs[i]? with
  | none => rw [e] at ha; cases ha
  | some kv =>
    rw [e] at ha
    cases ha
    refine ⟨⟨hp, (List.getElem?_eq_some_iff.mp e).1⟩, fun x H'' y => ?_⟩
    obtain ⟨e2, k, v, q, hkv, ex, hq⟩ := y
    subst e2
    subst ex
    rw [e] at hkv
    cases hkv
    obtain ⟨W2, s2, r2, f2⟩ := r.seen hq
    exact ⟨W2, s2, r2, .tup f2 (reps_kV k)⟩
end
def valKs {κ : Type} : List (κ × AV) → Option (List (κ × D))
  | [] => some []
  | (k, .val d) :: r => (valKs r).map ((k, d) :: ·)
  | _ :: _ => none
theorem valKs_eq {κ : Type} : ∀ {as : List (κ × AV)} {ds : List (κ × D)}, valKs as = some ds → as = ds.map fun p => (p.1, .val p.2)
  | [], ds, h => by cases h; rfl
  | (k, .val d) :: r, ds, h => by
    unfold valKs at h
    cases e : valKs r with
    | none => rw [e] at h; cases h
    | some es => rw [e] at h; cases h; rw [valKs_eq e]; rfl
  | (_, .cell _) :: r, ds, h => by cases h
  | (_, .hot) :: r, ds, h => by cases h
@[simp] theorem valKs_map {κ : Type} : ∀ ds : List (κ × D), valKs (ds.map fun p => (p.1, .val p.2)) = some ds
  | [] => rfl
  | d :: ds => by simp [valKs, valKs_map ds]
theorem AKs.toRepK {W : Wd} : ∀ {vs : List (Key × V)} {ds : List (Key × D)}, AKs W vs (ds.map fun p => (p.1, .val p.2)) → RepK W.F vs ds
  | _, [], .nil => .nil
  | _, _ :: _, .cons h r => .cons h (AKs.toRepK r)
theorem AKs.toRepT {W : Wd} : ∀ {vs : List (List Key × V)} {ds : List (List Key × D)}, AKs W vs (ds.map fun p => (p.1, .val p.2)) → RepT W.F vs ds
  | _, [], .nil => .nil
  | _, _ :: _, .cons h r => .cons h (AKs.toRepT r)
theorem RepK.keys {F : Hp} : ∀ {vs : List (Key × V)} {ds : List (Key × D)}, RepK F vs ds → vs.map (·.1) = ds.map (·.1)
  | _, _, .nil => rfl
  | _, _, .cons h r => by rw [List.map_cons, List.map_cons, RepK.keys r]
theorem RepT.keys {F : Hp} : ∀ {vs : List (List Key × V)} {ds : List (List Key × D)}, RepT F vs ds → vs.map (·.1) = ds.map (·.1)
  | _, _, .nil => rfl
  | _, _, .cons h r => by rw [List.map_cons, List.map_cons, RepT.keys r]
/-- what is frozen, data behind it; a dict too -/
def frzA (S : Store) : AV → Option (D × Store)
  | .val d => some (d, S)
  | .cell i => (match S[i]? with
    | some (.fz d) => some (d, S)
    | some (.lst xs) => (valsOf xs).map fun ds => (.lst ds, S.set i (.fz (.lst ds)))
    | some (.dK kvs) => (valKs kvs).map fun ds => (.dK ds, S.set i (.fz (.dK ds)))
    | some (.dT kvs) => (valKs kvs).map fun ds => (.dT ds, S.set i (.fz (.dT ds)))
    | _ => none)
  | .hot => none
/-- .. the heap behind it: a dict is locked -/
theorem frzA_ok {W : Wd} {S S' : Store} {H : Hp} {v : V} {a : AV} {d : D} (r : Rel W S H) (ra : AVR W v a) (h : frzA S a = some (d, S')) :
    (∃ W', Step W H W' H ∧ Rel W' S' H ∧ Rep W'.F v d) ∨ ∃ q u, H q = some u ∧ Mut (some u) ∧ ∀ od, ∃ W', Step W H W' (upd H q (.frz od u)) ∧ Rel W' S' (upd H q (.frz od u)) ∧ Rep W'.F v d := by
  cases a with
  | val e => cases h; exact .inl ⟨W, Step.refl _ _, r, ra⟩
  | hot => cases h
  | cell i =>
    obtain ⟨p, hp, e⟩ := ra
    subst e
    unfold frzA at h
    cases hi : S[i]? with
    | none => simp only [hi] at h; cases h
    | some c =>
      have hc := r.ok i c p hi hp
      have sub : ∀ o, W.F p = none → Sub W.F (upd W.F p o) := fun o n a u e => by rw [upd_ne (fun z => by rw [z, n] at e; cases e)]; exact e
      cases c with
      | fz e => simp only [hi] at h; cases h; exact .inl ⟨W, Step.refl _ _, r, hc.1⟩
      | lst xs =>
        simp only [hi] at h
        cases hv : valsOf xs with
        | none => rw [hv] at h; cases h
        | some ds =>
          rw [hv] at h
          cases h
          have ex := valsOf_eq hv
          subst ex
          obtain ⟨n, vs, h1, h2⟩ := hc
          have rp : Rep (upd W.F p (.lst vs)) (.ref p) (.lst ds) := .lst upd_same (h2.toReps.mono (sub _ n))
          obtain ⟨r', s'⟩ := r.freeze (o := .lst vs) hp n rp
          rw [upd_id h1] at r' s'
          exact .inl ⟨_, s', r', rp⟩
      | dK kvs =>
        simp only [hi] at h
        cases hv : valKs kvs with
        | none => rw [hv] at h; cases h
        | some ds =>
          rw [hv] at h
          cases h
          have ex := valKs_eq hv
          subst ex
          obtain ⟨n, vs, h1, h2⟩ := hc
          refine .inr ⟨p, _, h1, trivial, fun od => ?_⟩
          have rp : Rep (upd W.F p (.frz od (.dK vs))) (.ref p) (.dK ds) := .dK upd_same (h2.toRepK.mono (sub _ n))
          obtain ⟨r', s'⟩ := r.freeze (o := .frz od (.dK vs)) hp n rp
          exact ⟨_, s', r', rp⟩
      | dT kvs =>
        simp only [hi] at h
        cases hv : valKs kvs with
        | none => rw [hv] at h; cases h
        | some ds =>
          rw [hv] at h
          cases h
          have ex := valKs_eq hv
          subst ex
          obtain ⟨n, vs, h1, h2⟩ := hc
          refine .inr ⟨p, _, h1, trivial, fun od => ?_⟩
          have rp : Rep (upd W.F p (.frz od (.dT vs))) (.ref p) (.dT ds) := .dT upd_same (h2.toRepT.mono (sub _ n))
          obtain ⟨r', s'⟩ := r.freeze (o := .frz od (.dT vs)) hp n rp
          exact ⟨_, s', r', rp⟩
      | _ => simp only [hi] at h; cases h
def itemsD : D → Option (List AV)
  | .lst ds => some (ds.map .val)
  | .tup ds => some (ds.map .val)
  | .str x => some (x.cps.toList.map fun c => .val (.str ⟨#[c]⟩))
  | .dK ds => some ((ds.map (·.1)).map fun k => .val (kD k))
  | .dT ds => some ((ds.map (·.1)).map fun k => .val (.tup (k.map kD)))
  | _ => none
def oItems (a : AV) (S : Store) : Out (List AV) := match frzA S a with
  | some (d, S1) => (match itemsD d with
    | some xs => .ok xs S1
    | none => .stuck)
  | none => .stuck
def dItems (f : Den AV) : Den (List AV) := fun ρ S => (f ρ S).bind oItems
section
variable {X : Cx} {Wx : WX} {tg e : Expr} {f : Den AV}
theorem vi_items (he : VE X Wx e f) : VI X Wx tg e (dItems f) :=
  .of (pi_or (pi_list (pe_lockO he.pe)) (pi_or (pi_tup (pe_lockO he.pe)) (pi_or (pi_str (pe_lockO he.pe)) (pi_keys (pe_lockO he.pe))))) fun σ H R W ρ S r en h => by
    have h : GoP Wx W σ H ((f ρ S).bind oItems) _ := h
    cases ef0 : f ρ S with
    | exc C fs S1 => rw [ef0] at h; exact .inl ⟨W, ρ, S, r, en, by rw [ef0]; exact h⟩
    | stuck => rw [ef0] at h; exact h.elim
    | ok a S1 =>
      rw [ef0] at h
      have h : GoP Wx W σ H (oItems a S1) _ := h
      unfold oItems at h
      cases ef : frzA S1 a with
      | none => rw [ef] at h; exact h.elim
      | some z =>
        obtain ⟨d, S2⟩ := z
        rw [ef] at h
        have h : GoP Wx W σ H (match itemsD d with
          | some xs => .ok xs S2
          | none => .stuck) _ := h
        have key : ∀ Q : VK, (∀ W2 H2 v, Step W H W2 H2 → Rel W2 S2 H2 → Rep W2.F v d → Q v H2) → tLockO (TV Wx f) σ H Q := fun Q k => tv_ok r en ef0 fun W1 H1 v s1 r1 en1 ra => by
          rcases frzA_ok r1 ra ef with ⟨W2, s2, r2, rd⟩ | ⟨q, u, hq, mu, k'⟩
          · exact .inl (k W2 H1 v (s1.trans s2) r2 rd)
          · refine .inr ⟨q, u, hq, mu, fun od => ?_⟩
            obtain ⟨W2, s2, r2, rd⟩ := k' od
            exact k W2 _ v (s1.trans s2) r2 rd
        cases d with
        | lst ds => exact .inl (key _ fun W2 H2 v s2 r2 rd => by
            obtain ⟨p, vs, e, h1, h2⟩ := rep_lst rd
            exact ⟨p, e, ⟨vs, SqL.of (r2.sub _ _ h1)⟩, h W2 H2 s2 r2 _ (itl_ok h1 (fun H' e => .inl e) (AVs.ofReps h2))⟩)
        | tup ds => exact .inr (.inl (key _ fun W2 H2 v s2 r2 rd => by
            obtain ⟨p, vs, e, h1, h2⟩ := rep_tup rd
            exact ⟨p, e, ⟨vs, SqT.of (r2.sub _ _ h1)⟩, h W2 H2 s2 r2 _ (itt_ok h1 (AVs.ofReps h2))⟩))
        | str x => exact .inr (.inr (.inl (key _ fun W2 H2 v s2 r2 rd => ⟨x, rep_str rd, h W2 H2 s2 r2 _ (its_ok x)⟩)))
        | dK ds => exact .inr (.inr (.inr (key _ fun W2 H2 v s2 r2 rd => by
            obtain ⟨p, o, vs, e, h1, h2⟩ := rep_dK rd
            exact ⟨p, o, e, .inl ⟨vs, r2.sub _ _ h1, h W2 H2 s2 r2 _ (itk_ok h1 h2.keys)⟩⟩)))
        | dT ds => exact .inr (.inr (.inr (key _ fun W2 H2 v s2 r2 rd => by
            obtain ⟨p, o, vs, e, h1, h2⟩ := rep_dT rd
            exact ⟨p, o, e, .inr ⟨vs, r2.sub _ _ h1, h W2 H2 s2 r2 _ (itkt_ok h1 h2.keys)⟩⟩)))
        | _ => exact h.elim
open Classical in
noncomputable def oScr (K : PySem.W.Frag) (a : AV) (S : Store) : Out (List AV) := match a with
  | .val (.scr K' ds) => if K' = K then .ok (ds.map .val) S else .stuck
  | _ => .stuck
noncomputable def dScr (K : PySem.W.Frag) (f : Den AV) : Den (List AV) := fun ρ S => (f ρ S).bind (oScr K)
theorem vi_scr {K : PySem.W.Frag} (hK : X.K = K) (he : VE X Wx e f) : VI X Wx tg e (dScr K f) :=
  .of (pi_list he.pe) fun σ H R W ρ S r en h => by
    have h : GoP Wx W σ H ((f ρ S).bind (oScr K)) _ := h
    refine tv_seq r en h fun a S1 W1 H1 v s1 r1 e1 ra h1 => ?_
    unfold oScr at h1
    split at h1
    · rename_i K' ds
      by_cases ek : K' = K
      · rw [if_pos ek] at h1
        obtain ⟨p, vs, e, h2, h3⟩ := rep_scr ra
        subst ek
        rcases h2 with ⟨o, h2⟩ | h2
        · exact ⟨p, e, ⟨vs, .inl (.inr ⟨o, r1.sub _ _ h2⟩)⟩, h1.here r1 _ (itl_ok h2 (fun H' e => .inr ⟨o, e⟩) (AVs.ofReps h3))⟩
        · rw [hK]
          refine ⟨p, e, ⟨vs, h2 H1⟩, h1.here r1 _ ?_⟩
          intro i W' S' H' s r
          have rs := AVs.ofReps h3
          refine ⟨fun a ha => ?_, fun hl => ⟨vs, h2 H', by rw [rs.len]; exact hl⟩⟩
          obtain ⟨v, hv, rv⟩ := rs.get' ha
          refine ⟨⟨vs, v, h2 H', hv⟩, fun x H'' y => ?_⟩
          obtain ⟨e, y⟩ := y
          subst e
          have := y vs (h2 _)
          rw [hv] at this
          cases this
          exact ⟨W', Step.refl _ _, r, rv.step s⟩
      · rw [if_neg ek] at h1; exact h1.elim
    · exact h1.elim
def rangeL (lo : Int) (n : Nat) : List AV := (List.range n).map fun i => .val (.int (lo + (i : Nat)))
theorem itr_ok {W1 : Wd} {H1 : Hp} (lo : Int) (n : Nat) : ItOk (Itr lo n) W1 H1 (rangeL lo n) := by
  intro i W' S' H' s r
  refine ⟨fun a ha => ?_, fun hl => (by unfold rangeL at hl; simpa using hl : n ≤ i)⟩
  unfold rangeL at ha
  rw [List.getElem?_map] at ha
  cases e : (List.range n)[i]? with
  | none => rw [e] at ha; cases ha
  | some j =>
    rw [e] at ha
    cases ha
    have hi := (List.getElem?_eq_some_iff.mp e).1
    have ej : j = i := by
      obtain ⟨_, q⟩ := List.getElem?_eq_some_iff.mp e
      simpa using q.symm
    subst ej
    refine ⟨(by simpa using hi : j < n), fun x H'' y => ?_⟩
    obtain ⟨e1, e2⟩ := y
    subst e1
    subst e2
    exact ⟨W', Step.refl _ _, r, .int⟩
def oRange1 (as : List AV) (S : Store) : Out (List AV) := match as with
  | [.val (.int j)] => if -(2 ^ 62) ≤ j ∧ j < 2 ^ 62 then .ok (rangeL 0 j.toNat) S else .stuck
  | _ => .stuck
def dRange1 (g : Den (List AV)) : Den (List AV) := fun ρ S => (g ρ S).bind oRange1
theorem vi_range1 {a : Expr} {g : Den (List AV)} {p pos : Pos} (hm : X.mg "range" = none) (ha : VA X Wx [a] g) (hg : Gl X "range" := by rfl) (hs : starEach [a] X.env = [(false, eval a X.env)] := by rfl) : VI X Wx tg (.Call (.Name "range" p) [a] [] pos) (dRange1 g) :=
  .of (pi_range1 hg hm ha.pa hs) fun σ H R W ρ S r en h => by
    have h : GoP Wx W σ H ((g ρ S).bind oRange1) _ := h
    refine tva_seq r en h fun as S1 W1 H1 vs s1 r1 e1 ra h1 => ?_
    unfold oRange1 at h1
    split at h1
    · rename_i j
      obtain ⟨v, rfl, rv⟩ := avs1 ra
      by_cases e : -(2 ^ 62) ≤ j ∧ j < 2 ^ 62
      · rw [if_pos e] at h1
        exact ⟨j, by rw [avr_int rv], e.1, e.2, h1.here r1 _ (itr_ok 0 _)⟩
      · rw [if_neg e] at h1; exact h1.elim
    · exact h1.elim
def oRange2 (as : List AV) (S : Store) : Out (List AV) := match as with
  | [.val (.int i), .val (.int j)] => if -(2 ^ 62) ≤ i ∧ i < 2 ^ 62 ∧ -(2 ^ 62) ≤ j ∧ j < 2 ^ 62 then .ok (rangeL i (j - i).toNat) S else .stuck
  | _ => .stuck
def dRange2 (g : Den (List AV)) : Den (List AV) := fun ρ S => (g ρ S).bind oRange2
theorem vi_range2 {a b : Expr} {g : Den (List AV)} {p pos : Pos} (hm : X.mg "range" = none) (ha : VA X Wx [a, b] g) (hg : Gl X "range" := by rfl) (hs : starEach [a, b] X.env = [(false, eval a X.env), (false, eval b X.env)] := by rfl) (hs2 : starEach [b] X.env = [(false, eval b X.env)] := by rfl) :
    VI X Wx tg (.Call (.Name "range" p) [a, b] [] pos) (dRange2 g) :=
  .of (pi_range2 hg hm ha.pa hs hs2) fun σ H R W ρ S r en h => by
    have h : GoP Wx W σ H ((g ρ S).bind oRange2) _ := h
    refine tva_seq r en h fun as S1 W1 H1 vs s1 r1 e1 ra h1 => ?_
    unfold oRange2 at h1
    split at h1
    · rename_i i j
      obtain ⟨v, u, rfl, rv, ru⟩ := avs2 ra
      by_cases e : -(2 ^ 62) ≤ i ∧ i < 2 ^ 62 ∧ -(2 ^ 62) ≤ j ∧ j < 2 ^ 62
      · rw [if_pos e] at h1
        exact ⟨i, j, by rw [avr_int rv, avr_int ru], e, h1.here r1 _ (itr_ok i _)⟩
      · rw [if_neg e] at h1; exact h1.elim
    · exact h1.elim
end
end VL

namespace VL
open PySem PySem.Spec PyProof.Rows L2

def wipeR (ρ : Rho) : List Nat → Rho
  | [] => ρ
  | v :: vs => (wipeR ρ vs).set v none
theorem EnvR.forget {W : Wd} {ρ : Rho} {σ : L2.St} (e : EnvR W ρ σ) (i : Nat) : EnvR W (ρ.set i none) (σ.set i none) := by
  refine ⟨by simpa using e.1, fun j b h => ?_⟩
  by_cases hj : i = j
  · subst hj
    by_cases hi : i < ρ.length
    · rw [List.getElem?_set_self hi] at h; cases h
    · rw [List.getElem?_eq_none (by simpa using Nat.le_of_not_lt hi)] at h; cases h
  · rw [List.getElem?_set_ne hj] at h
    rw [List.getElem?_set_ne hj]
    exact e.2 j b h
theorem EnvR.wipe {W : Wd} {ρ : Rho} {σ : L2.St} (e : EnvR W ρ σ) : ∀ vs : List Nat, EnvR W (wipeR ρ vs) (L2.wipe σ vs)
  | [] => e
  | v :: vs => (EnvR.wipe e vs).forget v
theorem wipe_at {σ : L2.St} {v : Nat} : ∀ {vs : List Nat}, v ∈ vs → (wipe σ vs).set v none = wipe σ vs
  | w :: ws, h => by
    show ((wipe σ ws).set w none).set v none = (wipe σ ws).set w none
    by_cases e : w = v
    · subst e; rw [List.set_set]
    · have hm : v ∈ ws := by
        rcases List.mem_cons.mp h with q | q
        · exact absurd q.symm e
        · exact q
      rw [List.set_comm _ _ e, wipe_at hm]
theorem wipe_idem_aux {σ : L2.St} {vs : List Nat} : ∀ us : List Nat, (∀ u ∈ us, u ∈ vs) → wipe (wipe σ vs) us = wipe σ vs
  | [], _ => rfl
  | u :: us, h => by
    show (wipe (wipe σ vs) us).set u none = wipe σ vs
    rw [wipe_idem_aux us (fun x hx => h x (List.mem_cons_of_mem _ hx)), wipe_at (h u List.mem_cons_self)]
theorem wipe_idem (σ : L2.St) (vs : List Nat) : wipe (wipe σ vs) vs = wipe σ vs := wipe_idem_aux vs fun _ h => h
section
variable {W W2 : Wd} {S : Store} {H H2 : Hp} {p : Addr} {o : HO}
theorem Rel.off (r : Rel W S H) (hF : W.F p = none) (hl : p ∉ W.loc) : Rel W S (upd H p o) := by
  refine ⟨fun a u e => by rw [upd_ne (fun z => by rw [z, hF] at e; cases e)]; exact r.sub a u e, r.len, r.nd, fun i c q hi hq => ?_⟩
  have ne : q ≠ p := fun z => hl (by rw [← z]; exact List.mem_of_getElem? hq)
  have c0 := r.ok i c q hi hq
  cases c with
  | lst xs => obtain ⟨n, vs, q2, r2⟩ := c0; exact ⟨n, vs, (upd_ne ne).trans q2, r2⟩
  | dK xs => obtain ⟨n, vs, q2, r2⟩ := c0; exact ⟨n, vs, (upd_ne ne).trans q2, r2⟩
  | dT xs => obtain ⟨n, vs, q2, r2⟩ := c0; exact ⟨n, vs, (upd_ne ne).trans q2, r2⟩
  | ins C xs => obtain ⟨n, dx, vs, q2, f, r2⟩ := c0; exact ⟨n, dx, vs, (upd_ne ne).trans q2, f, r2⟩
  | fz d => exact c0
theorem Step.off (s : Step W H W2 H2) (h : H p = none) : Step W H W2 (upd H2 p o) :=
  ⟨s.F, s.loc, s.hot, s.new, s.newF, fun a u e n => by rw [upd_ne (ne_of_none e h)]; exact s.keep a u e n⟩
theorem Rel.claim (r : Rel W S H) (hF : W.F p = none) (hl : p ∉ W.loc) (h : H p = some o) : Rel { W with F := upd W.F p o } S H := by
  refine ⟨fun a u e => ?_, r.len, r.nd, fun i c q hi hq => ?_⟩
  · have e : upd W.F p o a = some u := e
    by_cases z : a = p
    · subst z; rw [upd_same] at e; cases e; exact h
    · rw [upd_ne z] at e; exact r.sub a u e
  · have hq' : W.loc[i]? = some q := hq
    have ne : q ≠ p := fun z => hl (by rw [← z]; exact List.mem_of_getElem? hq')
    have sub : Sub W.F (upd W.F p o) := fun a u e => by rw [upd_ne (fun z => by rw [z, hF] at e; cases e)]; exact e
    have st : Step W H { W with F := upd W.F p o } H → CellOk { W with F := upd W.F p o } H q c := fun st => (r.ok i c q hi hq').step st rfl (upd_ne ne)
    have c0 := r.ok i c q hi hq'
    have av : ∀ {v : V} {a : AV}, AVR W v a → AVR { W with F := upd W.F p o } v a := fun {v a} x => by
      cases a with
      | val d => exact Rep.mono sub x
      | cell j => exact x
      | hot => exact x
    have avs : ∀ {vs : List V} {as : List AV}, AVs W vs as → AVs { W with F := upd W.F p o } vs as := fun {vs as} x => by
      induction x with
      | nil => exact .nil
      | cons h _ ih => exact .cons (av h) ih
    have aks : ∀ {κ : Type} {vs : List (κ × V)} {as : List (κ × AV)}, AKs W vs as → AKs { W with F := upd W.F p o } vs as := fun {κ vs as} x => by
      induction x with
      | nil => exact .nil
      | cons h _ ih => exact .cons (av h) ih
    cases c with
    | lst xs => obtain ⟨n, vs, q2, r2⟩ := c0; exact ⟨(upd_ne ne).trans n, vs, q2, avs r2⟩
    | dK xs => obtain ⟨n, vs, q2, r2⟩ := c0; exact ⟨(upd_ne ne).trans n, vs, q2, aks r2⟩
    | dT xs => obtain ⟨n, vs, q2, r2⟩ := c0; exact ⟨(upd_ne ne).trans n, vs, q2, aks r2⟩
    | ins C xs => obtain ⟨n, dx, vs, q2, f, r2⟩ := c0; exact ⟨(upd_ne ne).trans n, dx, vs, q2, sub _ _ f, aks r2⟩
    | fz d => exact ⟨c0.1.mono sub, by show upd W.F p o q ≠ none; rw [upd_ne ne]; exact c0.2⟩
theorem Step.claim (s : Step W H W2 H2) (h : H p = none) (hF : W2.F p = none) : Step W H { W2 with F := upd W2.F p o } H2 := by
  refine ⟨fun a u e => ?_, s.loc, s.hot, s.new, fun a u e => ?_, s.keep⟩
  · show upd W2.F p o a = some u
    rw [upd_ne (fun z => by rw [z] at e; rw [s.F _ _ e] at hF; cases hF)]; exact s.F _ _ e
  · have e : upd W2.F p o a = some u := e
    by_cases z : a = p
    · subst z; exact .inr (.inl h)
    · rw [upd_ne z] at e; exact s.newF a u e
end

/-- no error is let out -/
abbrev W0 : WX := fun _ _ _ _ => False
structure VTs (X : Cx) (Wx : WX) (ifs : List Expr) (t : Den Bool) : Prop where pts : PTs X ifs (TVT Wx t)
def dTrue : Den Bool := fun _ S => .ok true S
theorem vts_nil {X : Cx} {Wx : WX} : VTs X Wx [] dTrue := ⟨⟨fun pins s σ H Q I ⟨W, ρ, S, r, en, h⟩ => pts_nil.run pins s σ H Q I (h.here r)⟩⟩
theorem vts_one {X : Cx} {Wx : WX} {c : Expr} {t : Den Bool} (h : VT X Wx c t) : VTs X Wx [c] t := ⟨pts_one h.pt⟩

def compL (g : GDen) (t : Den Bool) (e : Den AV) (ρ : Rho) : List AV → Store → Out (List AV)
  | [], S => .ok [] S
  | x :: xs, S => (match g x ρ S with
    | .ok ρ1 S1 => (match t ρ1 S1 with
      | .ok b S2 => if b then (match e ρ1 S2 with
          | .ok y S3 => (match compL g t e ρ xs S3 with
            | .ok ys S4 => .ok (y :: ys) S4
            | _ => .stuck)
          | _ => .stuck) else compL g t e ρ xs S2
      | _ => .stuck)
    | _ => .stuck)
def finV (as : List AV) (S : Store) : Out AV := match valsOf as with
  | some ds => .ok (.val (.lst ds)) S
  | none => .stuck
def finC (as : List AV) (S : Store) : Out AV := .ok (.cell S.length) (S ++ [.lst as])
def FinOk (fin : List AV → Store → Out AV) : Prop := ∀ (Wx : WX) (W1 Wd : Wd) (H1 H' : Hp) (σ : L2.St) (Q : VK) (S : Store) (acc : List AV) (us : List V) (D : Addr), Step W1 H1 Wd H' → Rel Wd S H' → H1 D = none → H' D = some (.lst us) → Wd.F D = none → D ∉ Wd.loc → AVs Wd us acc →
  GoP Wx W1 σ H1 (fin acc S) (QV Q) → Q (.ref D) H'
theorem finV_ok : FinOk finV := by
  intro Wx W1 Wd H1 H' σ Q S acc us D s r h1 h2 hF hl ra h
  unfold finV at h
  cases e : valsOf acc with
  | none => rw [e] at h; exact h.elim
  | some ds =>
    rw [e] at h
    have z := valsOf_eq e
    subst z
    have sub : Sub Wd.F (upd Wd.F D (.lst us)) := fun a u e => by rw [upd_ne (fun z => by rw [z, hF] at e; cases e)]; exact e
    exact h _ _ (s.claim (o := .lst us) h1 hF) (r.claim hF hl h2) _ (.lst (by show upd Wd.F D (.lst us) D = _; exact upd_same) (ra.toReps.mono sub))
theorem finC_ok : FinOk finC := by
  intro Wx W1 Wd H1 H' σ Q S acc us D s r h1 h2 hF hl ra h
  have r2 := r.cell (o := .lst us) (c := .lst acc) hF hl ⟨hF, us, upd_same, ra.mono⟩
  have s2 := s.cell (o := .lst us) h1
  rw [upd_id h2] at r2 s2
  refine h _ _ s2 r2 _ ⟨D, ?_, rfl⟩
  show (Wd.loc ++ [D])[S.length]? = some D
  rw [← r.len, List.getElem?_append_right (Nat.le_refl _)]
  simp
/-- the rest of the comprehension behind acc -/
def compK (fin : List AV → Store → Out AV) (acc : List AV) : Out (List AV) → Out AV
  | .ok ys S => fin (acc ++ ys) S
  | _ => .stuck
def dCompG (fin : List AV → Store → Out AV) (vs : List Nat) (it : Den (List AV)) (g : GDen) (t : Den Bool) (e : Den AV) : Den AV := fun ρ S => (it ρ S).bind fun xs S1 => if xs.length < sizeLine then compK fin [] (compL g t e (wipeR ρ vs) xs S1) else .stuck
abbrev dComp := dCompG finV
abbrev dCompC := dCompG finC
theorem tlc_of {fin : List AV → Store → Out AV} (hfin : FinOk fin) {Wx : WX} {vs : List Nat} {it : Den (List AV)} {g : GDen} {t : Den Bool} {e : Den AV} {W : Wd} {ρ : Rho} {S : Store} {σ : L2.St} {H : Hp} {Q : VK} (r : Rel W S H) (en : EnvR W ρ σ)
    (h : GoP Wx W σ H (dCompG fin vs it g t e ρ S) (QV Q)) : tLc (TVI Wx it) (TVG vs g) (TVT W0 t) (TV W0 e) vs σ H Q := by
  have h : GoP Wx W σ H ((it ρ S).bind fun xs S1 => if xs.length < sizeLine then compK fin [] (compL g t e (wipeR ρ vs) xs S1) else .stuck) (QV Q) := h
  refine ⟨W, ρ, S, r, en, h.split.imp fun xs S1 W1 H1 s1 r1 h1 J hJ => fun D hD => ?_⟩
  by_cases hsz : xs.length < sizeLine
  case neg => rw [if_neg hsz] at h1; exact h1.elim
  rw [if_pos hsz] at h1
  obtain ⟨hF1, hl1⟩ := r1.fresh hD
  refine ⟨fun i m H' => m = xs.length - i ∧ ∃ Wd S' acc us, Step W1 H1 Wd H' ∧ Rel Wd S' H' ∧ H' D = some (.lst us) ∧ Wd.F D = none ∧ D ∉ Wd.loc ∧ AVs Wd us acc ∧ acc.length ≤ i ∧ i ≤ xs.length ∧
    GoP Wx W1 σ H1 (compK fin acc (compL g t e (wipeR ρ vs) (xs.drop i) S')) (QV Q), ⟨_, rfl, W1, S1, [], [], Step.temp hD, r1.temp hD, upd_same, hF1, hl1, .nil, Nat.le_refl _, Nat.zero_le _, h1⟩, ?_⟩
  rintro i m H' ⟨rfl, Wd, S', acc, us, st, r', hD', hF, hl, ra, hacc, hi, k⟩
  by_cases hlt : i < xs.length
  · right
    have hx : xs[i]? = some xs[i] := List.getElem?_eq_getElem hlt
    obtain ⟨go, yl⟩ := (hJ i Wd S' H' st r').1 _ hx
    rw [List.drop_eq_getElem_cons hlt] at k
    refine ⟨go, fun H2 => ∃ Wd S' acc us, Step W1 H1 Wd H2 ∧ Rel Wd S' H2 ∧ H2 D = some (.lst us) ∧ Wd.F D = none ∧ D ∉ Wd.loc ∧ AVs Wd us acc ∧ acc.length ≤ i + 1 ∧ i + 1 ≤ xs.length ∧
      GoP Wx W1 σ H1 (compK fin acc (compL g t e (wipeR ρ vs) (xs.drop (i + 1)) S')) (QV Q), fun H2 z => ⟨xs.length - (i + 1), by omega, rfl, z⟩, fun x H2 y => ?_⟩
    obtain ⟨W2, s2, r2, rv⟩ := yl x H2 y
    have en2 : EnvR W2 (wipeR ρ vs) (L2.wipe σ vs) := (((en.step s1).step st).step s2).wipe vs
    refine ⟨W2, wipeR ρ vs, S', xs[i], r2, en2, rv, ?_⟩
    unfold compL at k
    cases eg : g xs[i] (wipeR ρ vs) S' with
    | exc C fs S2 => rw [eg] at k; exact k.elim
    | stuck => rw [eg] at k; exact k.elim
    | ok ρ1 S2 =>
      simp only [eg] at k
      intro W3 H3 σ3 s3 r3 e3 w3
      rw [wipe_idem] at w3
      refine ⟨w3, W3, ρ1, S2, r3, e3, ?_⟩
      cases et : t ρ1 S2 with
      | exc C fs S3 => simp only [et] at k; exact k.elim
      | stuck => simp only [et] at k; exact k.elim
      | ok b S3 =>
        simp only [et] at k
        intro W4 H4 s4 r4
        have s14 := ((st.trans s2).trans s3).trans s4
        have s04 := (s2.trans s3).trans s4
        obtain ⟨hD4, hF4, hl4⟩ := s04.stays hD' hl hF r4 (fun xs z => by cases z)
        cases b with
        | false =>
          rw [if_neg Bool.false_ne_true] at k
          show if false = true then _ else _
          rw [if_neg Bool.false_ne_true]
          exact ⟨W4, S3, acc, us, s14, r4, hD4, hF4, hl4, ra.step s04, by omega, hlt, k⟩
        | true =>
          rw [if_pos rfl] at k
          show if true = true then _ else _
          rw [if_pos rfl]
          refine ⟨W4, ρ1, S3, r4, e3.step s4, ?_⟩
          cases ee : e ρ1 S3 with
          | exc C fs S5 => simp only [ee] at k; exact k.elim
          | stuck => simp only [ee] at k; exact k.elim
          | ok y5 S5 =>
            simp only [ee] at k
            intro W5 H5 s5 r5 v5 rv5
            obtain ⟨hD5, hF5, hl5⟩ := s5.stays hD4 hl4 hF4 r5 (fun xs z => by cases z)
            have s15 := s14.trans s5
            have ra5 := (ra.step s04).step s5
            refine ⟨us, hD5, by rw [ra5.len]; omega, ?_⟩
            refine ⟨W5, S5, acc ++ [y5], us ++ [v5], s15.off hD, r5.off hF5 hl5, upd_same, hF5, hl5, ra5.app (.cons rv5 .nil), by simpa using hacc, hlt, ?_⟩
            cases ec : compL g t e (wipeR ρ vs) (xs.drop (i + 1)) S5 with
            | ok ys S6 =>
              rw [ec] at k
              have k : GoP Wx W1 σ H1 (fin (acc ++ (y5 :: ys)) S6) (QV Q) := k
              show GoP Wx W1 σ H1 (fin (acc ++ [y5] ++ ys) S6) (QV Q)
              rw [List.append_assoc]
              exact k
            | exc C fs S6 => rw [ec] at k; exact k.elim
            | stuck => rw [ec] at k; exact k.elim
  · left
    have hd : xs.drop i = [] := List.drop_eq_nil_of_le (by omega)
    rw [hd] at k
    have k : GoP Wx W1 σ H1 (fin (acc ++ []) S') (QV Q) := k
    rw [List.append_nil] at k
    exact ⟨(hJ i Wd S' H' st r').2 (by omega), hfin Wx W1 Wd H1 H' σ Q S' acc us D st r' hD hD' hF hl ra k⟩
section
variable {X : Cx} {Wx : WX} {elt tg iter : Expr} {ifs : List Expr} {scope : Scope} {pos : Pos} {it : Den (List AV)} {g : GDen} {t : Den Bool} {e : Den AV}
/-- the rules of a block, whatever its context -/
abbrev Blk (X : Cx) (scope : Scope) (P : Cx → Prop) : Prop := ∀ (s : Shared) (H : Hp) (C : Addr) (cl : List (Str × Addr)) (fp : List Addr), P (X.blk s H scope (compEnvC scope cl C X.env) fp)
theorem ve_compG {fin : List AV → Store → Out AV} (hfin : FinOk fin) (own : List (Str × Nat)) (hc : X.calm = true) (hN : X.N.Nodup) (hi : VI X Wx tg iter it) (ok : BlkOk X.N X.env.scope scope own) (hg : Blk X scope fun Y => VG Y (own.map (·.2)) tg g) (ht : Blk X scope fun Y => VTs Y W0 ifs t)
    (he : Blk X scope fun Y => VE Y W0 elt e) (hs : ∀ x, foldedSetIterable iter X.env x = pure x) : VE X Wx (.ListComp elt [⟨tg, iter, ifs, 0⟩] scope pos) (dCompG fin (own.map (·.2)) it g t e) :=
  .of (pe_lc hc hN hi.pi ok (fun s H C cl fp => (hg s H C cl fp).pg) (fun s H C cl fp => (ht s H C cl fp).pts) (fun s H C cl fp => (he s H C cl fp).pe) hs) fun σ H Q W ρ S r en h => tlc_of hfin r en h
theorem ve_comp (own : List (Str × Nat)) (hc : X.calm = true) (hN : X.N.Nodup) (hi : VI X Wx tg iter it) (ok : BlkOk X.N X.env.scope scope own) (hg : Blk X scope fun Y => VG Y (own.map (·.2)) tg g) (ht : Blk X scope fun Y => VTs Y W0 ifs t)
    (he : Blk X scope fun Y => VE Y W0 elt e) (hs : ∀ x, foldedSetIterable iter X.env x = pure x := by intro _; rfl) : VE X Wx (.ListComp elt [⟨tg, iter, ifs, 0⟩] scope pos) (dComp (own.map (·.2)) it g t e) := ve_compG finV_ok own hc hN hi ok hg ht he hs
theorem ve_compC (own : List (Str × Nat)) (hc : X.calm = true) (hN : X.N.Nodup) (hi : VI X Wx tg iter it) (ok : BlkOk X.N X.env.scope scope own) (hg : Blk X scope fun Y => VG Y (own.map (·.2)) tg g) (ht : Blk X scope fun Y => VTs Y W0 ifs t)
    (he : Blk X scope fun Y => VE Y W0 elt e) (hs : ∀ x, foldedSetIterable iter X.env x = pure x := by intro _; rfl) : VE X Wx (.ListComp elt [⟨tg, iter, ifs, 0⟩] scope pos) (dCompC (own.map (·.2)) it g t e) := ve_compG finC_ok own hc hN hi ok hg ht he hs
/-- y = [..]: the name a local -/
theorem vs_setCompG {fin : List AV → Store → Out AV} (hfin : FinOk fin) (i : Nat) (own : List (Str × Nat)) {y : Str} {py spos : Pos} (hc : X.calm = true) (hN : X.N.Nodup) (hi : VI X Wx tg iter it) (ok : BlkOk X.N X.env.scope scope own) (hg : Blk X scope fun Y => VG Y (own.map (·.2)) tg g) (ht : Blk X scope fun Y => VTs Y W0 ifs t)
    (he : Blk X scope fun Y => VE Y W0 elt e) (hy : X.N[i]? = some y) (hyl : X.env.scope.names.lookup y = some .local) (hsw : swapsWith (.ListComp elt [⟨tg, iter, ifs, 0⟩] scope pos) (some (.Name y py)) spos.line X.env = pure true) (hs : ∀ x, foldedSetIterable iter X.env x = pure x) :
    VS X Wx (.Assign [.Name y py] (.ListComp elt [⟨tg, iter, ifs, 0⟩] scope pos) spos) (dSet i (dCompG fin (own.map (·.2)) it g t e)) :=
  .of (ps_setLc hc hN hy hyl hsw hi.pi ok (fun s H C cl fp => (hg s H C cl fp).pg) (fun s H C cl fp => (ht s H C cl fp).pts) (fun s H C cl fp => (he s H C cl fp).pe) hs) fun D σ H W ρ S r en h => by
    have h : GoS Wx W H D ((dCompG fin (own.map (·.2)) it g t e ρ S).st ρ fun a S1 => .go .nx (ρ.set i (some a)) S1) := h
    refine tlc_of (Wx := Wx) hfin r en ((go_st en h).imp fun a S1 W1 H1 s1 r1 h1 v rv => ?_)
    exact h1.here r1 ((en.step s1).set rv i)
theorem vs_setComp (i : Nat) (own : List (Str × Nat)) {y : Str} {py spos : Pos} (hc : X.calm = true) (hN : X.N.Nodup) (hi : VI X Wx tg iter it) (ok : BlkOk X.N X.env.scope scope own) (hg : Blk X scope fun Y => VG Y (own.map (·.2)) tg g) (ht : Blk X scope fun Y => VTs Y W0 ifs t)
    (he : Blk X scope fun Y => VE Y W0 elt e) (hy : X.N[i]? = some y := by rfl) (hyl : X.env.scope.names.lookup y = some .local := by rfl) (hsw : swapsWith (.ListComp elt [⟨tg, iter, ifs, 0⟩] scope pos) (some (.Name y py)) spos.line X.env = pure true := by exact sw_true rfl rfl rfl (by decide +kernel)) (hs : ∀ x, foldedSetIterable iter X.env x = pure x := by intro _; rfl) :
    VS X Wx (.Assign [.Name y py] (.ListComp elt [⟨tg, iter, ifs, 0⟩] scope pos) spos) (dSet i (dComp (own.map (·.2)) it g t e)) := vs_setCompG finV_ok i own hc hN hi ok hg ht he hy hyl hsw hs
theorem vs_setCompC (i : Nat) (own : List (Str × Nat)) {y : Str} {py spos : Pos} (hc : X.calm = true) (hN : X.N.Nodup) (hi : VI X Wx tg iter it) (ok : BlkOk X.N X.env.scope scope own) (hg : Blk X scope fun Y => VG Y (own.map (·.2)) tg g) (ht : Blk X scope fun Y => VTs Y W0 ifs t)
    (he : Blk X scope fun Y => VE Y W0 elt e) (hy : X.N[i]? = some y := by rfl) (hyl : X.env.scope.names.lookup y = some .local := by rfl) (hsw : swapsWith (.ListComp elt [⟨tg, iter, ifs, 0⟩] scope pos) (some (.Name y py)) spos.line X.env = pure true := by exact sw_true rfl rfl rfl (by decide +kernel)) (hs : ∀ x, foldedSetIterable iter X.env x = pure x := by intro _; rfl) :
    VS X Wx (.Assign [.Name y py] (.ListComp elt [⟨tg, iter, ifs, 0⟩] scope pos) spos) (dSet i (dCompC (own.map (·.2)) it g t e)) := vs_setCompG finC_ok i own hc hN hi ok hg ht he hy hyl hsw hs
end
end VL

namespace VL
open PySem PySem.Spec PyProof.Rows L2

/-- some dicts are locked for good -/
inductive LockTo (P : Hp → Prop) : Hp → Prop
  | done {H : Hp} : P H → LockTo P H
  | lock {H : Hp} {d : Addr} {u : HO} : H d = some u → Mut (some u) → (∀ od, LockTo P (upd H d (.frz od u))) → LockTo P H
theorem LockTo.bind {P Q : Hp → Prop} {H : Hp} (h : LockTo P H) (f : ∀ H, P H → LockTo Q H) : LockTo Q H := by
  induction h with
  | done p => exact f _ p
  | lock hd mu _ ih => exact .lock hd mu ih
theorem LockTo.run {X : Cx} {pins : List (Addr × Obj)} {σ : L2.St} {s : Shared} {P : Hp → Prop} {H : Hp} (h : LockTo P H) : Inv X pins σ H s → ∃ H', Inv X pins σ H' s ∧ P H' := by
  induction h with
  | done p => exact fun I => ⟨_, I, p⟩
  | lock hd mu _ ih =>
    intro I
    obtain ⟨od, I2⟩ := I.lock hd mu
    exact ih od I2
/-- the ends of a body, locks allowed -/
def lockE (D : Ends) : Ends := ⟨fun σ H => LockTo (D.nx σ) H, fun v H => LockTo (D.rt v) H, fun σ H => LockTo (D.bk σ) H, fun σ H => LockTo (D.ct σ) H⟩
theorem pss_lock {X : Cx} {st : List Stmt} {t : TS} (h : PSs X st t) : PSs X st (fun D σ H => t (lockE D) σ H) :=
  ⟨fun pins s σ H D I q => thn (h.run pins s σ H (lockE D) I q) fun f s1 z => by
    cases f with
    | next =>
      obtain ⟨σ', H', I', q'⟩ := z
      obtain ⟨H2, I2, q2⟩ := LockTo.run q' I'
      exact ⟨σ', H2, I2, q2⟩
    | brk =>
      obtain ⟨σ', H', I', q'⟩ := z
      obtain ⟨H2, I2, q2⟩ := LockTo.run q' I'
      exact ⟨σ', H2, I2, q2⟩
    | cont =>
      obtain ⟨σ', H', I', q'⟩ := z
      obtain ⟨H2, I2, q2⟩ := LockTo.run q' I'
      exact ⟨σ', H2, I2, q2⟩
    | ret u =>
      obtain ⟨v, σ', H', I', r, q'⟩ := z
      obtain ⟨H2, I2, q2⟩ := LockTo.run q' I'
      exact ⟨v, σ', H2, I2, r, q2⟩⟩

def shal (S : Store) : AV → Option D
  | .val d => some d
  | .cell j => (match S[j]? with
    | some (.fz d) => some d
    | _ => none)
  | .hot => none
def shals (S : Store) : List AV → Option (List D)
  | [] => some []
  | a :: r => (match shal S a, shals S r with
    | some d, some ds => some (d :: ds)
    | _, _ => none)
def shalK {κ : Type} (S : Store) : List (κ × AV) → Option (List (κ × D))
  | [] => some []
  | (k, a) :: r => (match shal S a, shalK S r with
    | some d, some ds => some ((k, d) :: ds)
    | _, _ => none)
@[simp] theorem shals_vals (S : Store) : ∀ ds : List D, shals S (ds.map .val) = some ds
  | [] => rfl
  | d :: ds => by simp [shals, shal, shals_vals S ds]
@[simp] theorem shalK_vals {κ : Type} (S : Store) : ∀ ds : List (κ × D), shalK S (ds.map fun p => (p.1, .val p.2)) = some ds
  | [] => rfl
  | d :: ds => by simp [shalK, shal, shalK_vals S ds]
def kids : Cell → List AV
  | .lst xs => xs
  | .dK kvs => kvs.map (·.2)
  | .dT kvs => kvs.map (·.2)
  | .ins _ fs => fs.map (·.2)
  | .fz _ => []
def shalC (S : Store) : Cell → Option D
  | .lst xs => (shals S xs).map .lst
  | .dK kvs => (shalK S kvs).map .dK
  | .dT kvs => (shalK S kvs).map .dT
  | .ins C fs => (shalK S fs).map (.obj C)
  | .fz d => some d
def frzKids (f : Store → AV → Option Store) : Store → List AV → Option Store
  | S, [] => some S
  | S, a :: r => (match f S a with
    | some S1 => frzKids f S1 r
    | none => none)
/-- the store behind the freezing of a -/
def frzD : Nat → Store → AV → Option Store
  | _, S, .val _ => some S
  | 0, _, _ => none
  | k + 1, S, .cell i => (match S[i]? with
    | some c => (match frzKids (frzD k) S (kids c) with
      | some S1 => (match S1[i]? with
        | some c1 => (shalC S1 c1).map fun d => S1.set i (.fz d)
        | none => none)
      | none => none)
    | none => none)
  | _ + 1, _, .hot => none
@[simp] theorem frzKids_vals (k : Nat) (S : Store) : ∀ ds : List D, frzKids (frzD k) S (ds.map .val) = some S
  | [] => rfl
  | d :: ds => by
    have e : frzD k S (.val d) = some S := by cases k <;> rfl
    simp [frzKids, e, frzKids_vals k S ds]
section
variable {W : Wd} {S S' : Store} {H : Hp}
theorem shal_ok {v : V} {a : AV} {d : D} (r : Rel W S H) (ra : AVR W v a) (h : shal S a = some d) : Rep W.F v d := by
  cases a with
  | val e => cases h; exact ra
  | hot => cases h
  | cell j =>
    obtain ⟨p, hp, e⟩ := ra
    subst e
    unfold shal at h
    cases hj : S[j]? with
    | none => simp only [hj] at h; cases h
    | some c =>
      cases c with
      | fz e => simp only [hj] at h; cases h; exact (r.ok j _ p hj hp).1
      | _ => simp only [hj] at h; cases h
theorem shals_ok (r : Rel W S H) : ∀ {as : List AV} {vs : List V} {ds : List D}, AVs W vs as → shals S as = some ds → Reps W.F vs ds
  | [], _, _, .nil, h => by cases h; exact .nil
  | a :: as, _, ds, .cons ra rs, h => by
    unfold shals at h
    cases e1 : shal S a with
    | none => simp only [e1] at h; cases h
    | some d =>
      cases e2 : shals S as with
      | none => simp only [e1, e2] at h; cases h
      | some es => simp only [e1, e2] at h; cases h; exact .cons (shal_ok r ra e1) (shals_ok r rs e2)
theorem shalK_ok (r : Rel W S H) : ∀ {as : List (Key × AV)} {vs : List (Key × V)} {ds : List (Key × D)}, AKs W vs as → shalK S as = some ds → RepK W.F vs ds
  | [], _, _, .nil, h => by cases h; exact .nil
  | (k, a) :: as, _, ds, .cons ra rs, h => by
    unfold shalK at h
    cases e1 : shal S a with
    | none => simp only [e1] at h; cases h
    | some d =>
      cases e2 : shalK S as with
      | none => simp only [e1, e2] at h; cases h
      | some es => simp only [e1, e2] at h; cases h; exact .cons (shal_ok r ra e1) (shalK_ok r rs e2)
theorem shalT_ok (r : Rel W S H) : ∀ {as : List (List Key × AV)} {vs : List (List Key × V)} {ds : List (List Key × D)}, AKs W vs as → shalK S as = some ds → RepT W.F vs ds
  | [], _, _, .nil, h => by cases h; exact .nil
  | (k, a) :: as, _, ds, .cons ra rs, h => by
    unfold shalK at h
    cases e1 : shal S a with
    | none => simp only [e1] at h; cases h
    | some d =>
      cases e2 : shalK S as with
      | none => simp only [e1, e2] at h; cases h
      | some es => simp only [e1, e2] at h; cases h; exact .cons (shal_ok r ra e1) (shalT_ok r rs e2)
theorem shalF_ok (r : Rel W S H) : ∀ {as : List (Str × AV)} {vs : List (Str × V)} {ds : List (Str × D)}, AKs W vs as → shalK S as = some ds → RepF W.F vs ds
  | [], _, _, .nil, h => by cases h; exact .nil
  | (k, a) :: as, _, ds, .cons ra rs, h => by
    unfold shalK at h
    cases e1 : shal S a with
    | none => simp only [e1] at h; cases h
    | some d =>
      cases e2 : shalK S as with
      | none => simp only [e1, e2] at h; cases h
      | some es => simp only [e1, e2] at h; cases h; exact .cons (shal_ok r ra e1) (shalF_ok r rs e2)
theorem RepK.mono' {F G : Hp} (e : Sub F G) {v : List (Key × V)} {d : List (Key × D)} (h : RepK F v d) : RepK G v d := RepK.mono e h
/-- one cell frozen, its parts being data -/
theorem shalC_ok {i : Nat} {c : Cell} {d : D} (r : Rel W S H) (hi : S[i]? = some c) (h : shalC S c = some d) : LockTo (fun H1 => ∃ W1, Step W H W1 H1 ∧ Rel W1 (S.set i (.fz d)) H1) H := by
  obtain ⟨p, hp, hc⟩ := r.at hi
  have sub : ∀ o, W.F p = none → Sub W.F (upd W.F p o) := fun o n a u e => by rw [upd_ne (fun z => by rw [z, n] at e; cases e)]; exact e
  cases c with
  | lst xs =>
    obtain ⟨n, vs, h1, h2⟩ := hc
    cases e : shals S xs with
    | none => simp [shalC, e] at h
    | some ds =>
      simp [shalC, e] at h
      subst h
      obtain ⟨r', s'⟩ := r.freeze (o := .lst vs) (d := .lst ds) hp n (.lst upd_same ((shals_ok r h2 e).mono (sub _ n)))
      rw [upd_id h1] at r' s'
      exact .done ⟨_, s', r'⟩
  | dK xs =>
    obtain ⟨n, vs, h1, h2⟩ := hc
    cases e : shalK S xs with
    | none => simp [shalC, e] at h
    | some ds =>
      simp [shalC, e] at h
      subst h
      refine .lock h1 trivial fun od => ?_
      obtain ⟨r', s'⟩ := r.freeze (o := .frz od (.dK vs)) (d := .dK ds) hp n (.dK upd_same ((shalK_ok r h2 e).mono (sub _ n)))
      exact .done ⟨_, s', r'⟩
  | dT xs =>
    obtain ⟨n, vs, h1, h2⟩ := hc
    cases e : shalK S xs with
    | none => simp [shalC, e] at h
    | some ds =>
      simp [shalC, e] at h
      subst h
      refine .lock h1 trivial fun od => ?_
      obtain ⟨r', s'⟩ := r.freeze (o := .frz od (.dT vs)) (d := .dT ds) hp n (.dT upd_same ((shalT_ok r h2 e).mono (sub _ n)))
      exact .done ⟨_, s', r'⟩
  | ins C xs =>
    obtain ⟨n, dx, vs, h1, hf, h2⟩ := hc
    cases e : shalK S xs with
    | none => simp [shalC, e] at h
    | some ds =>
      simp [shalC, e] at h
      subst h
      obtain ⟨r', s'⟩ := r.freeze (o := .ins C dx vs) (d := .obj C ds) hp n (.obj upd_same (sub _ n _ _ hf) ((shalF_ok r h2 e).mono (sub _ n)))
      rw [upd_id h1] at r' s'
      exact .done ⟨_, s', r'⟩
  | fz e =>
    simp [shalC] at h
    subst h
    have e2 : S.set i (.fz e) = S := by
      obtain ⟨hl, hv⟩ := List.getElem?_eq_some_iff.mp hi
      rw [← hv]
      exact List.set_getElem_self hl
    rw [e2]
    exact .done ⟨W, Step.refl _ _, r⟩
end
theorem frzKids_ok {f : Store → AV → Option Store} (hf : ∀ (W : Wd) (S S' : Store) (H : Hp) (a : AV), Rel W S H → f S a = some S' → LockTo (fun H1 => ∃ W1, Step W H W1 H1 ∧ Rel W1 S' H1) H) :
    ∀ (as : List AV) (W : Wd) (S S' : Store) (H : Hp), Rel W S H → frzKids f S as = some S' → LockTo (fun H1 => ∃ W1, Step W H W1 H1 ∧ Rel W1 S' H1) H
  | [], W, S, S', H, r, h => by cases h; exact .done ⟨W, Step.refl _ _, r⟩
  | a :: as, W, S, S', H, r, h => by
    unfold frzKids at h
    cases e : f S a with
    | none => rw [e] at h; cases h
    | some S1 =>
      rw [e] at h
      refine (hf W S S1 H a r e).bind fun H1 ⟨W1, s1, r1⟩ => (frzKids_ok hf as W1 S1 S' H1 r1 h).bind fun H2 ⟨W2, s2, r2⟩ => .done ⟨W2, s1.trans s2, r2⟩
theorem frzD_ok : ∀ (k : Nat) (W : Wd) (S S' : Store) (H : Hp) (a : AV), Rel W S H → frzD k S a = some S' → LockTo (fun H1 => ∃ W1, Step W H W1 H1 ∧ Rel W1 S' H1) H
  | k, W, S, S', H, .val d, r, h => by
    have e : S' = S := by cases k <;> (cases h; rfl)
    subst e
    exact .done ⟨W, Step.refl _ _, r⟩
  | 0, W, S, S', H, .cell i, r, h => by cases h
  | k + 1, W, S, S', H, .cell i, r, h => by
    unfold frzD at h
    cases e1 : S[i]? with
    | none => simp only [e1] at h; cases h
    | some c =>
      simp only [e1] at h
      cases e2 : frzKids (frzD k) S (kids c) with
      | none => simp only [e2] at h; cases h
      | some S1 =>
        simp only [e2] at h
        cases e3 : S1[i]? with
        | none => simp only [e3] at h; cases h
        | some c1 =>
          simp only [e3] at h
          cases e4 : shalC S1 c1 with
          | none => rw [e4] at h; cases h
          | some d =>
            rw [e4] at h
            cases h
            refine (frzKids_ok (frzD_ok k) _ W S S1 H r e2).bind fun H1 ⟨W1, s1, r1⟩ => (shalC_ok r1 e3 e4).bind fun H2 ⟨W2, s2, r2⟩ => .done ⟨W2, s1.trans s2, r2⟩
  | 0, W, S, S', H, .hot, r, h => by cases h
  | k + 1, W, S, S', H, .hot, r, h => by cases h

def okAV (n : Nat) : AV → Bool
  | .val _ => true
  | .cell i => decide (i < n)
  | .hot => true
def closedC (n : Nat) : Cell → Bool
  | .lst xs => xs.all (okAV n)
  | .dK kvs => kvs.all fun p => okAV n p.2
  | .dT kvs => kvs.all fun p => okAV n p.2
  | .ins _ fs => fs.all fun p => okAV n p.2
  | .fz _ => true
open Classical in
noncomputable def chkL (n : Nat) : Store → Store → Bool
  | [], _ => true
  | c :: S, c' :: S' => (closedC n c' || decide (c' = c)) && chkL n S S'
  | _ :: _, [] => false
@[simp] theorem chkL_same (n : Nat) : ∀ S J : Store, chkL n S (S ++ J) = true
  | [], J => by simp [chkL]
  | c :: S, J => by simp [chkL, chkL_same n S J]
@[simp] theorem chkL_self (n : Nat) (S : Store) : chkL n S S = true := by
  have h := chkL_same n S []
  rwa [List.append_nil] at h
theorem chkL_set {n : Nat} {c : Cell} (h : closedC n c = true) : ∀ (S S' J : Store) (i : Nat), chkL n S (S' ++ J) = true → chkL n S (S'.set i c ++ J) = true
  | S, [], J, i, q => q
  | [], _ :: _, J, i, q => by simp [chkL]
  | c0 :: S, c' :: S', J, 0, q => by
    simp only [List.set_cons_zero, List.cons_append, chkL, Bool.and_eq_true, Bool.or_eq_true] at q ⊢
    exact ⟨.inl h, q.2⟩
  | c0 :: S, c' :: S', J, i + 1, q => by
    simp only [List.set_cons_succ, List.cons_append, chkL, Bool.and_eq_true] at q ⊢
    exact ⟨q.1, chkL_set h S S' J i q.2⟩
/-- the store cut to what the caller has; the value made data if it is one of the def's own -/
noncomputable def trimV (S : Store) (a : AV) (S' : Store) : Out AV := if chkL S.length S S' then .ok a (S'.take S.length) else .ok a S'
noncomputable def trim (S : Store) : Out AV → Out AV
  | .ok (.val d) S' => trimV S (.val d) S'
  | .ok (.cell i) S' => if i < S.length then trimV S (.cell i) S' else (match frzD 9 S' (.cell i) with
    | some S1 => (match shal S1 (.cell i) with
      | some d => trimV S (.val d) S1
      | none => .ok (.cell i) S')
    | none => .ok (.cell i) S')
  | .exc C fs S' => if fs.all (fun p => okAV S.length p.2) && chkL S.length S S' then .exc C fs (S'.take S.length) else .exc C fs S'
  | o => o
section
variable {W W2 : Wd} {S S' : Store} {H H2 : Hp}
theorem AVR.cut {n : Nat} {v : V} : ∀ {a : AV}, AVR W2 v a → okAV n a = true → AVR { W2 with loc := W2.loc.take n } v a
  | .val _, h, _ => h
  | .cell i, ⟨p, h, e⟩, q => ⟨p, by
    show (W2.loc.take n)[i]? = some p
    have q : i < n := by simpa [okAV] using q
    rw [List.getElem?_take_of_lt q]; exact h, e⟩
  | .hot, h, _ => h
theorem AVs.cut {n : Nat} : ∀ {vs : List V} {as : List AV}, AVs W2 vs as → as.all (okAV n) = true → AVs { W2 with loc := W2.loc.take n } vs as
  | _, _, .nil, _ => .nil
  | _, _, .cons h r, q => by
    rw [List.all_cons, Bool.and_eq_true] at q
    exact .cons (h.cut q.1) (AVs.cut r q.2)
theorem AKs.cut {κ : Type} {n : Nat} : ∀ {vs : List (κ × V)} {as : List (κ × AV)}, AKs W2 vs as → (as.all fun p => okAV n p.2) = true → AKs { W2 with loc := W2.loc.take n } vs as
  | _, _, .nil, _ => .nil
  | _, _, .cons h r, q => by
    rw [List.all_cons, Bool.and_eq_true] at q
    exact .cons (h.cut q.1) (AKs.cut r q.2)
theorem okAV_of {n : Nat} {v : V} {a : AV} (h : AVR W v a) (hn : W.loc.length = n) : okAV n a = true := by
  cases a with
  | val d => rfl
  | hot => rfl
  | cell i =>
    obtain ⟨p, hp, _⟩ := h
    have := (List.getElem?_eq_some_iff.mp hp).1
    simp [okAV]; omega
theorem okAVs_of {n : Nat} (hn : W.loc.length = n) : ∀ {vs : List V} {as : List AV}, AVs W vs as → as.all (okAV n) = true
  | _, _, .nil => rfl
  | _, _, .cons h r => by rw [List.all_cons, okAV_of h hn, okAVs_of hn r]; rfl
theorem okAKs_of {κ : Type} {n : Nat} (hn : W.loc.length = n) : ∀ {vs : List (κ × V)} {as : List (κ × AV)}, AKs W vs as → (as.all fun p => okAV n p.2) = true
  | _, _, .nil => rfl
  | _, _, .cons h r => by rw [List.all_cons, okAV_of h hn, okAKs_of hn r]; rfl
theorem closed_of {n : Nat} {p : Addr} {c : Cell} (hn : W.loc.length = n) (h : CellOk W H p c) : closedC n c = true := by
  cases c with
  | lst xs => obtain ⟨_, vs, _, r⟩ := h; exact okAVs_of hn r
  | dK xs => obtain ⟨_, vs, _, r⟩ := h; exact okAKs_of hn r
  | dT xs => obtain ⟨_, vs, _, r⟩ := h; exact okAKs_of hn r
  | ins C xs => obtain ⟨_, _, vs, _, _, r⟩ := h; exact okAKs_of hn r
  | fz d => rfl
theorem CellOk.cut {n : Nat} {p : Addr} {c : Cell} (h : CellOk W2 H2 p c) (q : closedC n c = true) : CellOk { W2 with loc := W2.loc.take n } H2 p c := by
  cases c with
  | lst xs => obtain ⟨a, vs, b, r⟩ := h; exact ⟨a, vs, b, r.cut q⟩
  | dK xs => obtain ⟨a, vs, b, r⟩ := h; exact ⟨a, vs, b, r.cut q⟩
  | dT xs => obtain ⟨a, vs, b, r⟩ := h; exact ⟨a, vs, b, r.cut q⟩
  | ins C xs => obtain ⟨a, dx, vs, b, f, r⟩ := h; exact ⟨a, dx, vs, b, f, r.cut q⟩
  | fz d => exact h
theorem chkL_get {n : Nat} : ∀ {S S' : Store} {i : Nat} {c' : Cell}, chkL n S S' = true → i < S.length → S'[i]? = some c' → closedC n c' = true ∨ S[i]? = some c'
  | c :: S, d :: S', 0, c', h, _, e => by
    simp at e
    subst e
    simp only [chkL, Bool.and_eq_true, Bool.or_eq_true, decide_eq_true_eq] at h
    rcases h.1 with q | q
    · exact .inl q
    · subst q; exact .inr rfl
  | c :: S, d :: S', i + 1, c', h, hl, e => by
    simp only [chkL, Bool.and_eq_true] at h
    have := chkL_get (S := S) (S' := S') (i := i) (c' := c') h.2 (by simpa using hl) (by simpa using e)
    simpa using this
  | c :: S, [], i, c', h, _, e => by simp at e
  | [], _, i, c', h, hl, _ => by simp at hl
theorem chkL_len {n : Nat} : ∀ {S S' : Store}, chkL n S S' = true → S.length ≤ S'.length
  | [], _, _ => by simp
  | c :: S, d :: S', h => by
    simp only [chkL, Bool.and_eq_true] at h
    simpa using chkL_len h.2
  | c :: S, [], h => by simp [chkL] at h
theorem Rel.trim (r : Rel W S H) (s : Step W H W2 H2) (r2 : Rel W2 S' H2) (h : chkL S.length S S' = true) : Step W H { W2 with loc := W2.loc.take S.length } H2 ∧ Rel { W2 with loc := W2.loc.take S.length } (S'.take S.length) H2 := by
  obtain ⟨m, hm⟩ := s.loc
  have ht : W2.loc.take S.length = W.loc := by rw [hm, ← r.len]; simp
  refine ⟨⟨s.F, ⟨[], by show W2.loc.take S.length = _; rw [ht]; simp⟩, s.hot, fun a q => .inl ?_, s.newF, s.keep⟩, ⟨r2.sub, ?_, ?_, fun i c p hi hp => ?_⟩⟩
  · have q : a ∈ W2.loc.take S.length := q
    rw [ht] at q; exact q
  · show (W2.loc.take S.length).length = _
    rw [ht, r.len, List.length_take]
    have := chkL_len h
    omega
  · show (W2.loc.take S.length).Nodup
    rw [ht]; exact r.nd
  · have hp : (W2.loc.take S.length)[i]? = some p := hp
    have hlt : i < S.length := by
      rw [ht] at hp
      rw [← r.len]; exact (List.getElem?_eq_some_iff.mp hp).1
    rw [List.getElem?_take_of_lt hlt] at hp
    rw [List.getElem?_take_of_lt hlt] at hi
    refine (r2.ok i c p hi hp).cut ?_
    rcases chkL_get h hlt hi with q | q
    · exact q
    · obtain ⟨p0, hp0, c0⟩ := r.at q
      exact closed_of r.len c0
end
/-- what a def promises, by its denotation -/
abbrev FDen := List AV → Store → Out AV
abbrev WxE (E : XK) : WX := fun cls d _ H => E cls d H
def spOf (n : Nat) (den : FDen) : Sp := fun vs H Q E => vs.length = n ∧ ∃ W S as, Rel W S H ∧ AVs W vs as ∧ GoP (WxE E) W [] H (den as S) (QV Q)
/-- a body as a def -/
def fnRaw (n : Nat) (b : SDen) : FDen := fun as S => match b (as.map some ++ List.replicate (n - as.length) none) S with
  | .go .nx _ S' => .ok (.val .non) S'
  | .go (.rt a) _ S' => .ok a S'
  | .exc C fs _ S' => .exc C fs S'
  | _ => .stuck
noncomputable def fnDen (n : Nat) (b : SDen) : FDen := fun as S => trim S (fnRaw n b as S)
/-- a def that hands back a cell of its own -/
def fnKeep (n : Nat) (b : SDen) : FDen := fnRaw n b
theorem go_noσ {Wx Wy : WX} {W : Wd} {σ τ : L2.St} {H : Hp} {α : Type} {o : Out α} {P : α → Store → Wd → Hp → Prop} (h : GoP Wx W σ H o P) (f : ∀ c d H, Wx c d σ H → Wy c d τ H) : GoP Wy W τ H o P := by
  cases o with
  | ok a S => exact h
  | exc C fs S => exact fun W' H' cls d s r x => f _ _ _ (h W' H' cls d s r x)
  | stuck => exact h
theorem trim_ok {Wx : WX} {W : Wd} {S : Store} {H : Hp} {σ : L2.St} {o : Out AV} {Q : VK} (r : Rel W S H) (h : GoP Wx W σ H (trim S o) (QV Q)) :
    GoP Wx W σ H o (fun a _ W' H' => ∀ v, AVR W' v a → LockTo (Q v) H') := by
  cases o with
  | stuck => exact h
  | exc C fs S' =>
    have h : GoP Wx W σ H (if (fs.all (fun p => okAV S.length p.2) && chkL S.length S S') then .exc C fs (S'.take S.length) else .exc C fs S') (QV Q) := h
    intro W2 H2 cls d s2 r2 x
    cases ec : (fs.all (fun p => okAV S.length p.2) && chkL S.length S S') with
    | false => rw [if_neg (by rw [ec]; exact Bool.false_ne_true)] at h; exact h W2 H2 cls d s2 r2 x
    | true =>
      rw [if_pos ec] at h
      rw [Bool.and_eq_true] at ec
      obtain ⟨s3, r3⟩ := r.trim s2 r2 ec.2
      refine h _ H2 cls d s3 r3 ⟨x.1, ?_⟩
      rcases x.2 with q | ⟨dd, vs, e1, e2, e3⟩
      · exact .inl q
      · exact .inr ⟨dd, vs, e1, e2, e3.cut ec.1⟩
  | ok a S' =>
    have tv : ∀ {a : AV} {S1 : Store} {W2 : Wd} {H2 : Hp} {v : V}, okAV S.length a = true → GoP Wx W σ H (trimV S a S1) (QV Q) → Step W H W2 H2 → Rel W2 S1 H2 → AVR W2 v a → Q v H2 := by
      intro a S1 W2 H2 v hok g s2 r2 rv
      unfold trimV at g
      cases ec : chkL S.length S S1 with
      | false => rw [if_neg (by rw [ec]; exact Bool.false_ne_true)] at g; exact g W2 H2 s2 r2 v rv
      | true =>
        rw [if_pos ec] at g
        obtain ⟨s3, r3⟩ := r.trim s2 r2 ec
        exact g _ H2 s3 r3 v (rv.cut hok)
    intro W2 H2 s2 r2 v rv
    cases a with
    | val d => exact .done (tv (a := .val d) rfl h s2 r2 rv)
    | hot => exact .done (h W2 H2 s2 r2 v rv)
    | cell i =>
      have h : GoP Wx W σ H (if i < S.length then trimV S (.cell i) S' else (match frzD 9 S' (.cell i) with
        | some S1 => (match shal S1 (.cell i) with
          | some d => trimV S (.val d) S1
          | none => .ok (.cell i) S')
        | none => .ok (.cell i) S')) (QV Q) := h
      by_cases hi : i < S.length
      · rw [if_pos hi] at h
        exact .done (tv (a := .cell i) (by simp [okAV, hi]) h s2 r2 rv)
      · rw [if_neg hi] at h
        cases e1 : frzD 9 S' (.cell i) with
        | none => rw [e1] at h; exact .done (h W2 H2 s2 r2 v rv)
        | some S1 =>
          rw [e1] at h
          have h : GoP Wx W σ H (match shal S1 (.cell i) with
            | some d => trimV S (.val d) S1
            | none => .ok (.cell i) S') (QV Q) := h
          cases e2 : shal S1 (.cell i) with
          | none => rw [e2] at h; exact .done (h W2 H2 s2 r2 v rv)
          | some d =>
            rw [e2] at h
            exact (frzD_ok 9 W2 S' S1 H2 (.cell i) r2 e1).bind fun H3 ⟨W3, s3, r3⟩ => .done (tv (a := .val d) rfl h (s2.trans s3) r3 (shal_ok r3 (rv.step s3) e2))
end VL

namespace VL
open PySem PySem.Spec PyProof.Rows L2

abbrev bX (P : Program) (w : World) (K : PySem.W.Frag) (mg : Str → Option Value) (base : Heap) (N : List Str) (qual : Str) (scope : Scope) (f : Addr) (cdv : Value) (A : Around) (outer : List Env) (s : Shared) (H : Hp) (E : XK) : Cx := cxOf (L2.CX P w) P w K mg base N qual scope f cdv A outer s H E
/-- a function object that keeps den -/
structure VFn (P : Program) (w : World) (K : PySem.W.Frag) (mg : Str → Option Value) (base : Heap) (k n : Nat) (f : Addr) (das : List AV) (den : FDen) : Prop where
  ex : ∃ fd ps dvs ds, ps.length = n ∧ FnOk P w K mg base (L2.CX P w) k f fd ps (spOf ps.length den) ∧ Binds K fd ps ds ∧ Vals dvs ds ∧ ∀ W, AVs W dvs das
/-- .. at the module's name x -/
structure VF (P : Program) (w : World) (K : PySem.W.Frag) (mg : Str → Option Value) (base : Heap) (k n : Nat) (x : Str) (das : List AV) (den : FDen) : Prop where
  ex : ∃ f, mg x = some (.ref f) ∧ PySem.W.keepIn K (.ref f) = true ∧ VFn P w K mg base k n f das den
section
variable {P : Program} {w : World} {K : PySem.W.Frag} {mg : Str → Option Value} {base : Heap} {x qual : Str} {params : Arguments} {body : List Stmt} {scope : Scope} {kws : List (Str × V)} {f : Addr} {fd : FuncData} {N ps : List Str} {k : Nat} {b : SDen}
theorem go_raw {E : XK} {n : Nat} {W : Wd} {H : Hp} {Q : VK} {as : List AV} {S : Store} (h : GoP (WxE E) W [] H (fnRaw n b as S) (fun a _ W' H' => ∀ v, AVR W' v a → LockTo (Q v) H')) :
    GoS (WxE E) W H (lockE { nx := fun _ H' => Q .non H', rt := Q }) (b (as.map some ++ List.replicate (n - as.length) none) S) := by
  unfold fnRaw at h
  cases e : b (as.map some ++ List.replicate (n - as.length) none) S with
  | go fl ρ S' =>
    rw [e] at h
    cases fl with
    | nx => exact fun W' H' σ s r en => h W' H' s r .non .non
    | rt a => exact fun W' H' v s r rv => h W' H' s r v rv
    | bk => exact h.elim
    | ct => exact h.elim
  | exc C fs ρ S' => rw [e] at h; exact fun W' H' σ cls d s r en x => h W' H' cls d s r x
  | stuck => rw [e] at h; exact h.elim
theorem fn_okG {den : FDen} (hden : ∀ {E : XK} {W : Wd} {S : Store} {H : Hp} {Q : VK} {as : List AV}, Rel W S H → GoP (WxE E) W [] H (den as S) (QV Q) → GoP (WxE E) W [] H (fnRaw N.length b as S) (fun a _ W' H' => ∀ v, AVR W' v a → LockTo (Q v) H'))
    (F : FunD K x qual params body scope [] kws f fd) (S : FnScope N ps scope)
    (hb : ∀ (cdv : Value) (A : Around) (outer : List Env) (s : Shared) (H : Hp) (E : XK), Room k (A.deeper (envOfC qual scope s.heap.objs.size f cdv)) → VSs (bX P w K mg base N qual scope f cdv A outer s H E) (WxE E) body b) :
    FnOk P w K mg base (L2.CX P w) (k + 1) f fd ps (spOf ps.length den) :=
  F.ok S (fun vs H Q E h => h.1) fun cdv A outer s H vs Q E hr hsp => ⟨_, pss_lock (hb cdv A outer s H E hr).pss, by
    obtain ⟨hl, W, S, as, r, ra, g⟩ := hsp
    exact ⟨W, _, S, r, EnvR.start N ra, go_raw (hden r g)⟩⟩
theorem fn_ok (F : FunD K x qual params body scope [] kws f fd) (S : FnScope N ps scope)
    (hb : ∀ (cdv : Value) (A : Around) (outer : List Env) (s : Shared) (H : Hp) (E : XK), Room k (A.deeper (envOfC qual scope s.heap.objs.size f cdv)) → VSs (bX P w K mg base N qual scope f cdv A outer s H E) (WxE E) body b) :
    FnOk P w K mg base (L2.CX P w) (k + 1) f fd ps (spOf ps.length (fnDen N.length b)) := fn_okG (fun r g => trim_ok r g) F S hb
theorem fn_okK (F : FunD K x qual params body scope [] kws f fd) (S : FnScope N ps scope)
    (hb : ∀ (cdv : Value) (A : Around) (outer : List Env) (s : Shared) (H : Hp) (E : XK), Room k (A.deeper (envOfC qual scope s.heap.objs.size f cdv)) → VSs (bX P w K mg base N qual scope f cdv A outer s H E) (WxE E) body b) :
    FnOk P w K mg base (L2.CX P w) (k + 1) f fd ps (spOf ps.length (fnKeep N.length b)) := fn_okG (fun r g => g.imp fun a S' W' H' s r' q v rv => .done (q v rv)) F S hb
theorem vfn_of {den : FDen} (h : FnOk P w K mg base (L2.CX P w) k f fd ps (spOf ps.length den)) (hb : Binds K fd ps []) : VFn P w K mg base k ps.length f [] den := ⟨fd, ps, [], [], rfl, h, hb, .nil, fun _ => .nil⟩
theorem VFn.imp {j n : Nat} {das : List AV} {den : FDen} (h : VFn P w K mg base j n f das den) (hj : j ≤ k) : VFn P w K mg base k n f das den := by
  obtain ⟨fd, ps, dvs, ds, hl, a, r⟩ := h
  exact ⟨fd, ps, dvs, ds, hl, a.mono hj, r⟩
theorem VF.of {n : Nat} {das : List AV} {den : FDen} (h : VFn P w K mg base k n f das den) (hm : mg x = some (.ref f)) (hk : PySem.W.keepIn K (.ref f) = true) : VF P w K mg base k n x das den := ⟨f, hm, hk, h⟩
theorem VF.imp {j n : Nat} {das : List AV} {den : FDen} (h : VF P w K mg base j n x das den) (hj : j ≤ k) : VF P w K mg base k n x das den := by
  obtain ⟨f, hm, hk, a⟩ := h
  exact ⟨f, hm, hk, a.imp hj⟩
end
def dCall (n : Nat) (den : FDen) (das : List AV) (g : Den (List AV)) : Den AV := fun ρ S => (g ρ S).bind fun as S1 => if (as ++ das).length = n then den (as ++ das) S1 else .stuck
theorem sp_of {Wx : WX} {n : Nat} {den : FDen} {W : Wd} {S : Store} {H : Hp} {σ : L2.St} {vs : List V} {as : List AV} {Q : VK} (r : Rel W S H) (ra : AVs W vs as) (h : GoP Wx W σ H (if as.length = n then den as S else .stuck) (QV Q)) : spOf n den vs H Q (WE Wx σ) := by
  by_cases e : as.length = n
  · rw [if_pos e] at h
    exact ⟨ra.len.trans e, W, S, as, r, ra, go_noσ h fun c d H x => x⟩
  · rw [if_neg e] at h; exact h.elim
section
variable {X : Cx} {Wx : WX} {x : Str} {p pos : Pos} {e : Expr} {es : List Expr} {g : Den (List AV)} {das : List AV} {den : FDen} {k n : Nat}
theorem ve_call (F : VF X.prog X.w X.K X.mg X.base k n x das den) (hr : Room k X.A) (tk : Takes X Wx) (ha : VA X Wx (e :: es) g) (hg : Gl X x := by rfl) (hdb : (x == ("__debug__" : Str)) = false := by decide)
    (he : starEach (e :: es) X.env = (false, eval e X.env) :: starEach es X.env := by rfl) (hpl : (backTo pos (starEach es X.env)).any (·.1) = false := by rfl) : VE X Wx (.Call (.Name x p) (e :: es) [] pos) (dCall n den das g) := by
  obtain ⟨f, hm, hk, fd, ps, dvs, ds, hl, F1, hb, hd, ra⟩ := F
  subst hl
  exact .of (pe_callSD (E := WE Wx) F1 hr hg hm hk hb hd (fun σ => passAt tk σ) ha.pa hdb he hpl) fun σ H Q W ρ S rl en h => tva_seq rl en h fun as S1 W1 H1 vs s1 r1 e1 rv h1 => sp_of r1 (rv.app (ra W1)) h1
theorem ve_call0 (F : VF X.prog X.w X.K X.mg X.base k n x das den) (hr : Room k X.A) (tk : Takes X Wx) (hg : Gl X x := by rfl) (hdb : (x == ("__debug__" : Str)) = false := by decide) : VE X Wx (.Call (.Name x p) [] [] pos) (dCall n den das dNil) := by
  obtain ⟨f, hm, hk, fd, ps, dvs, ds, hl, F1, hb, hd, ra⟩ := F
  subst hl
  have pe : PE X (.Call (.Name x p) [] [] pos) (tCallSD (spOf ps.length den) dvs (WE Wx) tNil) := by
    constructor
    intro pins s σ H Q I h
    apply wpAny_Call_Name_kw (ld_glob I hg hm _ hdb)
    exact PySem.W.callWith_K0 I.kIn hk (run_fnSD (us := []) F1 hr hb hd (passAt tk σ) I .nil h)
  refine .of pe fun σ H Q W ρ S rl en h => ?_
  have h : GoP Wx W σ H (if ([] ++ das).length = ps.length then den ([] ++ das) S else .stuck) (QV Q) := h
  exact sp_of rl (AVs.app .nil (ra W)) h
end
end VL

namespace VL
open PySem PySem.Spec PyProof.Rows L2

/-- the class at C gives the name x the built-in b -/
def Gives (K : PySem.W.Frag) (C : Addr) (x : Str) (b : String) : Prop := PySem.W.findIn K (.ref C) x = some (some (.builtin b))
def Below (K : PySem.W.Frag) (C : Addr) (b : String) : Prop := PySem.W.subIn K (.ref C) (.type b) = some true
/-- what is known of an own error class at C over the built-in B, its __init__ at fI -/
structure ExF (K : PySem.W.Frag) (C fI : Addr) (B newId initId : String) (bmB : List Value) : Prop where
  FB : ExcBaseFacts B newId initId bmB
  SF : StoreFacts B bmB "object.__setattr__" "object"
  KF : PySem.W.KxsFacts B initId
  made : PySem.W.excInitIn K C bmB newId = true
  over : PySem.W.excOver K C bmB = true
  dict : PySem.W.hasDictIn K C = true
  set_ : Gives K C "__setattr__" "object.__setattr__"
  below : Below K C "BaseException"
  belowB : Below K C B
  typ : PySem.W.typeIn K (.ref C) = some (.type "type")
  keep : PySem.W.keepIn K (.ref C) = true
  init : PySem.W.findIn K (.ref C) "__init__" = some (some (.ref fI))
  initT : PySem.W.typeIn K (.ref fI) = some (.type "function")
  self : PySem.W.mroIn K C (.ref C) = some true
  sup : PySem.W.ks_superIn K C C "__init__" = some (some (.builtin initId))
  quiet : PySem.W.nsIn K cStatics "thirdparty.any" = some none
  get_ : Gives K C "__getattribute__" "BaseException.__getattribute__"
  noGet : PySem.W.findIn K (.ref C) "__getattr__" = some none
  cls_ : Gives K C "__class__" "object.__class__"
  clsGet : PySem.W.specialIn K (.builtin "object.__class__") "__get__" = some (some (.builtin "getset_descriptor.__get__"))
  clsTake : PySem.W.takesIn K (.builtin "object.__class__") = some true
  obj : PySem.W.mroIn K C (.type "object") = some true

/-- h' is h but for what stands at x and dx: at x o, at dx a table of names -/
structure Grown (h h' : Heap) (x dx : Addr) (o : Obj) (m : Str → Option Value) : Prop where
  at_ : h'.get? x = some o
  tab : h'.Ns1 dx m
  rest : ∀ b u, h.get? b = some u → b ≠ x → b ≠ dx → h'.get? b = some u
abbrev putS (f : Str) (v : Value) (m : Str → Option Value) : Str → Option Value := fun y => if y = f then some v else m y

section
open PySem.W PySem.Calls
variable {prog : Program} {w : World} {A : Around} {E : Value → Shared → Prop} {hp : Heap} {g : Array GenState} {d : Drawn} {t : Nat} {os : OsState} {K : Frag} {x C fI t1 : Addr} {B newId initId : String} {bmB : List Value} {f : Str} {v : Value} {Q : Unit → Shared → Prop}
theorem sto_new (T : ExF K C fI B newId initId bmB) (X : K.In hp) (no : findIn K (.ref C) f = some none) (hx : hp.get? x = some (excObj C t1 none .none))
    (q : ∀ h' dx tk, hp.objs.size ≤ dx → Grown hp h' x dx (excObj C t1 (some dx) .none) (putS f v fun _ => none) → Q () ⟨h', g, d, tk, os⟩) : wpAny (model prog w) A (setAttr (.ref x) f v) Q E ⟨hp, g, d, t, os⟩ := by
  obtain ⟨cd, hc, hd⟩ := any_some T.dict
  have I : InstAt hp x (excObj C t1 none .none) C none := ⟨hx, rfl, rfl, trivial⟩
  have lt := Heap.lt_size hx
  apply set_plain X I T.set_
  apply osa_openX (r := none) T.SF X I T.over (by unfold takerIn; rw [no]; rfl)
  intro b
  apply wpAny_bind; apply wpAny_pure; apply wpAny_bind
  apply instanceDict_exc hx (looks_clsIn X hc) hd
  have h1 : (hp.push (dictOf [] 0)).get? x = some (excObj C t1 none .none) := Heap.get?_push_of_some _ hx
  have h2 : ((hp.push (dictOf [] 0)).update x fun o => { o with dict := some hp.objs.size }).get? x = some (excObj C t1 (some hp.objs.size) .none) := Heap.get?_update_self _ h1 rfl
  have h3 : ((hp.push (dictOf [] 0)).update x fun o => { o with dict := some hp.objs.size }).get? hp.objs.size = some (dictOf [] 0) :=
    (Heap.get?_update_ne _ _ _ _ (Nat.ne_of_gt lt)).trans (Heap.get?_push_size _ rfl)
  refine HandSPX.store_in_new ⟨_, #[], 0, h3, rfl, fun e he => absurd he (by simp), fun _ => rfl⟩ fun h' tk hn hs => ?_
  refine q h' hp.objs.size tk (Nat.le_refl _) ⟨(hs.2 x (Nat.ne_of_lt lt)).trans h2, hn, fun b u e nx nd => ?_⟩
  exact (hs.2 b nd).trans ((Heap.get?_update_ne _ _ _ _ nx).trans (Heap.get?_push_of_some _ e))
theorem sto_old {dx : Addr} {m : Str → Option Value} {names : List Str} (T : ExF K C fI B newId initId bmB) (X : K.In hp) (no : findIn K (.ref C) f = some none) (hx : hp.get? x = some (excObj C t1 (some dx) .none))
    (hn : hp.Ns1 dx m) (hw : Within m names) (few : names.length ≤ 1000) (q : ∀ h' tk, Grown hp h' x dx (excObj C t1 (some dx) .none) (putS f v m) → Q () ⟨h', g, d, tk, os⟩) : wpAny (model prog w) A (setAttr (.ref x) f v) Q E ⟨hp, g, d, t, os⟩ := by
  obtain ⟨cd, hc, hd⟩ := any_some T.dict
  obtain ⟨od, es, ep, ho, he, _⟩ := hn.count hw
  have I : InstAt hp x (excObj C t1 (some dx) .none) C (some od) := ⟨hx, rfl, rfl, ho⟩
  have ne : x ≠ dx := fun z => by rw [z, ho] at hx; cases hx; cases he
  apply set_plain X I T.set_
  apply osa_openX (r := none) T.SF X I T.over (by unfold takerIn; rw [no]; rfl)
  intro b
  apply wpAny_bind; apply wpAny_pure; apply wpAny_bind; apply wpAny_bind
  apply wpAny_loadPart hx
  apply wpAny_bind
  apply (looks_clsIn X hc).here
  rw [hd]
  apply wpAny_pure (a := some dx)
  refine OEX.store_in_old hn hw few fun h' tk hn' hs => q h' tk ⟨(hs.2 x ne).trans hx, hn', fun b u e _ nd => (hs.2 b nd).trans e⟩
/-- the built-in __init__, bound to the error, called: only the error itself changes -/
theorem mw_call {u : Addr} {us : List Value} {Q : Value → Shared → Prop} (T : ExF K C fI B newId initId bmB) (X : K.In hp) (he : hp.get? x = some (excObj C t1 none .none)) (hu : hp.get? u = some (kxs_mw initId x)) (few : us.length ≤ sizeLine)
    (q : ∀ h' t2, (∀ b o, hp.get? b = some o → b ≠ x → h'.get? b = some o) → h'.get? x = some (excObj C t2 none .none) → Q .none ⟨h', g, d, t, os⟩) : wpAny (model prog w) A (call (.ref u) us) Q E ⟨hp, g, d, t, os⟩ := by
  obtain ⟨nm, N, qn, bs, bm, hdct, sn, sub, ab, col, dd, k0, k1, k2, k3, k5, hC, _⟩ := excInit_of X T.made
  have plain := T.FB.init.plain
  have run : ∀ (A' : Around) (P : Fin → Shared → Prop) (E' : Value → Shared → Prop), (∀ h' t2, (∀ b o, hp.get? b = some o → b ≠ x → h'.get? b = some o) → h'.get? x = some (excObj C t2 none .none) → P (.done (.ret .none)) ⟨h', g, d, t, os⟩) →
      wpAny (model prog w) A' (Builtin.«BaseException.__init__» ⟨.ref x :: us, []⟩) P E' ⟨hp, g, d, t, os⟩ := fun A' P E' h =>
    exc_init_tree (cls := .ref C) (t0 := t1) (dv := none) (c2 := .none) (c3 := .none) (b4 := .bool false) he few fun h' k e' _ => h h' _ (fun b o e n => k b o n e) e'
  apply wpAny_call
  apply codeAny_of_tree
  show wpAny _ A.in1 (callAny (.ref u) ⟨us, []⟩) _ _ _
  unfold callAny
  apply wpAny_bind; apply wpAny_load hu
  have y : (Value.type "method-wrapper" == Value.type "method-wrapper") = true := by decide
  dsimp only [kxs_mw]
  simp only [y, Bool.or_true, if_true]
  apply KFB.if_so (by decide)
  apply wpAny_bind; apply check_bound_init T.FB.toExcCallFacts hC he rfl
  apply wpAny_pure
  exact ⟨plainId_quiet plain _, codeAny_builtin T.FB.initEntry (run _ _ _ q)⟩
end

section
variable {X : Cx} {pins : List (Addr × Obj)} {σ : L2.St} {H : Hp} {a C dx : Addr} {hp h' : Heap} {g : Array GenState} {d : Drawn} {t tk : Nat} {os : OsState} {m : Str → Option Value} {fs : List (Str × V)} {t1 : Addr}
theorem grown_new (I : Inv X pins σ H ⟨hp, g, d, t, os⟩) (e : H a = some (exo a C none)) (ho : hp.get? a = some (PySem.W.excObj C t1 none .none)) (hd : hp.objs.size ≤ dx) (r : ∀ f, RelO (fs.lookup f) (m f)) (G : Grown hp h' a dx (PySem.W.excObj C t1 (some dx) .none) m) :
    dx ≠ a ∧ H dx = none ∧ Inv X pins σ (upd (upd H dx (exd dx fs)) a (exo a C (some dx))) ⟨h', g, d, tk, os⟩ := by
  have ne : dx ≠ a := Nat.ne_of_gt (Nat.lt_of_lt_of_le (Heap.lt_size ho) hd)
  have nd : ∀ b u, hp.get? b = some u → b ≠ dx := fun b u z => Nat.ne_of_lt (Nat.lt_of_lt_of_le (Heap.lt_size z) hd)
  have mid : ∀ b u, hp.get? b = some u → (h'.update a fun _ => PySem.W.excObj C t1 none .none).get? b = some u := fun b u z => by
    by_cases hb : b = a
    · subst hb
      rw [ho] at z
      cases z
      exact Heap.get?_update_self _ G.at_ rfl
    · exact (Heap.get?_update_ne _ _ _ _ hb).trans (G.rest b u z hb (nd b u z))
  have tab : (h'.update a fun _ => PySem.W.excObj C t1 none .none).Ns1 dx m := G.tab.at fun o z => (Heap.get?_update_ne _ _ _ _ ne).trans z
  have I1 := I.laid (t' := tk) (a := dx) (o := exd dx fs) mid hd (exd_ok tab r)
  have ea : upd H dx (exd dx fs) a = some (exo a C none) := (upd_ne (Ne.symm ne)).trans e
  exact ⟨ne, I.hok.fresh hd, I1.write (t' := tk) (x := a) (e := a) (o := exo a C (some dx)) (h' := h') (by rw [ea]; exact True.intro) (.inl rfl) (fun b u n z => (Heap.get?_update_ne h' b a _ n).symm.trans z) ⟨_, G.at_⟩ (exo_ok G.at_)⟩
theorem grown_old {gs : List (Str × V)} (I : Inv X pins σ H ⟨hp, g, d, t, os⟩) (ho : hp.get? a = some (PySem.W.excObj C t1 (some dx) .none)) (ed : H dx = some (exd dx gs)) (r : ∀ f, RelO (fs.lookup f) (m f)) (G : Grown hp h' a dx (PySem.W.excObj C t1 (some dx) .none) m) :
    Inv X pins σ (upd H dx (exd dx fs)) ⟨h', g, d, tk, os⟩ := by
  have there : ∃ o, h'.get? dx = some o := by
    obtain ⟨o, es, ep, z, _⟩ := G.tab
    exact ⟨o, z⟩
  apply I.write (t' := tk) (x := dx) (e := dx) (by rw [ed]; exact True.intro) (.inl rfl) _ there (exd_ok G.tab r)
  intro b u n z
  by_cases hb : b = a
  · subst hb
    exact G.at_.trans (ho.symm.trans z)
  · exact G.rest b u z hb n
end
/-- self.f = e -/
def tOsG (C : Addr) (f : Str) (to te : TE) : TS := fun D σ H => te σ H fun y H1 => to σ H1 fun x G => ∃ a : Addr, x = .ref a ∧
  ((G a = some (exo a C none) ∧ ∀ dx, G dx = none → dx ≠ a → D.nx σ (upd (upd G dx (exd dx [(f, y)])) a (exo a C (some dx)))) ∨
    ∃ (dx : Addr) (gs : List (Str × V)), G a = some (exo a C (some dx)) ∧ G dx = some (exd dx gs) ∧ gs.length ≤ 900 ∧ D.nx σ (upd G dx (exd dx ((f, y) :: gs))))
theorem ps_osG {X : Cx} {o e : Expr} {to te : TE} {f : Str} {p' pos : Pos} {C fI : Addr} {B newId initId : String} {bmB : List Value} (T : ExF X.K C fI B newId initId bmB) (no : PySem.W.findIn X.K (.ref C) f = some none) (ho : PE X o to) (he : PE X e te)
    (hs : swapsWith e (some (.Attribute o f p')) pos.line X.env = pure false := by rfl) : PS X (.Assign [.Attribute o f p'] e pos) (tOsG C f to te) := by
  constructor
  intro pins s σ H D I h
  apply plainObj_wpAny_Assign_Attribute (hs := hs)
  refine thn (he.run pins s σ H _ I h) fun v s1 ⟨y, H1, I1, ry, q1⟩ => thn (ho.run pins s1 σ H1 _ I1 q1) fun u s2 ⟨x, H2, I2, rx, a, ex, q⟩ => ?_
  cases ex
  cases (show u = Value.ref a from rx)
  obtain ⟨hp, g, d, t, os⟩ := s2
  rcases q with ⟨ea, q⟩ | ⟨dx, fs, ea, ed, few, q⟩
  · obtain ⟨t1, at_⟩ := exo_at I2.hok ea
    refine sto_new T I2.kIn no at_ fun h' dx tk hd G => ?_
    obtain ⟨ne, nn, J⟩ := grown_new I2 ea at_ hd (relO_put (fs := []) (mA := fun _ => none) ry fun _ => True.intro) G
    exact ⟨σ, _, J, q dx nn ne⟩
  · obtain ⟨t1, at_⟩ := exo_at I2.hok ea
    obtain ⟨m, tab, r⟩ := exd_at I2.hok ed
    refine sto_old T I2.kIn no at_ tab (within_of r) (by rw [List.length_map]; omega) fun h' tk G => ?_
    exact ⟨σ, _, grown_old I2 at_ ed (relO_put ry r) G, q⟩
end VL

namespace VL
open PySem PySem.Spec PyProof.Rows L2 ClX

/-- super().__init__(e, ..) as a statement, the first one of a body -/
theorem super_stmt {X : Cx} {pins : List (Addr × Obj)} {σ : L2.St} {H : Hp} {s : Shared} {a C fI f cc cda : Addr} {B newId initId : String} {bmB : List Value} {body : List Stmt} {e : Expr} {es : List Expr} {p0 p1 p2 p3 p4 : Pos} {t : TA} {Q : Hp → Prop}
    {pl : Sem Bool} {fd : FuncData} {ar : Arg} {vs : Array Value} {file : Str} {tf : Tok} {oc ccl cl : Value} {od cdd cld : Option Addr} {osl ccs csl : Array (Option Value)}
    (T : ExF X.K C fI B newId initId bmB) (I : Inv X pins σ H s) (hself : σ[0]? = some (some (.ref a))) (hN : X.N[0]? = some ar.arg) (ea : H a = some (exo a C none))
    (hf : X.K.lookup f = some ⟨oc, od, .func fd, osl⟩) (hp : (fd.params.posonlyargs ++ fd.params.args).head? = some ar) (hfn : X.env.func = some f) (hco : X.env.code = .ref cda)
    (hcode : X.K.lookup cda = some ⟨ccl, cdd, .fields vs, ccs⟩) (hvs : vs[2]? = some (.str file tf)) (hfile : ((X.prog.main.file : Str) == file) = true) (htop : (X.prog.main.scope.names.lookup ("super" : Str)).isSome = false)
    (hcell : X.K.lookup cc = some ⟨cl, cld, .cell (some (.ref C)), csl⟩) (hcl : X.env.cells.lookup ("__class__" : Str) = some cc) (hsuper : X.mg "super" = none)
    (hks : X.env.scope.names.lookup ("super" : Str) = some .globalImplicit) (hkc : X.env.scope.names.lookup ("__class__" : Str) = some .free) (hka : X.env.scope.names.lookup ar.arg = some .local)
    (ha : PA X (e :: es) t) (h : t σ H fun us H1 => us.length ≤ 1000 ∧ H1 a = some (exo a C none) ∧ Q H1)
    (he : starEach (e :: es) X.env = (false, eval e X.env) :: starEach es X.env) (hpl : (backTo p3 (starEach es X.env)).any (·.1) = false)
    (hi : interactive X.env = false) (hsw : swapsWith (.Call (.Attribute (.Call (.Name "super" p0) [] [] p1) "__init__" p2) (e :: es) [] p3) none p4.line X.env = pure false)
    (hev : eval (.Call (.Attribute (.Call (.Name "super" p0) [] [] p1) "__init__" p2) (e :: es) [] p3) X.env = (do
      let z ← attributeBase (.Call (.Name "super" p0) [] [] p1) "__init__" X.env (eval (.Call (.Name "super" p0) [] [] p1) X.env)
      standAt p2.atName
      let (z1, z2) ← holding [z] (getMethod z "__init__" pl)
      callWith p3 z1 z2 (backTo p3 (starEach (e :: es) X.env)) [])) :
    _root_.PySem.wpAt (model X.prog X.w) X.A (.func body X.env) (exec (.Expr (.Call (.Attribute (.Call (.Name "super" p0) [] [] p1) "__init__" p2) (e :: es) [] p3) p4) X.env) (fun fl s' => fl = .next ∧ ∃ H1, Inv X pins σ H1 s' ∧ Q H1) X.xe s := by
  have X0 : X.K.In s.heap := I.kIn
  obtain ⟨t1, hoe⟩ := exo_at I.hok ea
  obtain ⟨cdD, hD, hdh⟩ := PySem.W.any_some T.dict
  obtain ⟨m, hns, hloc⟩ := I.loc
  have hv : m ar.arg = some (.ref a) := by
    obtain ⟨u, ru, l⟩ := hloc 0 ar.arg (.ref a) hN hself (.inl hka)
    obtain rfl : u = Value.ref a := ru
    rcases l with ⟨_, l⟩ | ⟨l, _⟩
    · exact l
    · have l : X.env.scope.names.lookup ar.arg = some .cell ∨ X.env.scope.names.lookup ar.arg = some .free := l
      rw [hka] at l
      rcases l with l | l <;> cases l
  obtain ⟨mb, hmb, hmbe⟩ := I.ok.mod.blt
  obtain ⟨oD, hD1, hD2⟩ : ∃ oD, s.heap.get? C = some oD ∧ oD.data = .cls cdD := by
    unfold PySem.W.clsIn at hD
    split at hD
    · rename_i c d cd' sl' ho
      cases hD
      exact ⟨_, X0 _ _ ho, rfl⟩
    · cases hD
  refine ks_wpAt_Expr_any (ks_wpAt_MethodCall (pl := pl) ?_ hev) hi hsw
  refine ks_wpAt_super_base hks hkc (by decide) hfn (X0 _ _ hf) rfl hp hco (X0 _ _ hcode) rfl hvs hfile htop ?_
  have hkind : X.env.scope.kind = .function := I.ok.kind
  refine PySem.W.ks_loadName_global hkind hks (PySem.Calls.loadGlobal_builtin (by rw [I.ok.glob]; exact I.ok.mod.glob.keeps I.bk) hsuper (by rw [I.ok.blt]; exact hmb.keeps I.bk) ((hmbe _ (by decide)).trans (by first | exact PySem.boot_super | kernel_rfl)) ⟨rfl, ?_⟩)
  refine wpAny_loadName_free hkind hkc hcl ⟨_, X0 _ _ hcell, rfl⟩ ?_
  refine wpAny_loadName_local hkind hka hns hv ?_
  obtain ⟨hh, g, d, tk, os⟩ := s
  refine ks_wpAny_isType_cls hD1 hD2 ⟨rfl, ?_⟩
  refine ks_wpAny_call_super hD1 hD2 hoe rfl (fun c z => nomatch z) (PySem.W.looks_mroIn X0 T.self) (fun h2 e2 k2 => ?_)
  have I2 := pin_new (t' := tk) I k2 (Nat.le_refl _) e2 (fun v z => nomatch z)
  have X2 : X.K.In h2 := I2.kIn
  have J2 : PySem.W.InstAt h2 a { cls := .ref C, dict := none, data := .fields #[.ref t1, .none, .none, .none, .bool false, .none] } C none := ⟨k2 _ _ hoe, rfl, rfl, trivial⟩
  have hsup : PySem.W.alongIn X.K "__init__" ((cdD.mro.dropWhile (· != .ref C)).drop 1) = some (some (.builtin initId)) := by
    have z := T.sup
    unfold PySem.W.ks_superIn at z
    rw [hD] at z
    exact z
  refine PySem.W.kxs_getMethod T.KF e2 (PySem.W.looks_opaque X2 T.quiet) (l₀ := cdD.mro) (fun A Q E s k q => wpAny_bind ((PySem.W.looks_clsIn X2 hD) A _ E s k (wpAny_pure q))) rfl X2 hsup (J2.type.andThen (PySem.W.looks_subIn X2 T.belowB)) (PySem.W.ks_ne X2 J2 hD) (by decide) ?_
  have I3 := pin_new (t' := tk + 1) I2 (h' := h2.push (PySem.W.kxs_mw initId a)) (fun b u q => Heap.get?_push_of_some _ q) (Nat.le_refl _) (Heap.get?_push_size h2 rfl) (fun v z => nomatch z)
  show wpAny _ _ (callWith p3 (.ref h2.objs.size) [] (backTo p3 (starEach (e :: es) X.env)) []) _ _ _
  refine PySem.W.kxs_callWith (i := initId) (x := a) (u := h2.objs.size) (first := []) (by rw [he]; show (false || (backTo p3 (starEach es X.env)).any (·.1)) = false; rw [hpl]; rfl) ?_
  have hr := ha.run p3 _ _ σ H _ I3 h
  rw [he] at hr ⊢
  refine Calls.evalArgs_plain (wpAny_mono hr (fun us s3 hq => ?_) fun _ _ z => z)
  obtain ⟨vs', H3, I4, rv, hl, ea3, q⟩ := hq
  have hu := pin_at I4
  refine ⟨hu, ?_⟩
  obtain ⟨t3, hoe3⟩ := exo_at I4.hok ea3
  have few : us.length ≤ sizeLine := by rw [← Paired.length rv, sizeLine_eq]; omega
  obtain ⟨h3, g3, d3, tk3, os3⟩ := s3
  apply mw_call T I4.kIn hoe3 hu few
  intro h' t' k hx
  have J := I4.write (t' := tk3) (x := a) (e := a) (o := exo a C none) (by rw [ea3]; exact True.intro) (.inl rfl) (fun b o n z => k b o z n) ⟨_, hx⟩ (exo_ok hx)
  rw [upd_id ea3] at J
  exact ⟨rfl, H3, unpin (unpin J), q⟩
end VL

namespace VL
open PySem PySem.Spec PyProof.Rows L2 ClX NdefX

/-- the function object of such an __init__ -/
structure IniF (P : Program) (K : PySem.W.Frag) (f C : Addr) (name qual : Str) (params : Arguments) (body : List Stmt) (scope : Scope) : Prop where
  ex : ∃ (oc : Value) (od : Option Addr) (kV doc pm : Value) (an : Option Addr) (ct : Value) (osl : Array (Option Value)) (cc cda : Addr), K.lookup f = some ⟨oc, od, .func (PySem.W.ksFn name qual params body scope .none kV doc pm an (.ref cda) ct cc), osl⟩ ∧ PySem.W.codeIn K (.ref cda) qual = true ∧
    (∃ (ccl : Value) (cdd : Option Addr) (vs : Array Value) (ccs : Array (Option Value)) (file : Str) (tf : Tok), K.lookup cda = some ⟨ccl, cdd, .fields vs, ccs⟩ ∧ vs[2]? = some (.str file tf) ∧ ((P.main.file : Str) == file) = true) ∧
    ∃ (cl : Value) (cld : Option Addr) (csl : Array (Option Value)), K.lookup cc = some ⟨cl, cld, .cell (some (.ref C)), csl⟩
abbrev iX (P : Program) (w : World) (K : PySem.W.Frag) (mg : Str → Option Value) (base : Heap) (N : List Str) (name qual : Str) (params : Arguments) (body : List Stmt) (scope : Scope) (f cc cda : Addr) (A : Around) (outer : List Env) (s : Shared) (H : Hp) (E : XK) : Cx :=
  NdefX.ncx (L2.CX P w) P w K mg base N ⟨name, qual, params, body, scope, [("__class__", cc)], cda⟩ f A outer s H E
section
variable {P : Program} {w : World} {K : PySem.W.Frag} {mg : Str → Option Value} {base : Heap} {f C : Addr} {name qual : Str} {params : Arguments} {rest : List Stmt} {scope : Scope} {N ps : List Str} {k : Nat} {sp : Sp} {B newId initId : String} {bmB : List Value} {e : Expr} {es : List Expr}
  {p0 p1 p2 p3 p4 : Pos} {pl : Sem Bool} {ar : Arg}
abbrev supSt (e : Expr) (es : List Expr) (p0 p1 p2 p3 p4 : Pos) : Stmt := .Expr (.Call (.Attribute (.Call (.Name "super" p0) [] [] p1) "__init__" p2) (e :: es) [] p3) p4
theorem init_ok (F : IniF P K f C name qual params (supSt e es p0 p1 p2 p3 p4 :: rest) scope) (T : ExF K C f B newId initId bmB) (S : NScope N ps ["__class__"] scope) (len : ∀ vs H Q E, sp vs H Q E → vs.length = ps.length)
    (hp : (params.posonlyargs ++ params.args).head? = some ar) (hN : N[0]? = some ar.arg) (hps : ps[0]? = some ar.arg) (htop : (P.main.scope.names.lookup ("super" : Str)).isSome = false) (hsuper : mg "super" = none) (hks : scope.names.lookup ("super" : Str) = some .globalImplicit)
    (hbody : ∀ (cc cda : Addr) (A : Around) (outer : List Env) (s : Shared) (H : Hp) (vs : List V) (Q : VK) (E : XK), sp vs H Q E → ∃ a t tr, vs[0]? = some (.ref a) ∧ H a = some (exo a C none) ∧
      PA (iX P w K mg base N name qual params (supSt e es p0 p1 p2 p3 p4 :: rest) scope f cc cda A outer s H E) (e :: es) t ∧ PSs (iX P w K mg base N name qual params (supSt e es p0 p1 p2 p3 p4 :: rest) scope f cc cda A outer s H E) rest tr ∧
      t (startF N vs [none]) H (fun us H1 => us.length ≤ 1000 ∧ H1 a = some (exo a C none) ∧ tr { nx := fun _ H' => Q .non H', rt := Q } (startF N vs [none]) H1))
    (he : ∀ env, starEach (e :: es) env = (false, eval e env) :: starEach es env := by intro _; rfl) (hpl : ∀ env, (backTo p3 (starEach es env)).any (·.1) = false := by intro _; rfl)
    (hi : ∀ L cda cc, interactive (NdefX.envF ⟨name, qual, params, supSt e es p0 p1 p2 p3 p4 :: rest, scope, [("__class__", cc)], cda⟩ f L) = false := by intro _ _ _; rfl)
    (hsw : ∀ L cda cc, swapsWith (.Call (.Attribute (.Call (.Name "super" p0) [] [] p1) "__init__" p2) (e :: es) [] p3) none p4.line (NdefX.envF ⟨name, qual, params, supSt e es p0 p1 p2 p3 p4 :: rest, scope, [("__class__", cc)], cda⟩ f L) = pure false := by intro _ _ _; rfl)
    (hev : ∀ env, eval (.Call (.Attribute (.Call (.Name "super" p0) [] [] p1) "__init__" p2) (e :: es) [] p3) env = (do
      let z ← attributeBase (.Call (.Name "super" p0) [] [] p1) "__init__" env (eval (.Call (.Name "super" p0) [] [] p1) env)
      standAt p2.atName
      let (z1, z2) ← holding [z] (getMethod z "__init__" pl)
      callWith p3 z1 z2 (backTo p3 (starEach (e :: es) env)) []) := by intro _; rfl) :
    ∃ fd, FnOk P w K mg base (L2.CX P w) (k + 1) f fd ps sp ∧ ∃ kV doc pm an cdv ct cc, fd = PySem.W.ksFn name qual params (supSt e es p0 p1 p2 p3 p4 :: rest) scope .none kV doc pm an cdv ct cc := by
  obtain ⟨oc, od, kV, doc, pm, an, ct, osl, cc, cda, lk, hcd, ⟨ccl, cdd, cvs, ccs, file, tf, hcode, hcvs, hfile⟩, cl, cld, csl, hcell⟩ := F
  refine ⟨_, ⟨len, fun A outer s H args us vs Q E hr e0 hb r hsp => ?_⟩, kV, doc, pm, an, .ref cda, ct, cc, rfl⟩
  have held : ∀ b o, base.get? b = some o → s.heap.get? b = some o := fun b o z => (e0.bs b o z).1
  have KX := e0.mod.kin.keeps held
  have hl := len _ _ _ _ hsp
  obtain ⟨a, t, tr, hv0, ea, ha, hrest, hq⟩ := hbody cc cda A outer s H vs Q E hsp
  refine ks_codeAny_call_defAt (body := supSt e es p0 p1 p2 p3 p4 :: rest) (binds := ps.zip us) hr.depth (KX _ _ lk) rfl (e0.mod.nolimit.keeps held) (PySem.W.codeRec_of KX hcd) rfl hb S.nocell (fun ⟨n, _⟩ hy => S.par n (List.of_mem_zip hy).1) (fun h₁ hns kp => ?_) S.co S.gen S.kind
  have C0 : CellsAt [("__class__", cc)] ["__class__"] [none] s.heap H := by
    have hb0 := e0.bs cc _ (e0.mod.kin _ _ hcell)
    have key : ∀ (y : Str) (c : Addr), ([("__class__", cc)] : List (Str × Addr)).lookup y = some c → y = "__class__" ∧ c = cc := by
      intro y c q
      have q : (match y == ("__class__" : Str) with | true => some cc | false => none) = some c := q
      cases z : (y == ("__class__" : Str)) with
      | true => rw [z] at q; cases q; exact ⟨beq_iff_eq.mp z, rfl⟩
      | false => rw [z] at q; cases q
    refine ⟨rfl, fun y c q => ?_, fun x y c q1 q2 => (key x c q1).1.trans (key y c q2).1.symm, fun i y q => ?_⟩
    · obtain ⟨_, rfl⟩ := key y c q
      exact ⟨hb0.2, _, _, hb0.1, rfl⟩
    · cases i with
      | zero =>
        have q : some ("__class__" : Str) = some y := q
        cases q
        exact ⟨cc, rfl, fun v z => by cases z⟩
      | succ i => simp at q
  have I : Inv (iX P w K mg base N name qual params (supSt e es p0 p1 p2 p3 p4 :: rest) scope f cc cda A outer s H E) [] (startF N vs [none]) H { s with heap := h₁, toks := s.toks + (ps.zip us).length } := inv_startN S hr.hd e0 hl r C0 hns kp
  have hself : (startF N vs [none])[0]? = some (some (.ref a)) := by
    unfold startF
    have hlt : 0 < vs.length := (List.getElem?_eq_some_iff.mp hv0).1
    rw [List.getElem?_append_left (by simpa using hlt), List.getElem?_map, hv0]
    rfl
  refine ks_wpAt_execs_cons (ks_wpAt_mono (super_stmt (X := iX P w K mg base N name qual params (supSt e es p0 p1 p2 p3 p4 :: rest) scope f cc cda A outer s H E) (pl := pl) (Q := fun H1 => tr { nx := fun _ H' => Q .non H', rt := Q } (startF N vs [none]) H1) T I hself hN ea lk hp rfl rfl hcode hcvs hfile htop hcell rfl hsuper hks (S.frk _ List.mem_cons_self) (S.par _ (List.mem_of_getElem? hps))
    ha hq (he _) (hpl _) (hi _ _ _) (hsw _ _ _) (hev _)) (fun fl s' hs => ?_) fun _ _ z => z)
  obtain ⟨rfl, H1, I1, q⟩ := hs
  refine wpAt_of_wpAny (wpAny_mono (hrest.run [] s' _ H1 _ I1 q) (fun fl s2 hs => ?_) fun e s' hs => hs)
  match fl, hs with
  | .ret u, ⟨v, σ', H', J, rv, q⟩ => exact ⟨v, H', J.os, J.bare, J.base, J.hok, rv, q⟩
  | .next, ⟨σ', H', J, q⟩ => exact ⟨.non, H', J.os, J.bare, J.base, J.hok, rfl, q⟩
  | .brk, ⟨_, _, _, q⟩ => exact q.elim
  | .cont, ⟨_, _, _, q⟩ => exact q.elim
end
end VL

namespace VL
open PySem PySem.Spec PyProof.Rows L2 ClX NdefX

def small : AV → Bool
  | .val (.str y) => decide (y.length ≤ 1000) && y.cps.toList.all fun c => decide (c < 16 ^ 8)
  | .val (.int i) => decide (i.natAbs.log2 < 1920)
  | _ => false
def smallAt (i : Nat) (ρ : Rho) : Bool := match ρ[i]? with
  | some (some a) => small a
  | _ => false
/-- parts of an f-string, each at most 10010 signs long -/
inductive MP (X : Cx) : List Expr → (Rho → Bool) → Prop where
  | nil : MP X [] (fun _ => true)
  | txt {m : Str} {j : Tok} {pos : Pos} {es : List Expr} {ok : Rho → Bool} (hm : m.length ≤ 10010) (r : MP X es ok) : MP X (.Constant (.str m) j pos :: es) ok
  | fmt {i : Nat} {x : Str} {p pos : Pos} {es : List Expr} {ok : Rho → Bool} (h : PE X (.Name x p) (tVar i)) (r : MP X es ok) : MP X (.FormattedValue (.Name x p) (-1) none pos :: es) (fun ρ => smallAt i ρ && ok ρ)
  | fmtR {i : Nat} {x : Str} {p pos : Pos} {es : List Expr} {ok : Rho → Bool} (h : PE X (.Name x p) (tVar i)) (r : MP X es ok) : MP X (.FormattedValue (.Name x p) 114 none pos :: es) (fun ρ => smallAt i ρ && ok ρ)
theorem small_at {W : Wd} {ρ : Rho} {σ : L2.St} {i : Nat} (en : EnvR W ρ σ) (h : smallAt i ρ = true) : ∃ v, σ[i]? = some (some v) ∧ ((∃ y : Str, v = .str y ∧ y.length ≤ 1000 ∧ (reprText y).length ≤ 10002) ∨ ∃ n : Int, v = .int n ∧ n.natAbs.log2 < 1920) := by
  unfold smallAt at h
  cases e : ρ[i]? with
  | none => rw [e] at h; cases h
  | some o =>
    cases o with
    | none => rw [e] at h; cases h
    | some a =>
      rw [e] at h
      obtain ⟨v, h1, h2⟩ := en.2 i a e
      refine ⟨v, h1, ?_⟩
      have h : small a = true := h
      cases a with
      | cell k => cases h
      | hot => cases h
      | val d =>
        cases d with
        | str y =>
          have h : (decide (y.length ≤ 1000) && y.cps.toList.all fun c => decide (c < 16 ^ 8)) = true := h
          rw [Bool.and_eq_true] at h
          have hl : y.length ≤ 1000 := of_decide_eq_true h.1
          have q := StrLaws.reprText_len y fun c hc => of_decide_eq_true (List.all_eq_true.mp h.2 c hc)
          rw [avr_str h2]
          exact .inl ⟨y, rfl, hl, by omega⟩
        | int n =>
          have h : decide (n.natAbs.log2 < 1920) = true := h
          rw [avr_int h2]
          exact .inr ⟨n, rfl, of_decide_eq_true h⟩
        | _ => cases h
theorem int_len {i : Int} (h : i.natAbs.log2 < 1920) : (Str.ofString (toString i)).length ≤ 10010 := by
  have e := int_text_length_le (k := 1920) (by decide) h
  rw [PySem.ofString_length]
  omega
theorem mp_ts {X : Cx} : ∀ {es : List Expr} {ok : Rho → Bool}, MP X es ok → ∃ ts, PJ X es ts ∧ ∀ (acc : Str) (W : Wd) (ρ : Rho) (σ : L2.St) (H : Hp) (Q : Str → Hp → Prop), acc.length + 10010 * es.length ≤ sizeLine → EnvR W ρ σ → ok ρ = true → (∀ y, Q y H) → tJs ts acc σ H Q
  | _, _, .nil => ⟨[], .nil, fun acc W ρ σ H Q _ _ _ q => q acc⟩
  | _, _, @MP.txt _ m j pos es ok hm r => by
    obtain ⟨ts, h1, h2⟩ := mp_ts r
    refine ⟨_, .cons pe_str h1, fun acc W ρ σ H Q hl en hok q => ?_⟩
    have ea : (acc ++ m).length = acc.length + m.length := Str.length_append acc m
    rw [List.length_cons] at hl
    exact ⟨m, rfl, by omega, h2 (acc ++ m) W ρ σ H Q (by omega) en hok q⟩
  | _, _, @MP.fmt _ i x p pos es ok h r => by
    obtain ⟨ts, h1, h2⟩ := mp_ts r
    refine ⟨_, .cons (pe_fmt h) h1, fun acc W ρ σ H Q hl en hok q => ?_⟩
    rw [Bool.and_eq_true] at hok
    rw [List.length_cons] at hl
    obtain ⟨v, hv, z⟩ := small_at en hok.1
    refine ⟨v, hv, ?_⟩
    rcases z with ⟨y, rfl, hy, _⟩ | ⟨n, rfl, hn⟩
    · have ea : (acc ++ y).length = acc.length + y.length := Str.length_append acc y
      have hs := sizeLine_eq
      exact .inl ⟨y, rfl, by omega, y, rfl, by omega, h2 (acc ++ y) W ρ σ H Q (by omega) en hok.2 q⟩
    · have ea : (acc ++ (toString n : Str)).length = acc.length + (Str.ofString (toString n)).length := Str.length_append acc _
      have hy := int_len hn
      exact .inr ⟨n, rfl, hn, _, rfl, by omega, h2 (acc ++ (toString n : Str)) W ρ σ H Q (by omega) en hok.2 q⟩
  | _, _, @MP.fmtR _ i x p pos es ok h r => by
    obtain ⟨ts, h1, h2⟩ := mp_ts r
    refine ⟨_, .cons (pe_fmtR h) h1, fun acc W ρ σ H Q hl en hok q => ?_⟩
    rw [Bool.and_eq_true] at hok
    rw [List.length_cons] at hl
    obtain ⟨v, hv, z⟩ := small_at en hok.1
    refine ⟨v, hv, ?_⟩
    rcases z with ⟨y, rfl, _, hy⟩ | ⟨n, rfl, hn⟩
    · have ea : (acc ++ reprText y).length = acc.length + (reprText y).length := Str.length_append acc _
      have hs := sizeLine_eq
      exact .inl ⟨y, rfl, by omega, _, rfl, by omega, h2 (acc ++ reprText y) W ρ σ H Q (by omega) en hok.2 q⟩
    · have ea : (acc ++ (toString n : Str)).length = acc.length + (Str.ofString (toString n)).length := Str.length_append acc _
      have hy := int_len hn
      exact .inr ⟨n, rfl, hn, _, rfl, by omega, h2 (acc ++ (toString n : Str)) W ρ σ H Q (by omega) en hok.2 q⟩
/-- the argument of super().__init__: a text, nothing of it told -/
structure VMsg (X : Cx) (e : Expr) (ok : Rho → Bool) : Prop where
  ex : ∃ t, PA X [e] t ∧ ∀ (W : Wd) (ρ : Rho) (σ : L2.St) (H : Hp) (Q : List V → Hp → Prop), EnvR W ρ σ → ok ρ = true → (∀ v, Q [v] H) → t σ H Q
section
variable {X : Cx}
theorem msg_txt {m : Str} {j : Tok} {pos : Pos} : VMsg X (.Constant (.str m) j pos) (fun _ => true) := ⟨_, pa_cons pe_str pa_nil, fun W ρ σ H Q en hok q => q _⟩
theorem msg_join {v1 v2 : Expr} {rest : List Expr} {pos : Pos} {ok : Rho → Bool} (h : MP X (v1 :: v2 :: rest) ok) (hl : (v1 :: v2 :: rest).length ≤ 20 := by decide) : VMsg X (.JoinedStr (v1 :: v2 :: rest) pos) ok := by
  obtain ⟨ts, h1, h2⟩ := mp_ts h
  exact ⟨_, pa_cons (pe_joined h1) pa_nil, fun W ρ σ H Q en hok q => h2 _ W ρ σ H _ (by have hs := sizeLine_eq; show 0 + _ ≤ _; omega) en hok fun y => q _⟩
end
end VL

namespace VL
open PySem PySem.Spec PyProof.Rows L2 ClX NdefX

section
variable {W W2 : Wd} {S : Store} {H H1 H2 : Hp} {a p C dx : Addr} {o : HO}
theorem Step.fake {F' : Hp} {H' : Hp} (h : Sub W.F F') : Step W (fun _ => none) { W with F := F' } H' := ⟨h, ⟨[], by simp⟩, rfl, fun _ q => .inl q, fun _ _ _ => .inr (.inl rfl), fun _ _ q => nomatch q⟩
theorem CellOk.off {q : Addr} {c : Cell} (h : CellOk W H q c) (ne : q ≠ p) : CellOk W (upd H p o) q c := by
  cases c with
  | lst xs => obtain ⟨n, vs, e, r⟩ := h; exact ⟨n, vs, (upd_ne ne).trans e, r⟩
  | dK xs => obtain ⟨n, vs, e, r⟩ := h; exact ⟨n, vs, (upd_ne ne).trans e, r⟩
  | dT xs => obtain ⟨n, vs, e, r⟩ := h; exact ⟨n, vs, (upd_ne ne).trans e, r⟩
  | ins C xs => obtain ⟨n, dx, vs, e, f, r⟩ := h; exact ⟨n, dx, vs, (upd_ne ne).trans e, f, r⟩
  | fz d => exact h
theorem Rel.offF (r : Rel W S H) (hF : W.F p = none) (hl : p ∉ W.loc) : Rel W S (upd H p o) :=
  ⟨fun b u e => by rw [upd_ne (fun z => by rw [z, hF] at e; cases e)]; exact r.sub b u e, r.len, r.nd, fun i c q hi hq => (r.ok i c q hi hq).off fun z => hl (by rw [← z]; exact List.mem_of_getElem? hq)⟩
theorem CellOk.grow {F' : Hp} {q : Addr} {c : Cell} (h : CellOk W H q c) (hs : Sub W.F F') (hq : F' q = W.F q) : CellOk { W with F := F' } H q c := by
  have s : Step W (fun _ => none) { W with F := F' } H := Step.fake hs
  cases c with
  | lst xs => obtain ⟨n, vs, e, r⟩ := h; exact ⟨hq.trans n, vs, e, r.step s⟩
  | dK xs => obtain ⟨n, vs, e, r⟩ := h; exact ⟨hq.trans n, vs, e, r.step s⟩
  | dT xs => obtain ⟨n, vs, e, r⟩ := h; exact ⟨hq.trans n, vs, e, r.step s⟩
  | ins C xs => obtain ⟨n, dx, vs, e, f, r⟩ := h; exact ⟨hq.trans n, dx, vs, e, hs _ _ f, r.step s⟩
  | fz d => exact ⟨Rep.mono hs h.1, by show F' q ≠ none; rw [hq]; exact h.2⟩
/-- an object that is there, not ours as yet, is frozen -/
theorem Rel.take (s : Step W H1 W2 H2) (r : Rel W2 S H2) (h1 : H1 p = none) (h2 : H2 p = some o) (hF : W2.F p = none) (hl : p ∉ W2.loc) : Step W H1 { W2 with F := upd W2.F p o } H2 ∧ Rel { W2 with F := upd W2.F p o } S H2 := by
  have sub : Sub W2.F (upd W2.F p o) := fun b u e => by rw [upd_ne (fun z => by rw [z, hF] at e; cases e)]; exact e
  refine ⟨⟨s.F.trans sub, s.loc, s.hot, s.new, fun b u e => ?_, s.keep⟩, ⟨fun b u e => ?_, r.len, r.nd, fun i c q hi hq => (r.ok i c q hi hq).grow sub (upd_ne fun z => hl (by rw [← z]; exact List.mem_of_getElem? hq))⟩⟩
  · have e : upd W2.F p o b = some u := e
    by_cases z : b = p
    · subst z; exact .inr (.inl h1)
    · rw [upd_ne z] at e; exact s.newF b u e
  · have e : upd W2.F p o b = some u := e
    by_cases z : b = p
    · subst z; rw [upd_same] at e; cases e; exact h2
    · rw [upd_ne z] at e; exact r.sub b u e
/-- at a: an error that is being made, its fields fs -/
def XO (H1 : Hp) (a C : Addr) (W' : Wd) (H : Hp) (fs : List (Str × D)) : Prop := H1 a = none ∧ W'.F a = none ∧ a ∉ W'.loc ∧ ((fs = [] ∧ H a = some (exo a C none)) ∨
  ∃ dx vs, dx ≠ a ∧ H1 dx = none ∧ W'.F dx = none ∧ dx ∉ W'.loc ∧ H a = some (exo a C (some dx)) ∧ H dx = some (exd dx vs) ∧ RepF W'.F vs fs)
theorem exd_tup' {xs : List V} {fs : List (Str × V)} : exd dx fs ≠ .tup xs := exd_tup
theorem XO.step {fs : List (Str × D)} {H3 : Hp} {W3 : Wd} {S3 : Store} (x : XO H1 a C W2 H2 fs) (s : Step W2 H2 W3 H3) (r : Rel W3 S3 H3) : XO H1 a C W3 H3 fs := by
  obtain ⟨x1, x2, x3, x4⟩ := x
  rcases x4 with ⟨e, x4⟩ | ⟨dx, vs, d1, d2, d3, d4, d5, d6, d7⟩
  · obtain ⟨y1, y2, y3⟩ := s.stays x4 x3 x2 r fun xs => exo_tup
    exact ⟨x1, y2, y3, .inl ⟨e, y1⟩⟩
  · obtain ⟨y1, y2, y3⟩ := s.stays d5 x3 x2 r fun xs => exo_tup
    obtain ⟨z1, z2, z3⟩ := s.stays d6 d4 d3 r fun xs => exd_tup
    exact ⟨x1, y2, y3, .inr ⟨dx, vs, d1, d2, z2, z3, y1, z1, RepF.mono s.F d7⟩⟩
/-- made: frozen -/
theorem XO.fin {fs : List (Str × D)} (x : XO H1 a C W2 H2 fs) (s : Step W H1 W2 H2) (r : Rel W2 S H2) : ∃ W3, Step W H1 W3 H2 ∧ Rel W3 S H2 ∧ AVR W3 (.ref a) (.val (.exc C fs)) := by
  obtain ⟨x1, x2, x3, x4⟩ := x
  rcases x4 with ⟨e, x4⟩ | ⟨dx, vs, d1, d2, d3, d4, d5, d6, d7⟩
  · subst e
    obtain ⟨s2, r2⟩ := Rel.take s r x1 x4 x2 x3
    exact ⟨_, s2, r2, .exc0 upd_same⟩
  · obtain ⟨s2, r2⟩ := Rel.take s r x1 d5 x2 x3
    obtain ⟨s3, r3⟩ := Rel.take s2 r2 d2 d6 (by show upd W2.F a _ dx = none; rw [upd_ne d1]; exact d3) d4
    have sub : Sub W2.F (upd (upd W2.F a (exo a C (some dx))) dx (exd dx vs)) := fun b u e => by
      rw [upd_ne (fun z => by rw [z, d3] at e; cases e), upd_ne (fun z => by rw [z, x2] at e; cases e)]; exact e
    refine ⟨_, s3, r3, .exc (dx := dx) (vs := vs) ?_ upd_same (RepF.mono sub d7)⟩
    show upd (upd W2.F a _) dx _ a = _
    rw [upd_ne (Ne.symm d1)]; exact upd_same
end
abbrev IDen := Rho → Store → List (Str × D) → Option (List (Str × D) × Store)
def TI (C : Addr) (f : IDen) : TS := fun D σ H => ∃ W W' S H1 a ρ fs gs S2, Step W H1 W' H ∧ Rel W' S H ∧ XO H1 a C W' H fs ∧ EnvR W' ρ σ ∧ σ[0]? = some (some (.ref a)) ∧ f ρ S fs = some (gs, S2) ∧ ∀ W2 H2, Step W H1 W2 H2 → Rel W2 S2 H2 → XO H1 a C W2 H2 gs → D.nx σ H2
structure VIs (X : Cx) (C : Addr) (st : List Stmt) (f : IDen) : Prop where pss : PSs X st (TI C f)
def iNil : IDen := fun _ S fs => some (fs, S)
def iSto (f : Str) (g : Den AV) (k : IDen) : IDen := fun ρ S fs => match g ρ S with
  | .ok (.val d) S1 => if fs.length ≤ 900 then k ρ S1 ((f, d) :: fs) else none
  | _ => none
theorem repF_len {F : Hp} : ∀ {vs : List (Str × V)} {ds : List (Str × D)}, RepF F vs ds → vs.length = ds.length
  | _, _, .nil => rfl
  | _, _, .cons _ r => by simp [repF_len r]
section
variable {X : Cx} {C fI : Addr} {B newId initId : String} {bmB : List Value} {f : Str} {e : Expr} {g : Den AV} {k : IDen} {rest : List Stmt} {p p' pos : Pos}
theorem vis_nil : VIs X C [] iNil := ⟨pss_imp pss_nil fun D σ H ⟨W, W', S, H1, a, ρ, fs, gs, S2, s, r, x, en, hs, hf, q⟩ => by
  cases hf
  exact q W' H s r x⟩
theorem vis_cons (T : ExF X.K C fI B newId initId bmB) (hno : PySem.W.findIn X.K (.ref C) f = some none) (hso : PE X (.Name "self" p) (tVar 0)) (he : VE X W0 e g) (hr : VIs X C rest k) (hs : swapsWith e (some (.Attribute (.Name "self" p) f p')) pos.line X.env = pure false := by rfl) :
    VIs X C (.Assign [.Attribute (.Name "self" p) f p'] e pos :: rest) (iSto f g k) :=
  ⟨pss_imp (pss_cons (ps_osG T hno hso he.pe hs) hr.pss) fun D σ H ⟨W, W', S, H1, a, ρ, fs, gs, S2, s, r, x, en, hself, hf, q⟩ => by
    refine ⟨W', ρ, S, r, en, ?_⟩
    unfold iSto at hf
    cases eg : g ρ S with
    | exc C' fs' S1 => rw [eg] at hf; cases hf
    | stuck => rw [eg] at hf; cases hf
    | ok v S1 =>
      rw [eg] at hf
      cases v with
      | cell i => cases hf
      | hot => cases hf
      | val d =>
        have hf : (if fs.length ≤ 900 then k ρ S1 ((f, d) :: fs) else none) = some (gs, S2) := hf
        by_cases hl : fs.length ≤ 900
        · rw [if_pos hl] at hf
          intro W2 H2 s2 r2 y ry
          have x2 := x.step s2 r2
          have s3 := s.trans s2
          refine ⟨_, hself, a, rfl, ?_⟩
          obtain ⟨x1, xF, xl, x4⟩ := x2
          rcases x4 with ⟨e0, x4⟩ | ⟨dx, vs, d1, d2, d3, d4, d5, d6, d7⟩
          · subst e0
            refine .inl ⟨x4, fun dx hdx hda => ?_⟩
            obtain ⟨dF, dl⟩ := r2.fresh hdx
            have dn : H1 dx = none := by
              cases z : H1 dx with
              | none => rfl
              | some u =>
                by_cases hdl : dx ∈ W.loc
                · obtain ⟨m, hm⟩ := s3.loc
                  exact (dl (by rw [hm]; exact List.mem_append_left _ hdl)).elim
                · rw [s3.keep dx u z hdl] at hdx; cases hdx
            have s4 : Step W H1 W2 (upd (upd H2 dx (exd dx [(f, y)])) a (exo a C (some dx))) := ⟨s3.F, s3.loc, s3.hot, s3.new, s3.newF, fun b u eb nb => by
              rw [upd_ne (fun z => by rw [z, x1] at eb; cases eb), upd_ne (fun z => by rw [z, dn] at eb; cases eb)]; exact s3.keep b u eb nb⟩
            have r4 : Rel W2 S1 (upd (upd H2 dx (exd dx [(f, y)])) a (exo a C (some dx))) := (r2.offF dF dl).offF xF xl
            refine ⟨W, W2, S1, H1, a, ρ, [(f, d)], gs, S2, s4, r4, ⟨x1, xF, xl, .inr ⟨dx, [(f, y)], hda, dn, dF, dl, upd_same, ?_, .cons ry .nil⟩⟩, en.step s2, hself, hf, q⟩
            rw [upd_ne hda]; exact upd_same
          · refine .inr ⟨dx, vs, d5, d6, by rw [repF_len d7]; exact hl, ?_⟩
            have s4 : Step W H1 W2 (upd H2 dx (exd dx ((f, y) :: vs))) := ⟨s3.F, s3.loc, s3.hot, s3.new, s3.newF, fun b u eb nb => by
              rw [upd_ne (fun z => by rw [z, d2] at eb; cases eb)]; exact s3.keep b u eb nb⟩
            refine ⟨W, W2, S1, H1, a, ρ, (f, d) :: fs, gs, S2, s4, r2.offF d3 d4, ⟨x1, xF, xl, .inr ⟨dx, (f, y) :: vs, d1, d2, d3, d4, ?_, upd_same, .cons ry d7⟩⟩, en.step s2, hself, hf, q⟩
            rw [upd_ne (Ne.symm d1)]; exact d5
        · rw [if_neg hl] at hf; cases hf⟩
end
end VL

namespace VL
open PySem PySem.Spec PyProof.Rows L2 ClX NdefX

abbrev XDen := List AV → Store → Option (List (Str × D) × Store)
def iniDen (ok : Rho → Bool) (f : IDen) : XDen := fun as S => if ok (none :: as.map some ++ [none]) then f (none :: as.map some ++ [none]) S [] else none
def spEx (C : Addr) (n : Nat) (den : XDen) : Sp := fun vs H Q E => vs.length = n + 1 ∧ ∃ a ws H1 W S as gs S2, vs = .ref a :: ws ∧ H1 a = none ∧ H = upd H1 a (exo a C none) ∧ Rel W S H1 ∧ AVs W ws as ∧ den as S = some (gs, S2) ∧
  ∀ W2 H2, Step W H1 W2 H2 → Rel W2 S2 H2 → AVR W2 (.ref a) (.val (.exc C gs)) → Q .non H2
/-- an own error class at the module's name x -/
structure VEx (P : Program) (w : World) (K : PySem.W.Frag) (mg : Str → Option Value) (base : Heap) (k n : Nat) (x : Str) (C : Addr) (den : XDen) : Prop where
  ex : ∃ (B newId initId : String) (bmB : List Value) (fI : Addr) (fd : FuncData) (ps : List Str), mg x = some (.ref C) ∧ ExF K C fI B newId initId bmB ∧ FnOk P w K mg base (L2.CX P w) k fI fd ps (spEx C n den) ∧ Binds K fd ps [] ∧ ps.length = n + 1
section
variable {P : Program} {w : World} {K : PySem.W.Frag} {mg : Str → Option Value} {base : Heap} {f C : Addr} {name qual : Str} {params : Arguments} {rest : List Stmt} {scope : Scope} {N ps : List Str} {k n : Nat} {B newId initId : String} {bmB : List Value} {e : Expr}
  {p0 p1 p2 p3 p4 : Pos} {pl : Sem Bool} {ar : Arg} {x : Str} {okm : Rho → Bool} {id : IDen}
theorem vex_of (F : IniF P K f C name qual params (supSt e [] p0 p1 p2 p3 p4 :: rest) scope) (T : ExF K C f B newId initId bmB) (hx : mg x = some (.ref C)) (S : NScope (ps ++ [("__class__" : Str)]) ps ["__class__"] scope) (hn : ps.length = n + 1)
    (hp : (params.posonlyargs ++ params.args).head? = some ar) (hps : ps[0]? = some ar.arg) (htop : (P.main.scope.names.lookup ("super" : Str)).isSome = false) (hsuper : mg "super" = none) (hks : scope.names.lookup ("super" : Str) = some .globalImplicit)
    (hb : ∀ (kV doc pm : Value) (an : Option Addr) (cdv ct : Value) (cc : Addr) (us : List Value), us.length = ps.length → bindArgs (PySem.W.ksFn name qual params (supSt e [] p0 p1 p2 p3 p4 :: rest) scope .none kV doc pm an cdv ct cc) ⟨us, []⟩ = pure (ps.zip us))
    (hm : ∀ cc cda A outer s H E, VMsg (iX P w K mg base (ps ++ [("__class__" : Str)]) name qual params (supSt e [] p0 p1 p2 p3 p4 :: rest) scope f cc cda A outer s H E) e okm)
    (hr : ∀ cc cda A outer s H E, VIs (iX P w K mg base (ps ++ [("__class__" : Str)]) name qual params (supSt e [] p0 p1 p2 p3 p4 :: rest) scope f cc cda A outer s H E) C rest id)
    (he : ∀ env, starEach (e :: []) env = (false, eval e env) :: starEach [] env := by intro _; rfl)
    (hi : ∀ L cda cc, interactive (NdefX.envF ⟨name, qual, params, supSt e [] p0 p1 p2 p3 p4 :: rest, scope, [("__class__", cc)], cda⟩ f L) = false := by intro _ _ _; rfl)
    (hsw : ∀ L cda cc, swapsWith (.Call (.Attribute (.Call (.Name "super" p0) [] [] p1) "__init__" p2) (e :: []) [] p3) none p4.line (NdefX.envF ⟨name, qual, params, supSt e [] p0 p1 p2 p3 p4 :: rest, scope, [("__class__", cc)], cda⟩ f L) = pure false := by intro _ _ _; rfl)
    (hev : ∀ env, eval (.Call (.Attribute (.Call (.Name "super" p0) [] [] p1) "__init__" p2) (e :: []) [] p3) env = (do
      let z ← attributeBase (.Call (.Name "super" p0) [] [] p1) "__init__" env (eval (.Call (.Name "super" p0) [] [] p1) env)
      standAt p2.atName
      let (z1, z2) ← holding [z] (getMethod z "__init__" pl)
      callWith p3 z1 z2 (backTo p3 (starEach (e :: []) env)) []) := by intro _; rfl) :
    VEx P w K mg base (k + 1) n x C (iniDen okm id) := by
  have hN : (ps ++ [("__class__" : Str)])[0]? = some ar.arg := by rw [List.getElem?_append_left (by omega)]; exact hps
  obtain ⟨fd, h1, kV, doc, pm, an, cdv, ct, cc, rfl⟩ := init_ok (w := w) (base := base) (k := k) (sp := spEx C n (iniDen okm id)) (pl := pl) (ar := ar) F T S (fun vs H Q E h => h.1.trans hn.symm) hp hN hps htop hsuper hks (fun cc cda A outer s H vs Q E hsp => by
    obtain ⟨hl, a, ws, H1, W, S, as, gs, S2, rfl, ha, rfl, r, ra, hd, q⟩ := hsp
    obtain ⟨t, h1, h2⟩ := hm cc cda A outer s (upd H1 a (exo a C none)) E
    unfold iniDen at hd
    cases eo : okm (none :: as.map some ++ [none]) with
    | false => rw [eo] at hd; cases hd
    | true =>
      rw [eo, if_pos rfl] at hd
      have en : EnvR W (none :: as.map some ++ [none]) (startF (ps ++ [("__class__" : Str)]) (V.ref a :: ws) [none]) := by
        have el : startF (ps ++ [("__class__" : Str)]) (V.ref a :: ws) [none] = some (.ref a) :: ws.map some ++ [none] := by
          unfold startF
          have e0 : (ps ++ [("__class__" : Str)]).length - (V.ref a :: ws).length - ([none] : List (Option V)).length = 0 := by
            rw [hl]
            simp [hn]
          rw [e0]
          simp
        rw [el]
        refine ⟨by simp [ra.len], fun i b h => ?_⟩
        cases i with
        | zero => cases h
        | succ i =>
          have h : (as.map some ++ [none])[i]? = some (some b) := h
          show ∃ v, (ws.map some ++ [none])[i]? = some (some v) ∧ AVR W v b
          by_cases hi : i < as.length
          · rw [List.getElem?_append_left (by simpa using hi), List.getElem?_map] at h
            cases e : as[i]? with
            | none => rw [e] at h; cases h
            | some b2 =>
              rw [e] at h
              cases h
              obtain ⟨v, e1, e2⟩ := ra.get' e
              refine ⟨v, ?_, e2⟩
              rw [List.getElem?_append_left (by rw [List.length_map, ra.len]; exact hi), List.getElem?_map, e1]
              rfl
          · rw [List.getElem?_append_right (by simpa using hi)] at h
            cases ej : i - (as.map some).length with
            | zero => rw [ej] at h; cases h
            | succ j => rw [ej] at h; cases h
      obtain ⟨hF, hlo⟩ := r.fresh ha
      refine ⟨a, t, _, rfl, upd_same, h1, (hr cc cda A outer s (upd H1 a (exo a C none)) E).pss, ?_⟩
      refine h2 W _ _ _ _ en eo fun v => ⟨by simp, upd_same, ?_⟩
      refine ⟨W, W, S, H1, a, none :: as.map some ++ [none], [], gs, S2, Step.temp ha, r.temp ha, ⟨ha, hF, hlo, .inl ⟨rfl, upd_same⟩⟩, en, rfl, hd, fun W2 H2 s2 r2 x2 => ?_⟩
      obtain ⟨W3, s3, r3, a3⟩ := x2.fin s2 r2
      exact q W3 H2 s3 r3 a3) he (by intro _; rfl) hi hsw hev
  exact ⟨B, newId, initId, bmB, f, _, ps, hx, T, h1, .all (hb kV doc pm an cdv ct cc), hn⟩
end
/-- C(e, ..) -/
def dExc (C : Addr) (n : Nat) (den : XDen) (g : Den (List AV)) : Den AV := fun ρ S => (g ρ S).bind fun as S1 => if as.length = n then (match den as S1 with
  | some (gs, S2) => .ok (.val (.exc C gs)) S2
  | none => .stuck) else .stuck
section
variable {X : Cx} {Wx : WX} {x : Str} {p pos : Pos} {e o : Expr} {es : List Expr} {g : Den (List AV)} {den : XDen} {k n : Nat} {C : Addr}
/-- the bare error stands behind the arguments' tuple -/
theorem bare_made {pins : List (Addr × Obj)} {σ : L2.St} {H : Hp} {hp : Heap} {g : Array GenState} {d : Drawn} {t : Nat} {os : OsState} {C : Addr} (I : Inv X pins σ H ⟨hp, g, d, t, os⟩) (us : List Value) :
    H (hp.objs.size + 1) = none ∧ Inv X pins σ (upd H (hp.objs.size + 1) (exo (hp.objs.size + 1) C none)) ⟨(hp.push (PySem.W.kdv_tup us)).push (PySem.HandSPX.excO C hp.objs.size), g, d, t, os⟩ := by
  have above := Nat.le_succ hp.objs.size
  have at_ : ((hp.push (PySem.W.kdv_tup us)).push (PySem.HandSPX.excO C hp.objs.size)).get? (hp.objs.size + 1) = some (PySem.HandSPX.excO C hp.objs.size) := by heap_get
  exact ⟨I.hok.fresh above, I.laid (t' := t) (fun b o z => Heap.get?_push_of_some _ (Heap.get?_push_of_some _ z)) above (exo_ok at_)⟩
theorem run_exc {B newId initId : String} {bmB : List Value} {fI : Addr} {fd : FuncData} {ps : List Str} {sp : Sp} {pins : List (Addr × Obj)} {σ : L2.St} {H1 : Hp} {s1 : Shared} {vs : List V} {us : List Value} {Q : VK} (T : ExF X.K C fI B newId initId bmB) (F1 : FnOk X.prog X.w X.K X.mg X.base (L2.CX X.prog X.w) k fI fd ps sp) (hb : Binds X.K fd ps [])
    (hr : Room (k + 1) X.A) (hx : Passes (L2.CX X.prog X.w) X (fun _ _ _ => False)) (I1 : Inv X pins σ H1 s1) (r1 : Vals vs us) (hz : vs.length ≤ 1000)
    (q1 : ∀ a, H1 a = none → sp (.ref a :: vs) (upd H1 a (exo a C none)) (fun v H2 => v = .non ∧ Q (.ref a) H2) (fun _ _ _ => False)) : wpAny (model X.prog X.w) X.A (call (.ref C) us) (EP X pins σ Q) X.xe s1 := by
  obtain ⟨hp, g, d, t, os⟩ := s1
  obtain ⟨_, _, _, _, _, _, _, _, _, _, _, _, _, _, _, _, isC, mro⟩ := PySem.W.excInit_of I1.kIn T.made
  obtain ⟨new, I2⟩ := bare_made (C := C) I1 us
  have want := q1 _ new
  have few : us.length ≤ sizeLine := by rw [← r1.length, sizeLine_eq]; omega
  have rr : Vals (.ref (hp.objs.size + 1) :: vs) (.ref (hp.objs.size + 1) :: us) := .cons rfl r1
  have all : (Value.ref (hp.objs.size + 1) :: us ++ []).length = ps.length := by rw [List.append_nil]; exact rr.length.symm.trans (F1.len _ _ _ _ want)
  have bound := hb _ (.ref (hp.objs.size + 1) :: us) I2.kIn all
  rw [List.append_nil] at bound
  have cd := F1.run _ X.stack _ _ ⟨.ref (hp.objs.size + 1) :: us, []⟩ _ _ _ (fun _ _ _ => False) (hr.make C us []) (I2.env0.make C us []) bound rr want
  refine wpAny_call (PySem.HandSPX.call_own T.FB mro isC (PySem.W.looks_findIn I1.kIn T.init) (fun self => PySem.W.bind_fn I1.kIn self T.initT) few (codeAny_mono cd fun r s' z => ?_))
  match r, z with
  | .error er, z => exact hx pins σ _ _ er s' I2 z
  | .ok (.ret u), z =>
    obtain ⟨v, H', J, rv, ev, q⟩ := I2.after z
    cases ev
    exact ⟨rv, .ref (hp.objs.size + 1), H', J, rfl, q⟩
  | .ok .next, z => exact z.elim
  | .ok .brk, z => exact z.elim
  | .ok .cont, z => exact z.elim
theorem exc_go {W : Wd} {S : Store} {H : Hp} {σ : L2.St} {vs : List V} {as : List AV} {Q : VK} (r : Rel W S H) (ra : AVs W vs as) (h : GoP Wx W σ H (if as.length = n then (match den as S with
  | some (gs, S2) => .ok (.val (.exc C gs)) S2
  | none => .stuck) else .stuck) (QV Q)) : vs.length = n ∧ ∀ a, H a = none → spEx C n den (.ref a :: vs) (upd H a (exo a C none)) (fun v H2 => v = .non ∧ Q (.ref a) H2) (fun _ _ _ => False) := by
  by_cases e : as.length = n
  · rw [if_pos e] at h
    cases ed : den as S with
    | none => rw [ed] at h; exact h.elim
    | some z =>
      obtain ⟨gs, S2⟩ := z
      rw [ed] at h
      exact ⟨ra.len.trans e, fun a ha => ⟨by simp [ra.len, e], a, vs, H, W, S, as, gs, S2, rfl, ha, rfl, r, ra, ed, fun W2 H2 s2 r2 rv => ⟨rfl, h W2 H2 s2 r2 _ rv⟩⟩⟩
  · rw [if_neg e] at h; exact h.elim
theorem ve_exc (F : VEx X.prog X.w X.K X.mg X.base k n x C den) (hr : Room (k + 1) X.A) (tk : Takes X Wx) (ha : VA X Wx (e :: es) g) (hn : n ≤ 1000 := by decide) (hg : Gl X x := by rfl) (hdb : (x == ("__debug__" : Str)) = false := by decide)
    (he : starEach (e :: es) X.env = (false, eval e X.env) :: starEach es X.env := by rfl) (hpl : (backTo pos (starEach es X.env)).any (·.1) = false := by rfl) : VE X Wx (.Call (.Name x p) (e :: es) [] pos) (dExc C n den g) := by
  obtain ⟨B, newId, initId, bmB, fI, fd, ps, hm, T, F1, hb, hps⟩ := F
  have pe : PE X (.Call (.Name x p) (e :: es) [] pos) (fun σ H Q => TVA Wx g σ H fun vs H1 => vs.length ≤ 1000 ∧ ∀ a, H1 a = none → spEx C n den (.ref a :: vs) (upd H1 a (exo a C none)) (fun v H2 => v = .non ∧ Q (.ref a) H2) (fun _ _ _ => False)) := by
    constructor
    intro pins s σ H Q I h
    apply wpAny_Call_Name_kw (ld_glob I hg hm _ hdb)
    refine PySem.W.callWith_K (h₀ := X.base) I.ok.mod.kin T.keep (thn (ha.pa.run pos pins s σ H _ I h) fun us s1 ⟨vs, H1, I1, r1, hz, q1⟩ => ⟨I1.kIn, ?_⟩) he hpl
    exact run_exc T F1 hb hr (passes_call tk fun _ _ _ _ z => z.elim) I1 r1 hz q1
  refine .of pe fun σ H Q W ρ S rl en h => tva_seq rl en h fun as S1 W1 H1 vs s1 r1 e1 rv h1 => ?_
  obtain ⟨hl, q⟩ := exc_go r1 rv h1
  exact ⟨by omega, q⟩
theorem ve_exc0 (F : VEx X.prog X.w X.K X.mg X.base k 0 x C den) (hr : Room (k + 1) X.A) (tk : Takes X Wx) (hg : Gl X x := by rfl) (hdb : (x == ("__debug__" : Str)) = false := by decide) : VE X Wx (.Call (.Name x p) [] [] pos) (dExc C 0 den dNil) := by
  obtain ⟨B, newId, initId, bmB, fI, fd, ps, hm, T, F1, hb, hps⟩ := F
  have pe : PE X (.Call (.Name x p) [] [] pos) (fun σ H Q => ∀ a, H a = none → spEx C 0 den [.ref a] (upd H a (exo a C none)) (fun v H2 => v = .non ∧ Q (.ref a) H2) (fun _ _ _ => False)) := by
    constructor
    intro pins s σ H Q I h
    apply wpAny_Call_Name_kw (ld_glob I hg hm _ hdb)
    exact PySem.W.callWith_K0 I.kIn T.keep (run_exc (us := []) (vs := []) T F1 hb hr (passes_call tk fun _ _ _ _ z => z.elim) I .nil (by simp) h)
  refine .of pe fun σ H Q W ρ S rl en h => ?_
  exact (exc_go (n := 0) rl .nil h).2
end
end VL

namespace VL
open PySem PySem.Spec PyProof.Rows L2 ClX NdefX

/-- the number of a class among those named -/
def clsIx (K : PySem.W.Frag) (names : List Str) (C : Addr) : Option Nat := (names.map (He.ga K)).findIdx? (· == C)
/-- what the text says of all of them -/
structure XKs (K : PySem.W.Frag) (names : List Str) : Prop where
  nd : (names.map (He.ga K)).Nodup
  hd : ∀ x ∈ names, PySem.W.hasDictIn K (He.ga K x) = true
  exC : ∀ x ∈ names, PySem.W.subIn K (.ref (He.ga K x)) (.type "BaseException") = some true
  ga : ∀ x ∈ names, PySem.W.findIn K (.ref (He.ga K x)) "__getattribute__" = some (some (.builtin "BaseException.__getattribute__"))
  gg : ∀ x ∈ names, PySem.W.findIn K (.ref (He.ga K x)) "__getattr__" = some none
  ca : ∀ x ∈ names, PySem.W.findIn K (.ref (He.ga K x)) "__class__" = some (some (.builtin "object.__class__"))
  cn : PySem.W.specialIn K (.builtin "object.__class__") "__get__" = some (some (.builtin "getset_descriptor.__get__"))
  ct : PySem.W.takesIn K (.builtin "object.__class__") = some true
  cm : ∀ x ∈ names, PySem.W.mroIn K (He.ga K x) (.type "object") = some true
theorem clsIx_mem {K : PySem.W.Frag} {names : List Str} {C : Addr} {i : Nat} (h : clsIx K names C = some i) : ∃ x, names[i]? = some x ∧ He.ga K x = C := by
  unfold clsIx at h
  rw [List.findIdx?_eq_some_iff_getElem] at h
  obtain ⟨hi, h1, _⟩ := h
  rw [List.length_map] at hi
  rw [List.getElem_map] at h1
  exact ⟨names[i], List.getElem?_eq_getElem hi, beq_iff_eq.mp h1⟩
theorem clsIx_at {K : PySem.W.Frag} {names : List Str} (k : XKs K names) {i : Nat} {x : Str} (h : names[i]? = some x) : clsIx K names (He.ga K x) = some i := by
  unfold clsIx
  rw [List.findIdx?_eq_some_iff_getElem]
  obtain ⟨hi, e⟩ := List.getElem?_eq_some_iff.mp h
  refine ⟨by rw [List.length_map]; exact hi, by rw [List.getElem_map, e]; exact beq_self_eq_true _, fun j hj => ?_⟩
  rw [Bool.not_eq_true, List.getElem_map]
  have hjl : j < (names.map (He.ga K)).length := by rw [List.length_map]; omega
  have ne := List.pairwise_iff_getElem.mp k.nd j i hjl (by rw [List.length_map]; exact hi) hj
  rw [List.getElem_map, List.getElem_map, e] at ne
  exact beq_eq_false_iff_ne.mpr ne
section
variable {X : Cx} {pins : List (Addr × Obj)} {σ : L2.St} {H : Hp} {s : Shared} {W : Wd} {S : Store}
theorem repF_look {F : Hp} {f : Str} {d : D} : ∀ {vs : List (Str × V)} {ds : List (Str × D)}, RepF F vs ds → ds.lookup f = some d → ∃ v, vs.lookup f = some v ∧ Rep F v d
  | _, _, .nil, h => by cases h
  | _, _, @RepF.cons _ k v d0 vs ds r rs, h => by
    rw [List.lookup_cons] at h ⊢
    cases e : (f == k) with
    | true => rw [e] at h; cases h; exact ⟨v, rfl, r⟩
    | false => rw [e] at h; exact repF_look rs h
/-- an error at a, as the heap has it -/
def XAt (H : Hp) (a C : Addr) (vs : List (Str × V)) : Prop := (vs = [] ∧ H a = some (exo a C none)) ∨ ∃ dx, H a = some (exo a C (some dx)) ∧ H dx = some (exd dx vs)
theorem xat_of {v : V} {C : Addr} {fs : List (Str × D)} (r : Rel W S H) (rv : AVR W v (.val (.exc C fs))) : ∃ a vs, v = .ref a ∧ XAt H a C vs ∧ RepF W.F vs fs := by
  cases rv with
  | exc0 h => exact ⟨_, [], rfl, .inl ⟨rfl, r.sub _ _ h⟩, .nil⟩
  | exc h h2 rs => exact ⟨_, _, rfl, .inr ⟨_, r.sub _ _ h, r.sub _ _ h2⟩, rs⟩
theorem xat_inst {a C : Addr} {vs : List (Str × V)} (I : Inv X pins σ H s) (x : XAt H a C vs) : ∃ ox od, PySem.W.InstAt s.heap a ox C od ∧ ∀ f v, vs.lookup f = some v → ∃ u o, od = some o ∧ PySem.W.lookIn f o = some (some u) ∧ RelV v u := by
  rcases x with ⟨e, x⟩ | ⟨dx, x, y⟩
  · obtain ⟨t1, ho⟩ := exo_at I.hok x
    subst e
    exact ⟨_, none, ⟨ho, rfl, rfl, trivial⟩, fun f v h => by cases h⟩
  · obtain ⟨t1, ho⟩ := exo_at I.hok x
    obtain ⟨mA, hns, rel⟩ := exd_at I.hok y
    obtain ⟨od, hod, hl⟩ := lookIn_ns hns
    refine ⟨_, some od, ⟨ho, rfl, rfl, hod⟩, fun f v h => ?_⟩
    obtain ⟨u, hu, ru⟩ := RelO.some_of (v := v) (o := mA f) (by rw [← h]; exact rel f)
    exact ⟨u, od, rfl, by rw [hl, hu], ru⟩
end
/-- e.f of an error -/
def dXatt (K : PySem.W.Frag) (names : List Str) (f : Str) (g : Den AV) : Den AV := fun ρ S => (g ρ S).bind fun a S1 => match a with
  | .val (.exc C fs) => (match clsIx K names C with
    | some _ => (match fs.lookup f with
      | some d => .ok (.val d) S1
      | none => .stuck)
    | none => .stuck)
  | _ => .stuck
section
variable {X : Cx} {Wx : WX} {e o : Expr} {g : Den AV} {names : List Str} {f : Str} {pos p cp : Pos}
theorem ve_xatt (k : XKs X.K names) (hno : ∀ x ∈ names, PySem.W.findIn X.K (.ref (He.ga X.K x)) f = some none) (he : VE X Wx e g) (hb : attributeBase e f X.env (eval e X.env) = eval e X.env := by rfl) : VE X Wx (.Attribute e f pos) (dXatt X.K names f g) := by
  have pe : PE X (.Attribute e f pos) (fun σ H Q => TV Wx g σ H fun x H1 => ∃ a C vs v i, x = .ref a ∧ XAt H1 a C vs ∧ clsIx X.K names C = some i ∧ vs.lookup f = some v ∧ Q v H1) := by
    refine ⟨fun pins s σ H Q I h => ?_⟩
    refine attr_of hb (thn (he.pe.run pins s σ H _ I h) fun u s1 hh => ?_)
    obtain ⟨x, H1, I1, rx, a, C, vs, v, i, ex, xa, hc, l, q⟩ := hh
    subst ex
    obtain rfl : u = Value.ref a := rx
    obtain ⟨nm, hnm, rfl⟩ := clsIx_mem hc
    have hm := List.mem_of_getElem? hnm
    obtain ⟨ox, od, J, hl⟩ := xat_inst I1 xa
    obtain ⟨u, oo, rfl, hu, ru⟩ := hl f v l
    exact HandSPX.exc_get I1.kIn J (k.ga nm hm) (k.gg nm hm) (k.exC nm hm) (PySem.W.findObj_own (k.hd nm hm) (hno nm hm) rfl hu) (handed_of ru) ⟨v, H1, I1.tok _, ru, q⟩
  refine .of pe fun σ H Q W ρ S rl en h => tv_seq rl en h fun a S1 W1 H1 v s1 r1 e1 ra h1 => ?_
  cases a with
  | cell i => exact h1.elim
  | hot => exact h1.elim
  | val d =>
    cases d with
    | exc C fs =>
      have h1 : GoP Wx W1 σ H1 (match clsIx X.K names C with
        | some _ => (match fs.lookup f with
          | some d => .ok (.val d) S1
          | none => .stuck)
        | none => .stuck) (QV Q) := h1
      cases ec : clsIx X.K names C with
      | none => rw [ec] at h1; exact h1.elim
      | some i =>
        rw [ec] at h1
        have h1 : GoP Wx W1 σ H1 (match fs.lookup f with
          | some d => .ok (.val d) S1
          | none => .stuck) (QV Q) := h1
        cases ed : fs.lookup f with
        | none => rw [ed] at h1; exact h1.elim
        | some d =>
          rw [ed] at h1
          obtain ⟨a, vs, rfl, xa, rs⟩ := xat_of r1 ra
          obtain ⟨v, lv, rv⟩ := repF_look rs ed
          exact ⟨a, C, vs, v, i, rfl, xa, ec, lv, h1.here r1 v rv⟩
    | _ => exact h1.elim
def oIsX (K : PySem.W.Frag) (names : List Str) (tb : Nat → Bool) : List AV → Store → Out AV := fun as S => match as with
  | [.val (.exc C _), _] => (match clsIx K names C with
    | some i => .ok (.val (.bl (tb i))) S
    | none => .stuck)
  | _ => .stuck
theorem call_isX {X : Cx} {names : List Str} {cv : Value} {tb : Nat → Bool} (k : XKs X.K names) (ht : ∀ i x, names[i]? = some x → PySem.W.kitOne X.K (.ref (He.ga X.K x)) cv = some (tb i)) :
    CallR X (.builtin "isinstance") (fun xs H Q => ∃ a C i vs c, xs = [.ref a, c] ∧ (∀ u, RelV c u → u = cv) ∧ clsIx X.K names C = some i ∧ XAt H a C vs ∧ Q (.bl (tb i)) H) := by
  intro pins s σ H xs us Q I r ⟨a, C, i, vs, c, exs, hcv, hc, xa, q⟩
  subst exs
  cases r with
  | cons rx rr =>
    cases rr with
    | cons rt rr =>
      cases rr
      cases rx
      have ec := hcv _ rt
      subst ec
      obtain ⟨nm, hnm, rfl⟩ := clsIx_mem hc
      have hm := List.mem_of_getElem? hnm
      obtain ⟨ox, od, J, _⟩ := xat_inst I xa
      exact PySem.W.kia_one (PySem.W.kitx_exc (by obtain ⟨cd, hcd, _⟩ := PySem.W.any_some (k.hd nm hm); rw [hcd]; rfl) (k.ga nm hm) (k.gg nm hm) (k.exC nm hm) (k.ca nm hm) k.cn k.ct (k.cm nm hm)) I.kIn J (ht i nm hnm) (fun z => nomatch z) fun tk => ⟨.bl (tb i), H, I.tok tk, rfl, q⟩
/-- a class by its name -/
def dTy (v : V) : Den AV := dC (.raw v)
theorem ve_ty {v : V} {x : Str} {u : Value} (hg : Gl X x) (hm : X.mg x = none) (hv : bootBuiltins x = some u) (r : RelV v u) (hn : x ≠ "__name__" := by decide) (hd : (x == ("__debug__" : Str)) = false := by decide) : VE X Wx (.Name x pos) (dTy v) :=
  .of (pe_bltn hg hm hv r hn hd) fun σ H Q W ρ S rl en h => h.here rl _ .raw
theorem ve_cls {x : Str} {a : Addr} (hm : X.mg x = some (.ref a)) (hg : Gl X x := by rfl) (hd : (x == ("__debug__" : Str)) = false := by decide) : VE X Wx (.Name x pos) (dTy (.ref a)) := ve_glob (v := .ref a) hm rfl (fun _ => .raw) hg hd
theorem ve_isX {c : Expr} {v : V} {cv : Value} {tb : Nat → Bool} (k : XKs X.K names) (ht : ∀ i x, names[i]? = some x → PySem.W.kitOne X.K (.ref (He.ga X.K x)) cv = some (tb i)) (hcv : ∀ u, RelV v u → u = cv) (hm : X.mg "isinstance" = none) (ho : VE X Wx o g) (hc : VE X Wx c (dTy v))
    (hg : Gl X "isinstance" := by rfl) (he : starEach [o, c] X.env = (false, eval o X.env) :: starEach [c] X.env := by rfl) (he2 : starEach [c] X.env = (false, eval c X.env) :: starEach [] X.env := by rfl) (hpl : (backTo pos (starEach [c] X.env)).any (·.1) = false := by rfl) :
    VE X Wx (.Call (.Name "isinstance" p) [o, c] [] pos) (dCB (oIsX X.K names tb) (dCons g (dCons (dTy v) dNil))) := by
  refine .of (pe_callB (call_isX k ht) hg hm (by decide +kernel) (va_cons ho (va_cons hc va_nil he2) he).pa (by decide) (by decide) he hpl) fun σ H Q W ρ S rl en h => ?_
  have h : GoP Wx W σ H ((g ρ S).bind fun x S1 => oIsX X.K names tb [x, .val (.raw v)] S1) (QV Q) := by
    have e : (dCB (oIsX X.K names tb) (dCons g (dCons (dTy v) dNil))) ρ S = (g ρ S).bind fun x S1 => oIsX X.K names tb [x, .val (.raw v)] S1 := by
      unfold dCB dCons
      cases g ρ S <;> rfl
    rw [← e]; exact h
  have e2 : dCons g (dCons (dTy v) dNil) ρ S = (g ρ S).bind fun x S1 => .ok [x, .val (.raw v)] S1 := by
    unfold dCons
    cases g ρ S <;> rfl
  refine ⟨W, ρ, S, rl, en, ?_⟩
  rw [e2]
  cases eg : g ρ S with
  | exc C' fs' S1 => rw [eg] at h; exact h
  | stuck => rw [eg] at h; exact h
  | ok x S1 =>
    rw [eg] at h
    intro W1 H1 s1 r1 vs ra
    obtain ⟨v1, v2, rfl, ra1, ra2⟩ := avs2 ra
    have h : GoP Wx W σ H (oIsX X.K names tb [x, .val (.raw v)] S1) (QV Q) := h
    unfold oIsX at h
    cases x with
    | cell i => exact h.elim
    | hot => exact h.elim
    | val d =>
      cases d with
      | exc C fs =>
        cases ec : clsIx X.K names C with
        | none => simp only [ec] at h; exact h.elim
        | some i =>
          simp only [ec] at h
          obtain ⟨a, vs, rfl, xa, rs⟩ := xat_of r1 ra1
          cases ra2
          exact ⟨a, C, i, vs, _, rfl, hcv, ec, xa, h W1 H1 s1 r1 _ .bl⟩
      | _ => exact h.elim
end
theorem takes_W0 (X : Cx) : Takes X W0 := fun u s' ⟨a, B, sI, pins, σ, H, cls, d, e, I, nb, up, sky, na, os, ag, z⟩ => z.elim
end VL

namespace VL
open PySem PySem.Spec PyProof.Rows L2 ClX NdefX
theorem fileB_ok {file : Str} {K : PySem.W.Frag} {cda : Addr} (h : fileB file K cda = true) : ∃ (ccl : Value) (cdd : Option Addr) (vs : Array Value) (ccs : Array (Option Value)) (f : Str) (tf : Tok), K.lookup cda = some ⟨ccl, cdd, .fields vs, ccs⟩ ∧ vs[2]? = some (.str f tf) ∧ (file == f) = true := by
  unfold fileB at h
  split at h
  · rename_i oc od vs sl e
    split at h
    · rename_i f tf e2
      exact ⟨oc, od, vs, sl, f, tf, e, e2, h⟩
    · cases h
  · cases h
theorem cellB_ok {K : PySem.W.Frag} {C cc : Addr} (h : cellB K C cc = true) : ∃ (cl : Value) (cld : Option Addr) (csl : Array (Option Value)), K.lookup cc = some ⟨cl, cld, .cell (some (.ref C)), csl⟩ := by
  unfold cellB at h
  split at h
  · rename_i oc od D sl e
    have ed := of_decide_eq_true h
    subst ed
    exact ⟨oc, od, sl, e⟩
  · cases h
theorem ini_ok {P : Program} {K : PySem.W.Frag} {d : IniD} (e : fnI K d.x = d.val) (c : iniB P.main.file K d.x = true) : IniF P K (He.ma K (He.ga K d.x) "__init__") (He.ga K d.x) "__init__" d.qual d.params d.body d.scope := by
  unfold fnI at e
  unfold iniB at c
  cases q : K.lookup (He.ma K (He.ga K d.x) "__init__") with
  | none => rw [q] at c; cases c
  | some o =>
    obtain ⟨oc, od, dt, osl⟩ := o
    rw [q] at c e
    cases dt with
    | func fd =>
      obtain ⟨n1, n2, n3, n4, n5, n6, n7, n8, n9, n10, n11, n12, n13, n14, n15⟩ := fd
      have e2 : (some (n1, n2, n3, n4, n5, n6, n8, n15) : FnI) = some (("__init__" : Str), d.qual, d.params, FuncBody.stmts d.body, d.scope, mainGlobals, Value.none, builtinsNs) := e
      simp only [Option.some.injEq, Prod.mk.injEq] at e2
      obtain ⟨h1, h2, h3, h4, h5, h6, h8, h9⟩ := e2
      subst h1 h2 h3 h4 h5 h6 h8 h9
      have c : closB P.main.file K d.qual (He.ga K d.x) n7 n13 = true := c
      unfold closB at c
      split at c
      · rename_i nm cc cda zz
        obtain ⟨c1, c⟩ := He.ba c
        obtain ⟨c2, c⟩ := He.ba c
        obtain ⟨c3, c4⟩ := He.ba c
        have en : nm = "__class__" := beq_iff_eq.mp c1
        subst en
        exact ⟨oc, od, n9, n10, n11, n12, n14, osl, cc, cda, q, c2, fileB_ok c3, cellB_ok c4⟩
      · cases c
    | _ => cases c
theorem exf_ok {K : PySem.W.Frag} {C : Addr} {B newId initId : String} {bmB : List Value} (FB : ExcBaseFacts B newId initId bmB) (SF : StoreFacts B bmB "object.__setattr__" "object") (KF : PySem.W.KxsFacts B initId) (h : exfB K C B newId initId bmB = true) (c : comB K = true) :
    ExF K C (He.ma K C "__init__") B newId initId bmB := by
  unfold exfB at h
  unfold comB at c
  simp only [Bool.and_eq_true, decide_eq_true_eq] at h c
  obtain ⟨h1, h2, h3, h4, h5, h6, h7, h8, h9, h10, h11, h12, h13, h14, h15, h16⟩ := h
  obtain ⟨c1, c2, c3⟩ := c
  exact ⟨FB, SF, KF, h1, h2, h3, h4, h5, h6, h7, h8, h9, h10, h11, h12, c1, h13, h14, h15, c2, c3, h16⟩
theorem exf_VE {K : PySem.W.Frag} {C : Addr} (h : exfB K C "ValueError" "ValueError.__new__" "ValueError.__init__" [.type "ValueError", .type "Exception", .type "BaseException", .type "object"] = true) (c : comB K = true) : ExF K C (He.ma K C "__init__") "ValueError" "ValueError.__new__" "ValueError.__init__" [.type "ValueError", .type "Exception", .type "BaseException", .type "object"] :=
  exf_ok F.excBase_ValueError F.store_ValueError PySem.W.kxs_ValueError h c
theorem exf_LE {K : PySem.W.Frag} {C : Addr} (h : exfB K C "LookupError" "LookupError.__new__" "LookupError.__init__" [.type "LookupError", .type "Exception", .type "BaseException", .type "object"] = true) (c : comB K = true) : ExF K C (He.ma K C "__init__") "LookupError" "LookupError.__new__" "LookupError.__init__" [.type "LookupError", .type "Exception", .type "BaseException", .type "object"] :=
  exf_ok F.excBase_LookupError F.store_LookupError PySem.W.kxs_LookupError h c
theorem isB_ok {K : PySem.W.Frag} {names : List Str} {cv : Value} {tb : Nat → Bool} (h : isB K names cv tb = true) : ∀ i x, names[i]? = some x → PySem.W.kitOne K (.ref (He.ga K x)) cv = some (tb i) := fun i x e => by
  have hm : (x, i) ∈ names.zipIdx := by
    rw [List.mem_zipIdx_iff_getElem?]
    exact e
  exact of_decide_eq_true (List.all_eq_true.mp h (x, i) hm)
theorem noB_ok {K : PySem.W.Frag} {flds names : List Str} (h : noB K flds names = true) : ∀ f ∈ flds, ∀ x ∈ names, PySem.W.findIn K (.ref (He.ga K x)) f = some none := fun f hf x hx => of_decide_eq_true (List.all_eq_true.mp (List.all_eq_true.mp h f hf) x hx)
theorem xks_of {K : PySem.W.Frag} {names : List Str} (nd : decide ((names.map (He.ga K)).Nodup) = true) (c : comB K = true) (h : ∀ x ∈ names, ∃ fI B newId initId bmB, ExF K (He.ga K x) fI B newId initId bmB) : XKs K names := by
  unfold comB at c
  simp only [Bool.and_eq_true, decide_eq_true_eq] at c
  obtain ⟨c1, c2, c3⟩ := c
  exact ⟨of_decide_eq_true nd, fun x hx => let ⟨_, _, _, _, _, T⟩ := h x hx; T.dict, fun x hx => let ⟨_, _, _, _, _, T⟩ := h x hx; T.below, fun x hx => let ⟨_, _, _, _, _, T⟩ := h x hx; T.get_, fun x hx => let ⟨_, _, _, _, _, T⟩ := h x hx; T.noGet,
    fun x hx => let ⟨_, _, _, _, _, T⟩ := h x hx; T.cls_, c2, c3, fun x hx => let ⟨_, _, _, _, _, T⟩ := h x hx; T.obj⟩
theorem saysX {fa : List He.Fa} {fn : List He.DefD} {xb : PySem.W.Frag → Bool} {xs : List IniD} {K : PySem.W.Frag} (c : obsX fa fn xb xs K = valX fn xs) : He.SaysD fa fn K ∧ xb K = true ∧ ∀ d ∈ xs, fnI K d.x = d.val := by
  refine ⟨congrArg (fun z : XAl => z.1) c, congrArg (fun z : XAl => z.2.1) c, fun d hd => ?_⟩
  have e : (xs.map fun d => fnI K d.x) = xs.map IniD.val := congrArg (fun z : XAl => z.2.2) c
  obtain ⟨i, hi⟩ := List.mem_iff_getElem?.mp hd
  have e2 : (xs.map fun d => fnI K d.x)[i]? = (xs.map IniD.val)[i]? := by rw [e]
  rw [List.getElem?_map, List.getElem?_map, hi] at e2
  exact Option.some.inj e2
end VL

namespace L91
open PySem PySem.Spec PyProof.Rows L2 VL NdefX
theorem pvv {X : Cx} (i : Nat) {x : Str} {pos : Pos} (hN : X.N[i]? = some x := by rfl) (hv : Vis X.env.scope x := by first | exact Or.inl rfl | exact Or.inr (Or.inl rfl) | exact Or.inr (Or.inr rfl)) (hd : (x == ("__debug__" : Str)) = false := by decide) (hcd : (x == ("__classdict__" : Str)) = false := by decide) : PE X (.Name x pos) (tVar i) := pe_var hN hv hd hcd
theorem u1 {k : Nat} {A : Around} (r : Room k A) : A.units + 1 < cLine := by have := r.un; omega
theorem u65 {k : Nat} {A : Around} (r : Room k A) : A.units + 65 < cLine := by have := r.un; omega
def x_BadName : XDen := iniDen ((fun ρ => smallAt 1 ρ && (fun _ => true) ρ)) (iSto "name" (dVar 1) iNil)
def x_TwiceNamed : XDen := iniDen ((fun ρ => smallAt 1 ρ && (fun _ => true) ρ)) (iSto "name" (dVar 1) iNil)
def x_NoImage : XDen := iniDen ((fun ρ => smallAt 1 ρ && (fun _ => true) ρ)) (iSto "name" (dVar 1) iNil)
def x_BadImage : XDen := iniDen ((fun ρ => smallAt 1 ρ && (fun _ => true) ρ)) (iSto "name" (dVar 1) iNil)
def x_BadPair : XDen := iniDen ((fun ρ => smallAt 1 ρ && (fun ρ => smallAt 2 ρ && (fun _ => true) ρ) ρ)) (iSto "first" (dVar 1) (iSto "second" (dVar 2) iNil))
def x_BadProduct : XDen := iniDen ((fun ρ => smallAt 1 ρ && (fun ρ => smallAt 2 ρ && (fun _ => true) ρ) ρ)) (iSto "first" (dVar 1) (iSto "second" (dVar 2) iNil))
def x_NotBehind : XDen := iniDen ((fun ρ => smallAt 2 ρ && (fun ρ => smallAt 1 ρ && (fun _ => true) ρ) ρ)) (iSto "first" (dVar 1) (iSto "second" (dVar 2) iNil))
def x_NotKept : XDen := iniDen ((fun ρ => smallAt 1 ρ && (fun ρ => smallAt 2 ρ && (fun _ => true) ρ) ρ)) (iSto "first" (dVar 1) (iSto "second" (dVar 2) iNil))
def x_NotGrouped : XDen := iniDen ((fun ρ => smallAt 1 ρ && (fun ρ => smallAt 2 ρ && (fun ρ => smallAt 3 ρ && (fun _ => true) ρ) ρ) ρ)) (iSto "first" (dVar 1) (iSto "second" (dVar 2) (iSto "third" (dVar 3) iNil)))
def x_BadEquation : XDen := iniDen ((fun ρ => smallAt 1 ρ && (fun _ => true) ρ)) (iSto "number" (dVar 1) iNil)
def x_BrokenEquation : XDen := iniDen ((fun ρ => smallAt 1 ρ && (fun _ => true) ρ)) (iSto "number" (dVar 1) iNil)
def x_NoChange : XDen := iniDen ((fun ρ => smallAt 1 ρ && (fun _ => true) ρ)) (iSto "number" (dVar 1) iNil)
def x_Ring : XDen := iniDen ((fun ρ => smallAt 1 ρ && (fun _ => true) ρ)) (iSto "kind" (dVar 1) iNil)
def x_BadCount : XDen := iniDen ((fun ρ => smallAt 1 ρ && (fun _ => true) ρ)) (iSto "kind" (dVar 1) iNil)
def x_BadRows : XDen := iniDen ((fun ρ => smallAt 1 ρ && (fun _ => true) ρ)) (iSto "kind" (dVar 1) iNil)
def x_TooMany : XDen := iniDen ((fun ρ => smallAt 1 ρ && (fun _ => true) ρ)) (iSto "count" (dVar 1) iNil)
def x_NotNatural : XDen := iniDen ((fun ρ => smallAt 1 ρ && (fun ρ => smallAt 2 ρ && (fun _ => true) ρ) ρ)) (iSto "column" (dVar 1) (iSto "row" (dVar 2) iNil))
def x_NotClosed : XDen := iniDen ((fun ρ => smallAt 1 ρ && (fun ρ => smallAt 2 ρ && (fun _ => true) ρ) ρ)) (iSto "column" (dVar 1) (iSto "row" (dVar 2) iNil))
def x_BadCells : XDen := iniDen ((fun ρ => smallAt 1 ρ && (fun _ => true) ρ)) (iSto "column" (dVar 1) iNil)
def x_Clash : XDen := iniDen ((fun ρ => smallAt 2 ρ && (fun ρ => smallAt 3 ρ && (fun ρ => smallAt 1 ρ && (fun _ => true) ρ) ρ) ρ)) (iSto "kind" (dVar 1) (iSto "first" (dVar 2) (iSto "second" (dVar 3) (iSto "trail" (dList (dCons (dVar 4) dNil)) iNil))))
def x_BadPath : XDen := iniDen (fun _ => true) iNil
def x_MixedSchemas : XDen := iniDen (fun _ => true) iNil
def x_MixedInstances : XDen := iniDen (fun _ => true) iNil
def x_NotFitting : XDen := iniDen (fun _ => true) iNil
def x_BadHolder : XDen := iniDen (fun _ => true) iNil
def x_BadFamily : XDen := iniDen (fun _ => true) iNil
def x_UnlikeMarks : XDen := iniDen (fun _ => true) iNil
def x_NothingDone : XDen := iniDen (fun _ => true) iNil
def x_Stale : XDen := iniDen (fun _ => true) iNil
def x_BadItem : XDen := iniDen (fun _ => true) iNil
def x_UnknownKind : XDen := iniDen ((fun ρ => smallAt 1 ρ && (fun _ => true) ρ)) (iSto "name" (dVar 1) iNil)
def x_UnknownColumn : XDen := iniDen ((fun ρ => smallAt 1 ρ && (fun _ => true) ρ)) (iSto "name" (dVar 1) iNil)
def x_UnknownName : XDen := iniDen ((fun ρ => smallAt 1 ρ && (fun _ => true) ρ)) (iSto "name" (dVar 1) iNil)
def x_NoView : XDen := iniDen ((fun ρ => smallAt 1 ρ && (fun _ => true) ρ)) (iSto "name" (dVar 1) iNil)
def x_NoRow : XDen := iniDen ((fun ρ => smallAt 1 ρ && (fun ρ => smallAt 2 ρ && (fun _ => true) ρ) ρ)) (iSto "kind" (dVar 1) (iSto "row" (dVar 2) iNil))
abbrev N__law_source : List Str := (["_law_script", "_law_mixed", "_law_cell", "_law_cells", "_law_k"] : List Str)
abbrev P__law_source : List Str := (["_law_script"] : List Str)
theorem sc__law_source : FnScope N__law_source P__law_source (defScope st__law_source) := ⟨rfl, rfl, rfl, by decide +kernel, rfl, by decide +kernel, by decide +kernel⟩
abbrev N__law_pick : List Str := (["_law_source_here", "_law_many", "_law_cells", "_law_left", "_law_turn", "_law_mixed"] : List Str)
abbrev P__law_pick : List Str := (["_law_source_here", "_law_many"] : List Str)
theorem sc__law_pick : FnScope N__law_pick P__law_pick (defScope st__law_pick) := ⟨rfl, rfl, rfl, by decide +kernel, rfl, by decide +kernel, by decide +kernel⟩
abbrev N__law_named : List Str := (["_law_name", "_law_rows", "_law_e"] : List Str)
abbrev P__law_named : List Str := (["_law_name"] : List Str)
theorem sc__law_named : FnScope N__law_named P__law_named (defScope st__law_named) := ⟨rfl, rfl, rfl, by decide +kernel, rfl, by decide +kernel, by decide +kernel⟩
abbrev N__law_missing : List Str := (["_law_name", "_law_kind", "_law_row", "_law_rows", "_law_last", "_law_e"] : List Str)
abbrev P__law_missing : List Str := (["_law_name", "_law_kind", "_law_row"] : List Str)
theorem sc__law_missing : FnScope N__law_missing P__law_missing (defScope st__law_missing) := ⟨rfl, rfl, rfl, by decide +kernel, rfl, by decide +kernel, by decide +kernel⟩
abbrev N__law_paired : List Str := (["_law_one", "_law_other", "_law_third", "_law_rows", "_law_last", "_law_e"] : List Str)
abbrev P__law_paired : List Str := (["_law_one", "_law_other", "_law_third"] : List Str)
theorem sc__law_paired : FnScope N__law_paired P__law_paired (defScope st__law_paired) := ⟨rfl, rfl, rfl, by decide +kernel, rfl, by decide +kernel, by decide +kernel⟩
abbrev N__law_counted : List Str := (["_law_number", "_law_kind", "_law_rows", "_law_kinds", "_law_many", "_law_e"] : List Str)
abbrev P__law_counted : List Str := (["_law_number", "_law_kind"] : List Str)
theorem sc__law_counted : FnScope N__law_counted P__law_counted (defScope st__law_counted) := ⟨rfl, rfl, rfl, by decide +kernel, rfl, by decide +kernel, by decide +kernel⟩
abbrev N__law_at_rows : List Str := (["_law_column", "_law_row", "_law_kind", "_law_trail", "_law_rows", "_law_cells", "_law_given", "_law_clash", "_law_e"] : List Str)
abbrev P__law_at_rows : List Str := (["_law_column", "_law_row", "_law_kind", "_law_trail"] : List Str)
theorem sc__law_at_rows : FnScope N__law_at_rows P__law_at_rows (defScope st__law_at_rows) := ⟨rfl, rfl, rfl, by decide +kernel, rfl, by decide +kernel, by decide +kernel⟩
abbrev N__law_plain : List Str := (["_law_rows"] : List Str)
abbrev P__law_plain : List Str := ([] : List Str)
theorem sc__law_plain : FnScope N__law_plain P__law_plain (defScope st__law_plain) := ⟨rfl, rfl, rfl, by decide +kernel, rfl, by decide +kernel, by decide +kernel⟩
abbrev N__law_classes : List Str := (["_law_e", "_law_rows", "_law_k"] : List Str)
abbrev P__law_classes : List Str := (["_law_e"] : List Str)
theorem sc__law_classes : FnScope N__law_classes P__law_classes (defScope st__law_classes) := ⟨rfl, rfl, rfl, by decide +kernel, rfl, by decide +kernel, by decide +kernel⟩
abbrev N__law_word : List Str := (["_law_source_here"] : List Str)
abbrev P__law_word : List Str := (["_law_source_here"] : List Str)
theorem sc__law_word : FnScope N__law_word P__law_word (defScope st__law_word) := ⟨rfl, rfl, rfl, by decide +kernel, rfl, by decide +kernel, by decide +kernel⟩
abbrev N_law : List Str := (["_law_script", "_law_source_here", "_law_words", "_law_k", "_law_number", "_law_trail", "_law_rows", "_law_lost", "_law_e"] : List Str)
abbrev P_law : List Str := (["_law_script"] : List Str)
theorem sc_law : FnScope N_law P_law (defScope st_law) := ⟨rfl, rfl, rfl, by decide +kernel, rfl, by decide +kernel, by decide +kernel⟩
noncomputable def dn__law_source (K : PySem.W.Frag) : SDen := (dSeq (dSet 1 (dC (.int 11))) (dSeq (dFor (dScr K (dVar 0)) (gN 2) (dSet 1 (dMod (dInt (dCons (dAdd (dAdd (dMul (dVar 1) (dC (.int 69069))) (dMul (dVar 2) (dC (.int 31)))) (dC (.int 5))) dNil)) (dC (.int 2147483629))))) (dSeq (dSet 3 (dCompC [2] (dScr K (dVar 0)) (gN 2) dTrue (dAbs (dCons (dVar 2) dNil)))) (dSeq (dSet 3 (dCompC [4] (dRange1 (dCons (dLen (dCons (dVar 3) dNil)) dNil)) (gN 4) dTrue (dOp oIx (dVar 3) (dSub (dSub (dLen (dCons (dVar 3) dNil)) (dC (.int 1))) (dVar 4))))) (dRet (dDic (dpCons (dC (.str "cells")) (dVar 3) (dpCons (dC (.str "left")) (dC (.int 1)) (dpCons (dC (.str "mixed")) (dVar 1) (dpCons (dC (.str "turn")) (dC (.int 0)) dpNil))))))))))
noncomputable def fn__law_source (K : PySem.W.Frag) : FDen := fnKeep 5 (dn__law_source K)
noncomputable def dn__law_pick (K : PySem.W.Frag) : SDen := (dSeq (dIfS (dB (dOp (oLt) (dVar 1) (dC (.int 2)))) (dRet (dC (.int 0))) dNext) (dSeq (dSet 2 (dOp oIx (dVar 0) (dC (.str "cells")))) (dSeq (dWhile (dAnd (dB (dOp (oLt) (dOp oIx (dVar 0) (dC (.str "left"))) (dC (.int 2)))) (dB (dOp (oGt) (dLen (dCons (dVar 2) dNil)) (dC (.int 0))))) (dAsg (dPop (dVar 2)) (gSubD (dVar 0) (dC (.str "left"))))) (dSeq (dSet 3 (dOp oIx (dVar 0) (dC (.str "left")))) (dSeq (dIfS (dB (dOp (oGt) (dVar 3) (dC (.int 1)))) (dSeq (dAsg (dFdiv (dVar 3) (dVar 1)) (gSubD (dVar 0) (dC (.str "left")))) (dRet (dMod (dInt (dCons (dVar 3) dNil)) (dVar 1)))) dNext) (dSeq (dAsg (dAdd (dOp oIx (dVar 0) (dC (.str "turn"))) (dC (.int 1))) (gSubD (dVar 0) (dC (.str "turn")))) (dSeq (dSet 4 (dOp oIx (dVar 0) (dC (.str "turn")))) (dSeq (dSet 5 (dMod (dInt (dCons (dAdd (dOp oIx (dVar 0) (dC (.str "mixed"))) (dMul (dVar 4) (dC (.int 104729)))) dNil)) (dC (.int 998244353)))) (dSeq (dSet 5 (dMod (dInt (dCons (dAdd (dMul (dVar 5) (dVar 5)) (dMul (dVar 4) (dC (.int 17)))) dNil)) (dC (.int 2147483647)))) (dSeq (dIfS (dB (dOp (oGt) (dVar 1) (dPow (dC (.int 10)) (dC (.int 7))))) (dSet 5 (dPow (dInt (dCons (dAdd (dMul (dVar 5) (dC (.int 48271))) (dVar 4)) dNil)) (dC (.int 9)))) dNext) (dRet (dMod (dInt (dCons (dFdiv (dVar 5) (dC (.int 16))) dNil)) (dVar 1)))))))))))))
noncomputable def fn__law_pick (K : PySem.W.Frag) : FDen := fnDen 6 (dn__law_pick K)
noncomputable def dn__law_named (K : PySem.W.Frag) : SDen := (dSeq (dSet 1 (dLst (dCons (dExc (He.ga K "BadName") 1 x_BadName (dCons (dVar 0) dNil)) (dCons (dExc (He.ga K "TwiceNamed") 1 x_TwiceNamed (dCons (dVar 0) dNil)) (dCons (dExc (He.ga K "NoImage") 1 x_NoImage (dCons (dVar 0) dNil)) (dCons (dExc (He.ga K "BadImage") 1 x_BadImage (dCons (dVar 0) dNil)) dNil)))))) (dSeq (dIfS (dNot (dB (dAll (dCons (dComp [2] (dItems (dVar 1)) (gN 2) dTrue (dOp (oEq false) (dXatt K clsNames "name" (dVar 2)) (dVar 0))) dNil)))) (dRet (dLst dNil)) dNext) (dRet (dVar 1))))
noncomputable def fn__law_named (K : PySem.W.Frag) : FDen := fnDen 3 (dn__law_named K)
noncomputable def dn__law_missing (K : PySem.W.Frag) : SDen := (dSeq (dSet 3 (dLst (dCons (dExc (He.ga K "UnknownKind") 1 x_UnknownKind (dCons (dVar 0) dNil)) (dCons (dExc (He.ga K "UnknownColumn") 1 x_UnknownColumn (dCons (dVar 0) dNil)) (dCons (dExc (He.ga K "UnknownName") 1 x_UnknownName (dCons (dVar 0) dNil)) (dCons (dExc (He.ga K "NoView") 1 x_NoView (dCons (dVar 0) dNil)) dNil)))))) (dSeq (dSet 4 (dExc (He.ga K "NoRow") 2 x_NoRow (dCons (dVar 1) (dCons (dVar 2) dNil)))) (dSeq (dIfS (dOr (dNot (dB (dAll (dCons (dComp [5] (dItems (dVar 3)) (gN 5) dTrue (dOp (oEq false) (dXatt K clsNames "name" (dVar 5)) (dVar 0))) dNil)))) (dB (dOp (oEq true) (dTup (dCons (dXatt K clsNames "kind" (dVar 4)) (dCons (dXatt K clsNames "row" (dVar 4)) dNil))) (dTup (dCons (dVar 1) (dCons (dVar 2) dNil)))))) (dRet (dLst dNil)) dNext) (dRet (dAdd (dVar 3) (dLst (dCons (dVar 4) dNil)))))))
noncomputable def fn__law_missing (K : PySem.W.Frag) : FDen := fnDen 6 (dn__law_missing K)
noncomputable def dn__law_paired (K : PySem.W.Frag) : SDen := (dSeq (dSet 3 (dLst (dCons (dExc (He.ga K "BadPair") 2 x_BadPair (dCons (dVar 0) (dCons (dVar 1) dNil))) (dCons (dExc (He.ga K "BadProduct") 2 x_BadProduct (dCons (dVar 0) (dCons (dVar 1) dNil))) (dCons (dExc (He.ga K "NotBehind") 2 x_NotBehind (dCons (dVar 0) (dCons (dVar 1) dNil))) (dCons (dExc (He.ga K "NotKept") 2 x_NotKept (dCons (dVar 0) (dCons (dVar 1) dNil))) dNil)))))) (dSeq (dSet 4 (dExc (He.ga K "NotGrouped") 3 x_NotGrouped (dCons (dVar 0) (dCons (dVar 1) (dCons (dVar 2) dNil))))) (dSeq (dIfS (dNot (dB (dAll (dCons (dComp [5] (dItems (dVar 3)) (gN 5) dTrue (dOp (oEq false) (dTup (dCons (dXatt K clsNames "first" (dVar 5)) (dCons (dXatt K clsNames "second" (dVar 5)) dNil))) (dTup (dCons (dVar 0) (dCons (dVar 1) dNil))))) dNil)))) (dRet (dLst dNil)) dNext) (dSeq (dIfS (dB (dOp (oEq true) (dTup (dCons (dXatt K clsNames "first" (dVar 4)) (dCons (dXatt K clsNames "second" (dVar 4)) (dCons (dXatt K clsNames "third" (dVar 4)) dNil)))) (dTup (dCons (dVar 0) (dCons (dVar 1) (dCons (dVar 2) dNil)))))) (dRet (dLst dNil)) dNext) (dRet (dAdd (dVar 3) (dLst (dCons (dVar 4) dNil))))))))
noncomputable def fn__law_paired (K : PySem.W.Frag) : FDen := fnDen 6 (dn__law_paired K)
noncomputable def dn__law_counted (K : PySem.W.Frag) : SDen := (dSeq (dSet 2 (dLst (dCons (dExc (He.ga K "BadEquation") 1 x_BadEquation (dCons (dVar 0) dNil)) (dCons (dExc (He.ga K "BrokenEquation") 1 x_BrokenEquation (dCons (dVar 0) dNil)) (dCons (dExc (He.ga K "NoChange") 1 x_NoChange (dCons (dVar 0) dNil)) dNil))))) (dSeq (dSet 3 (dLst (dCons (dExc (He.ga K "Ring") 1 x_Ring (dCons (dVar 1) dNil)) (dCons (dExc (He.ga K "BadCount") 1 x_BadCount (dCons (dVar 1) dNil)) (dCons (dExc (He.ga K "BadRows") 1 x_BadRows (dCons (dVar 1) dNil)) dNil))))) (dSeq (dSet 4 (dExc (He.ga K "TooMany") 1 x_TooMany (dCons (dVar 0) dNil))) (dSeq (dIfS (dOr (dNot (dB (dAll (dCons (dComp [5] (dItems (dVar 2)) (gN 5) dTrue (dOp (oEq false) (dXatt K clsNames "number" (dVar 5)) (dVar 0))) dNil)))) (dNot (dB (dAll (dCons (dComp [5] (dItems (dVar 3)) (gN 5) dTrue (dOp (oEq false) (dXatt K clsNames "kind" (dVar 5)) (dVar 1))) dNil))))) (dRet (dLst dNil)) dNext) (dRet (dIf (dB (dOp (oEq false) (dXatt K clsNames "count" (dVar 4)) (dVar 0))) (dAdd (dAdd (dVar 2) (dVar 3)) (dLst (dCons (dVar 4) dNil))) (dLst dNil)))))))
noncomputable def fn__law_counted (K : PySem.W.Frag) : FDen := fnDen 6 (dn__law_counted K)
noncomputable def dn__law_at_rows (K : PySem.W.Frag) : SDen := (dSeq (dSet 4 (dLst (dCons (dExc (He.ga K "NotNatural") 2 x_NotNatural (dCons (dVar 0) (dCons (dVar 1) dNil))) (dCons (dExc (He.ga K "NotClosed") 2 x_NotClosed (dCons (dVar 0) (dCons (dVar 1) dNil))) dNil)))) (dSeq (dSet 5 (dExc (He.ga K "BadCells") 1 x_BadCells (dCons (dVar 0) dNil))) (dSeq (dSet 6 (dListC (dCons (dVar 3) dNil))) (dSeq (dSet 7 (dExc (He.ga K "Clash") 4 x_Clash (dCons (dVar 2) (dCons (dVar 1) (dCons (dAdd (dVar 1) (dC (.int 1))) (dCons (dVar 6) dNil)))))) (dSeq (dDrop (dAppend (dVar 6) (dCons (dC (.int 0)) dNil))) (dSeq (dIfS (dOr (dNot (dB (dAll (dCons (dComp [8] (dItems (dVar 4)) (gN 8) dTrue (dOp (oEq false) (dTup (dCons (dXatt K clsNames "column" (dVar 8)) (dCons (dXatt K clsNames "row" (dVar 8)) dNil))) (dTup (dCons (dVar 0) (dCons (dVar 1) dNil))))) dNil)))) (dB (dOp (oEq true) (dXatt K clsNames "column" (dVar 5)) (dVar 0)))) (dRet (dLst dNil)) dNext) (dSeq (dIfS (dB (dOp (oEq true) (dTup (dCons (dXatt K clsNames "kind" (dVar 7)) (dCons (dXatt K clsNames "first" (dVar 7)) (dCons (dXatt K clsNames "second" (dVar 7)) (dCons (dXatt K clsNames "trail" (dVar 7)) dNil))))) (dTup (dCons (dVar 2) (dCons (dVar 1) (dCons (dAdd (dVar 1) (dC (.int 1))) (dCons (dVar 3) dNil))))))) (dRet (dLst dNil)) dNext) (dRet (dAdd (dVar 4) (dLst (dCons (dVar 5) (dCons (dVar 7) dNil))))))))))))
noncomputable def fn__law_at_rows (K : PySem.W.Frag) : FDen := fnDen 9 (dn__law_at_rows K)
noncomputable def dn__law_plain (K : PySem.W.Frag) : SDen := (dSeq (dSet 0 (dLst (dCons (dExc (He.ga K "BadPath") 0 x_BadPath dNil) (dCons (dExc (He.ga K "MixedSchemas") 0 x_MixedSchemas dNil) (dCons (dExc (He.ga K "MixedInstances") 0 x_MixedInstances dNil) (dCons (dExc (He.ga K "NotFitting") 0 x_NotFitting dNil) (dCons (dExc (He.ga K "BadHolder") 0 x_BadHolder dNil) (dCons (dExc (He.ga K "BadFamily") 0 x_BadFamily dNil) dNil)))))))) (dRet (dAdd (dVar 0) (dLst (dCons (dExc (He.ga K "UnlikeMarks") 0 x_UnlikeMarks dNil) (dCons (dExc (He.ga K "NothingDone") 0 x_NothingDone dNil) (dCons (dExc (He.ga K "Stale") 0 x_Stale dNil) (dCons (dExc (He.ga K "BadItem") 0 x_BadItem dNil) dNil))))))))
noncomputable def fn__law_plain (K : PySem.W.Frag) : FDen := fnDen 1 (dn__law_plain K)
noncomputable def dn__law_classes (K : PySem.W.Frag) : SDen := (dSeq (dSet 1 (dLst (dCons (dCB (oIsX K clsNames tb_BadName) (dCons (dVar 0) (dCons (dTy (.ref (He.ga K "BadName"))) dNil))) (dCons (dCB (oIsX K clsNames tb_TwiceNamed) (dCons (dVar 0) (dCons (dTy (.ref (He.ga K "TwiceNamed"))) dNil))) (dCons (dCB (oIsX K clsNames tb_NoImage) (dCons (dVar 0) (dCons (dTy (.ref (He.ga K "NoImage"))) dNil))) (dCons (dCB (oIsX K clsNames tb_BadImage) (dCons (dVar 0) (dCons (dTy (.ref (He.ga K "BadImage"))) dNil))) (dCons (dCB (oIsX K clsNames tb_BadPair) (dCons (dVar 0) (dCons (dTy (.ref (He.ga K "BadPair"))) dNil))) (dCons (dCB (oIsX K clsNames tb_BadProduct) (dCons (dVar 0) (dCons (dTy (.ref (He.ga K "BadProduct"))) dNil))) (dCons (dCB (oIsX K clsNames tb_NotBehind) (dCons (dVar 0) (dCons (dTy (.ref (He.ga K "NotBehind"))) dNil))) (dCons (dCB (oIsX K clsNames tb_NotKept) (dCons (dVar 0) (dCons (dTy (.ref (He.ga K "NotKept"))) dNil))) (dCons (dCB (oIsX K clsNames tb_NotGrouped) (dCons (dVar 0) (dCons (dTy (.ref (He.ga K "NotGrouped"))) dNil))) (dCons (dCB (oIsX K clsNames tb_BadEquation) (dCons (dVar 0) (dCons (dTy (.ref (He.ga K "BadEquation"))) dNil))) (dCons (dCB (oIsX K clsNames tb_BrokenEquation) (dCons (dVar 0) (dCons (dTy (.ref (He.ga K "BrokenEquation"))) dNil))) (dCons (dCB (oIsX K clsNames tb_NoChange) (dCons (dVar 0) (dCons (dTy (.ref (He.ga K "NoChange"))) dNil))) (dCons (dCB (oIsX K clsNames tb_Ring) (dCons (dVar 0) (dCons (dTy (.ref (He.ga K "Ring"))) dNil))) (dCons (dCB (oIsX K clsNames tb_BadCount) (dCons (dVar 0) (dCons (dTy (.ref (He.ga K "BadCount"))) dNil))) (dCons (dCB (oIsX K clsNames tb_BadRows) (dCons (dVar 0) (dCons (dTy (.ref (He.ga K "BadRows"))) dNil))) (dCons (dCB (oIsX K clsNames tb_TooMany) (dCons (dVar 0) (dCons (dTy (.ref (He.ga K "TooMany"))) dNil))) (dCons (dCB (oIsX K clsNames tb_NotNatural) (dCons (dVar 0) (dCons (dTy (.ref (He.ga K "NotNatural"))) dNil))) (dCons (dCB (oIsX K clsNames tb_NotClosed) (dCons (dVar 0) (dCons (dTy (.ref (He.ga K "NotClosed"))) dNil))) (dCons (dCB (oIsX K clsNames tb_BadCells) (dCons (dVar 0) (dCons (dTy (.ref (He.ga K "BadCells"))) dNil))) (dCons (dCB (oIsX K clsNames tb_Clash) (dCons (dVar 0) (dCons (dTy (.ref (He.ga K "Clash"))) dNil))) (dCons (dCB (oIsX K clsNames tb_BadPath) (dCons (dVar 0) (dCons (dTy (.ref (He.ga K "BadPath"))) dNil))) (dCons (dCB (oIsX K clsNames tb_MixedSchemas) (dCons (dVar 0) (dCons (dTy (.ref (He.ga K "MixedSchemas"))) dNil))) (dCons (dCB (oIsX K clsNames tb_MixedInstances) (dCons (dVar 0) (dCons (dTy (.ref (He.ga K "MixedInstances"))) dNil))) (dCons (dCB (oIsX K clsNames tb_NotFitting) (dCons (dVar 0) (dCons (dTy (.ref (He.ga K "NotFitting"))) dNil))) (dCons (dCB (oIsX K clsNames tb_BadHolder) (dCons (dVar 0) (dCons (dTy (.ref (He.ga K "BadHolder"))) dNil))) (dCons (dCB (oIsX K clsNames tb_BadFamily) (dCons (dVar 0) (dCons (dTy (.ref (He.ga K "BadFamily"))) dNil))) (dCons (dCB (oIsX K clsNames tb_UnlikeMarks) (dCons (dVar 0) (dCons (dTy (.ref (He.ga K "UnlikeMarks"))) dNil))) (dCons (dCB (oIsX K clsNames tb_NothingDone) (dCons (dVar 0) (dCons (dTy (.ref (He.ga K "NothingDone"))) dNil))) (dCons (dCB (oIsX K clsNames tb_Stale) (dCons (dVar 0) (dCons (dTy (.ref (He.ga K "Stale"))) dNil))) (dCons (dCB (oIsX K clsNames tb_BadItem) (dCons (dVar 0) (dCons (dTy (.ref (He.ga K "BadItem"))) dNil))) (dCons (dCB (oIsX K clsNames tb_UnknownKind) (dCons (dVar 0) (dCons (dTy (.ref (He.ga K "UnknownKind"))) dNil))) (dCons (dCB (oIsX K clsNames tb_UnknownColumn) (dCons (dVar 0) (dCons (dTy (.ref (He.ga K "UnknownColumn"))) dNil))) (dCons (dCB (oIsX K clsNames tb_UnknownName) (dCons (dVar 0) (dCons (dTy (.ref (He.ga K "UnknownName"))) dNil))) (dCons (dCB (oIsX K clsNames tb_NoView) (dCons (dVar 0) (dCons (dTy (.ref (He.ga K "NoView"))) dNil))) (dCons (dCB (oIsX K clsNames tb_NoRow) (dCons (dVar 0) (dCons (dTy (.ref (He.ga K "NoRow"))) dNil))) dNil))))))))))))))))))))))))))))))))))))) (dRet (dComp [2] (dRange1 (dCons (dLen (dCons (dVar 1) dNil)) dNil)) (gN 2) (dB (dOp oIx (dVar 1) (dVar 2))) (dVar 2))))
noncomputable def fn__law_classes (K : PySem.W.Frag) : FDen := fnDen 3 (dn__law_classes K)
noncomputable def dn__law_word (K : PySem.W.Frag) : SDen := (dRet (dAdd (dOp oIx (dC (.str "abcdefghijklmnopqrstuvwxyz")) (dCall 2 (fn__law_pick K) [] (dCons (dVar 0) (dCons (dC (.int 26)) dNil)))) (dStr (dCons (dCall 2 (fn__law_pick K) [] (dCons (dVar 0) (dCons (dPow (dC (.int 10)) (dC (.int 6))) dNil))) dNil))))
noncomputable def fn__law_word (K : PySem.W.Frag) : FDen := fnDen 1 (dn__law_word K)
noncomputable def dn_law (K : PySem.W.Frag) : SDen := (dSeq (dSet 1 (dCall 1 (fn__law_source K) [] (dCons (dVar 0) dNil))) (dSeq (dSet 2 (dComp [3] (dRange1 (dCons (dC (.int 4)) dNil)) (gN 3) dTrue (dCall 1 (fn__law_word K) [] (dCons (dVar 1) dNil)))) (dSeq (dSet 4 (dCall 2 (fn__law_pick K) [] (dCons (dVar 1) (dCons (dPow (dC (.int 10)) (dC (.int 9))) dNil)))) (dSeq (dSet 5 (dLst (dCons (dTup (dCons (dC (.str "row")) (dCons (dOp oIx (dVar 2) (dC (.int 0))) (dCons (dVar 4) dNil)))) dNil))) (dSeq (dSet 6 (dAdd (dCall 1 (fn__law_named K) [] (dCons (dOp oIx (dVar 2) (dC (.int 0))) dNil)) (dCall 3 (fn__law_paired K) [] (dCons (dOp oIx (dVar 2) (dC (.int 0))) (dCons (dOp oIx (dVar 2) (dC (.int 1))) (dCons (dOp oIx (dVar 2) (dC (.int 2))) dNil)))))) (dSeq (dSet 6 (dAdd (dVar 6) (dCall 2 (fn__law_counted K) [] (dCons (dVar 4) (dCons (dOp oIx (dVar 2) (dC (.int 3))) dNil))))) (dSeq (dSet 6 (dAdd (dAdd (dVar 6) (dCall 4 (fn__law_at_rows K) [] (dCons (dOp oIx (dVar 2) (dC (.int 1))) (dCons (dVar 4) (dCons (dOp oIx (dVar 2) (dC (.int 2))) (dCons (dVar 5) dNil)))))) (dCall 0 (fn__law_plain K) [] dNil))) (dSeq (dSet 7 (dCall 3 (fn__law_missing K) [] (dCons (dOp oIx (dVar 2) (dC (.int 2))) (dCons (dOp oIx (dVar 2) (dC (.int 3))) (dCons (dVar 4) dNil))))) (dSeq (dIfS (dOr (dB (dOp (oEq true) (dLen (dCons (dVar 6) dNil)) (dC (.int 30)))) (dB (dOp (oEq true) (dLen (dCons (dVar 7) dNil)) (dC (.int 5))))) (dRet (dC (.bl false))) dNext) (dSeq (dIfS (dB (dOp (oEq true) (dComp [8] (dItems (dAdd (dVar 6) (dVar 7))) (gN 8) dTrue (dCall 1 (fn__law_classes K) [] (dCons (dVar 8) dNil))) (dComp [3] (dRange1 (dCons (dC (.int 35)) dNil)) (gN 3) dTrue (dLst (dCons (dVar 3) dNil))))) (dRet (dC (.bl false))) dNext) (dSeq (dFor (dItems (dVar 6)) (gN 8) (dIfS (dOr (dNot (dB (dCB (oIsX K clsNames tb_ValueError) (dCons (dVar 8) (dCons (dTy (.ty "ValueError")) dNil))))) (dOr (dNot (dB (dCB (oIsX K clsNames tb_SchemawaysError) (dCons (dVar 8) (dCons (dTy (.ref (He.ga K "SchemawaysError"))) dNil))))) (dB (dCB (oIsX K clsNames tb_NameMissing) (dCons (dVar 8) (dCons (dTy (.ref (He.ga K "NameMissing"))) dNil)))))) (dRet (dC (.bl false))) dNext)) (dSeq (dFor (dItems (dVar 7)) (gN 8) (dIfS (dOr (dNot (dB (dCB (oIsX K clsNames tb_LookupError) (dCons (dVar 8) (dCons (dTy (.ty "LookupError")) dNil))))) (dOr (dNot (dB (dCB (oIsX K clsNames tb_NameMissing) (dCons (dVar 8) (dCons (dTy (.ref (He.ga K "NameMissing"))) dNil))))) (dB (dCB (oIsX K clsNames tb_SchemawaysError) (dCons (dVar 8) (dCons (dTy (.ref (He.ga K "SchemawaysError"))) dNil)))))) (dRet (dC (.bl false))) dNext)) (dRet (dC (.bl true)))))))))))))))
noncomputable def fn_law (K : PySem.W.Frag) : FDen := fnDen 9 (dn_law K)
structure Gf (P : Program) (w : World) (K : PySem.W.Frag) (mg : Str → Option Value) (base : Heap) : Prop where
  top : (P.main.scope.names.lookup ("super" : Str)).isSome = false
  xk : XKs K clsNames
  no : ∀ f ∈ fldNames, ∀ x ∈ clsNames, PySem.W.findIn K (.ref (He.ga K x)) f = some none
  g : ∀ x ∈ gloNames, mg x = some (.ref (He.ga K x))
  b_LookupError : mg "LookupError" = none
  b_ValueError : mg "ValueError" = none
  b_abs : mg "abs" = none
  b_all : mg "all" = none
  b_int : mg "int" = none
  b_isinstance : mg "isinstance" = none
  b_len : mg "len" = none
  b_list : mg "list" = none
  b_range : mg "range" = none
  b_str : mg "str" = none
  b_super : mg "super" = none
  is_BadName : ∀ i x, clsNames[i]? = some x → PySem.W.kitOne K (.ref (He.ga K x)) (.ref (He.ga K "BadName")) = some (tb_BadName i)
  is_TwiceNamed : ∀ i x, clsNames[i]? = some x → PySem.W.kitOne K (.ref (He.ga K x)) (.ref (He.ga K "TwiceNamed")) = some (tb_TwiceNamed i)
  is_NoImage : ∀ i x, clsNames[i]? = some x → PySem.W.kitOne K (.ref (He.ga K x)) (.ref (He.ga K "NoImage")) = some (tb_NoImage i)
  is_BadImage : ∀ i x, clsNames[i]? = some x → PySem.W.kitOne K (.ref (He.ga K x)) (.ref (He.ga K "BadImage")) = some (tb_BadImage i)
  is_BadPair : ∀ i x, clsNames[i]? = some x → PySem.W.kitOne K (.ref (He.ga K x)) (.ref (He.ga K "BadPair")) = some (tb_BadPair i)
  is_BadProduct : ∀ i x, clsNames[i]? = some x → PySem.W.kitOne K (.ref (He.ga K x)) (.ref (He.ga K "BadProduct")) = some (tb_BadProduct i)
  is_NotBehind : ∀ i x, clsNames[i]? = some x → PySem.W.kitOne K (.ref (He.ga K x)) (.ref (He.ga K "NotBehind")) = some (tb_NotBehind i)
  is_NotKept : ∀ i x, clsNames[i]? = some x → PySem.W.kitOne K (.ref (He.ga K x)) (.ref (He.ga K "NotKept")) = some (tb_NotKept i)
  is_NotGrouped : ∀ i x, clsNames[i]? = some x → PySem.W.kitOne K (.ref (He.ga K x)) (.ref (He.ga K "NotGrouped")) = some (tb_NotGrouped i)
  is_BadEquation : ∀ i x, clsNames[i]? = some x → PySem.W.kitOne K (.ref (He.ga K x)) (.ref (He.ga K "BadEquation")) = some (tb_BadEquation i)
  is_BrokenEquation : ∀ i x, clsNames[i]? = some x → PySem.W.kitOne K (.ref (He.ga K x)) (.ref (He.ga K "BrokenEquation")) = some (tb_BrokenEquation i)
  is_NoChange : ∀ i x, clsNames[i]? = some x → PySem.W.kitOne K (.ref (He.ga K x)) (.ref (He.ga K "NoChange")) = some (tb_NoChange i)
  is_Ring : ∀ i x, clsNames[i]? = some x → PySem.W.kitOne K (.ref (He.ga K x)) (.ref (He.ga K "Ring")) = some (tb_Ring i)
  is_BadCount : ∀ i x, clsNames[i]? = some x → PySem.W.kitOne K (.ref (He.ga K x)) (.ref (He.ga K "BadCount")) = some (tb_BadCount i)
  is_BadRows : ∀ i x, clsNames[i]? = some x → PySem.W.kitOne K (.ref (He.ga K x)) (.ref (He.ga K "BadRows")) = some (tb_BadRows i)
  is_TooMany : ∀ i x, clsNames[i]? = some x → PySem.W.kitOne K (.ref (He.ga K x)) (.ref (He.ga K "TooMany")) = some (tb_TooMany i)
  is_NotNatural : ∀ i x, clsNames[i]? = some x → PySem.W.kitOne K (.ref (He.ga K x)) (.ref (He.ga K "NotNatural")) = some (tb_NotNatural i)
  is_NotClosed : ∀ i x, clsNames[i]? = some x → PySem.W.kitOne K (.ref (He.ga K x)) (.ref (He.ga K "NotClosed")) = some (tb_NotClosed i)
  is_BadCells : ∀ i x, clsNames[i]? = some x → PySem.W.kitOne K (.ref (He.ga K x)) (.ref (He.ga K "BadCells")) = some (tb_BadCells i)
  is_Clash : ∀ i x, clsNames[i]? = some x → PySem.W.kitOne K (.ref (He.ga K x)) (.ref (He.ga K "Clash")) = some (tb_Clash i)
  is_BadPath : ∀ i x, clsNames[i]? = some x → PySem.W.kitOne K (.ref (He.ga K x)) (.ref (He.ga K "BadPath")) = some (tb_BadPath i)
  is_MixedSchemas : ∀ i x, clsNames[i]? = some x → PySem.W.kitOne K (.ref (He.ga K x)) (.ref (He.ga K "MixedSchemas")) = some (tb_MixedSchemas i)
  is_MixedInstances : ∀ i x, clsNames[i]? = some x → PySem.W.kitOne K (.ref (He.ga K x)) (.ref (He.ga K "MixedInstances")) = some (tb_MixedInstances i)
  is_NotFitting : ∀ i x, clsNames[i]? = some x → PySem.W.kitOne K (.ref (He.ga K x)) (.ref (He.ga K "NotFitting")) = some (tb_NotFitting i)
  is_BadHolder : ∀ i x, clsNames[i]? = some x → PySem.W.kitOne K (.ref (He.ga K x)) (.ref (He.ga K "BadHolder")) = some (tb_BadHolder i)
  is_BadFamily : ∀ i x, clsNames[i]? = some x → PySem.W.kitOne K (.ref (He.ga K x)) (.ref (He.ga K "BadFamily")) = some (tb_BadFamily i)
  is_UnlikeMarks : ∀ i x, clsNames[i]? = some x → PySem.W.kitOne K (.ref (He.ga K x)) (.ref (He.ga K "UnlikeMarks")) = some (tb_UnlikeMarks i)
  is_NothingDone : ∀ i x, clsNames[i]? = some x → PySem.W.kitOne K (.ref (He.ga K x)) (.ref (He.ga K "NothingDone")) = some (tb_NothingDone i)
  is_Stale : ∀ i x, clsNames[i]? = some x → PySem.W.kitOne K (.ref (He.ga K x)) (.ref (He.ga K "Stale")) = some (tb_Stale i)
  is_BadItem : ∀ i x, clsNames[i]? = some x → PySem.W.kitOne K (.ref (He.ga K x)) (.ref (He.ga K "BadItem")) = some (tb_BadItem i)
  is_UnknownKind : ∀ i x, clsNames[i]? = some x → PySem.W.kitOne K (.ref (He.ga K x)) (.ref (He.ga K "UnknownKind")) = some (tb_UnknownKind i)
  is_UnknownColumn : ∀ i x, clsNames[i]? = some x → PySem.W.kitOne K (.ref (He.ga K x)) (.ref (He.ga K "UnknownColumn")) = some (tb_UnknownColumn i)
  is_UnknownName : ∀ i x, clsNames[i]? = some x → PySem.W.kitOne K (.ref (He.ga K x)) (.ref (He.ga K "UnknownName")) = some (tb_UnknownName i)
  is_NoView : ∀ i x, clsNames[i]? = some x → PySem.W.kitOne K (.ref (He.ga K x)) (.ref (He.ga K "NoView")) = some (tb_NoView i)
  is_NoRow : ∀ i x, clsNames[i]? = some x → PySem.W.kitOne K (.ref (He.ga K x)) (.ref (He.ga K "NoRow")) = some (tb_NoRow i)
  is_LookupError : ∀ i x, clsNames[i]? = some x → PySem.W.kitOne K (.ref (He.ga K x)) (.type "LookupError") = some (tb_LookupError i)
  is_NameMissing : ∀ i x, clsNames[i]? = some x → PySem.W.kitOne K (.ref (He.ga K x)) (.ref (He.ga K "NameMissing")) = some (tb_NameMissing i)
  is_SchemawaysError : ∀ i x, clsNames[i]? = some x → PySem.W.kitOne K (.ref (He.ga K x)) (.ref (He.ga K "SchemawaysError")) = some (tb_SchemawaysError i)
  is_ValueError : ∀ i x, clsNames[i]? = some x → PySem.W.kitOne K (.ref (He.ga K x)) (.type "ValueError") = some (tb_ValueError i)
  ef_BadName : ExF K (He.ga K "BadName") (He.ma K (He.ga K "BadName") "__init__") "ValueError" "ValueError.__new__" "ValueError.__init__" [.type "ValueError", .type "Exception", .type "BaseException", .type "object"]
  if_BadName : IniF P K (He.ma K (He.ga K "BadName") "__init__") (He.ga K "BadName") "__init__" "BadName.__init__" (defArgs si_BadName) (defBody si_BadName) (defScope si_BadName)
  ef_TwiceNamed : ExF K (He.ga K "TwiceNamed") (He.ma K (He.ga K "TwiceNamed") "__init__") "ValueError" "ValueError.__new__" "ValueError.__init__" [.type "ValueError", .type "Exception", .type "BaseException", .type "object"]
  if_TwiceNamed : IniF P K (He.ma K (He.ga K "TwiceNamed") "__init__") (He.ga K "TwiceNamed") "__init__" "TwiceNamed.__init__" (defArgs si_TwiceNamed) (defBody si_TwiceNamed) (defScope si_TwiceNamed)
  ef_NoImage : ExF K (He.ga K "NoImage") (He.ma K (He.ga K "NoImage") "__init__") "ValueError" "ValueError.__new__" "ValueError.__init__" [.type "ValueError", .type "Exception", .type "BaseException", .type "object"]
  if_NoImage : IniF P K (He.ma K (He.ga K "NoImage") "__init__") (He.ga K "NoImage") "__init__" "NoImage.__init__" (defArgs si_NoImage) (defBody si_NoImage) (defScope si_NoImage)
  ef_BadImage : ExF K (He.ga K "BadImage") (He.ma K (He.ga K "BadImage") "__init__") "ValueError" "ValueError.__new__" "ValueError.__init__" [.type "ValueError", .type "Exception", .type "BaseException", .type "object"]
  if_BadImage : IniF P K (He.ma K (He.ga K "BadImage") "__init__") (He.ga K "BadImage") "__init__" "BadImage.__init__" (defArgs si_BadImage) (defBody si_BadImage) (defScope si_BadImage)
  ef_BadPair : ExF K (He.ga K "BadPair") (He.ma K (He.ga K "BadPair") "__init__") "ValueError" "ValueError.__new__" "ValueError.__init__" [.type "ValueError", .type "Exception", .type "BaseException", .type "object"]
  if_BadPair : IniF P K (He.ma K (He.ga K "BadPair") "__init__") (He.ga K "BadPair") "__init__" "BadPair.__init__" (defArgs si_BadPair) (defBody si_BadPair) (defScope si_BadPair)
  ef_BadProduct : ExF K (He.ga K "BadProduct") (He.ma K (He.ga K "BadProduct") "__init__") "ValueError" "ValueError.__new__" "ValueError.__init__" [.type "ValueError", .type "Exception", .type "BaseException", .type "object"]
  if_BadProduct : IniF P K (He.ma K (He.ga K "BadProduct") "__init__") (He.ga K "BadProduct") "__init__" "BadProduct.__init__" (defArgs si_BadProduct) (defBody si_BadProduct) (defScope si_BadProduct)
  ef_NotBehind : ExF K (He.ga K "NotBehind") (He.ma K (He.ga K "NotBehind") "__init__") "ValueError" "ValueError.__new__" "ValueError.__init__" [.type "ValueError", .type "Exception", .type "BaseException", .type "object"]
  if_NotBehind : IniF P K (He.ma K (He.ga K "NotBehind") "__init__") (He.ga K "NotBehind") "__init__" "NotBehind.__init__" (defArgs si_NotBehind) (defBody si_NotBehind) (defScope si_NotBehind)
  ef_NotKept : ExF K (He.ga K "NotKept") (He.ma K (He.ga K "NotKept") "__init__") "ValueError" "ValueError.__new__" "ValueError.__init__" [.type "ValueError", .type "Exception", .type "BaseException", .type "object"]
  if_NotKept : IniF P K (He.ma K (He.ga K "NotKept") "__init__") (He.ga K "NotKept") "__init__" "NotKept.__init__" (defArgs si_NotKept) (defBody si_NotKept) (defScope si_NotKept)
  ef_NotGrouped : ExF K (He.ga K "NotGrouped") (He.ma K (He.ga K "NotGrouped") "__init__") "ValueError" "ValueError.__new__" "ValueError.__init__" [.type "ValueError", .type "Exception", .type "BaseException", .type "object"]
  if_NotGrouped : IniF P K (He.ma K (He.ga K "NotGrouped") "__init__") (He.ga K "NotGrouped") "__init__" "NotGrouped.__init__" (defArgs si_NotGrouped) (defBody si_NotGrouped) (defScope si_NotGrouped)
  ef_BadEquation : ExF K (He.ga K "BadEquation") (He.ma K (He.ga K "BadEquation") "__init__") "ValueError" "ValueError.__new__" "ValueError.__init__" [.type "ValueError", .type "Exception", .type "BaseException", .type "object"]
  if_BadEquation : IniF P K (He.ma K (He.ga K "BadEquation") "__init__") (He.ga K "BadEquation") "__init__" "BadEquation.__init__" (defArgs si_BadEquation) (defBody si_BadEquation) (defScope si_BadEquation)
  ef_BrokenEquation : ExF K (He.ga K "BrokenEquation") (He.ma K (He.ga K "BrokenEquation") "__init__") "ValueError" "ValueError.__new__" "ValueError.__init__" [.type "ValueError", .type "Exception", .type "BaseException", .type "object"]
  if_BrokenEquation : IniF P K (He.ma K (He.ga K "BrokenEquation") "__init__") (He.ga K "BrokenEquation") "__init__" "BrokenEquation.__init__" (defArgs si_BrokenEquation) (defBody si_BrokenEquation) (defScope si_BrokenEquation)
  ef_NoChange : ExF K (He.ga K "NoChange") (He.ma K (He.ga K "NoChange") "__init__") "ValueError" "ValueError.__new__" "ValueError.__init__" [.type "ValueError", .type "Exception", .type "BaseException", .type "object"]
  if_NoChange : IniF P K (He.ma K (He.ga K "NoChange") "__init__") (He.ga K "NoChange") "__init__" "NoChange.__init__" (defArgs si_NoChange) (defBody si_NoChange) (defScope si_NoChange)
  ef_Ring : ExF K (He.ga K "Ring") (He.ma K (He.ga K "Ring") "__init__") "ValueError" "ValueError.__new__" "ValueError.__init__" [.type "ValueError", .type "Exception", .type "BaseException", .type "object"]
  if_Ring : IniF P K (He.ma K (He.ga K "Ring") "__init__") (He.ga K "Ring") "__init__" "Ring.__init__" (defArgs si_Ring) (defBody si_Ring) (defScope si_Ring)
  ef_BadCount : ExF K (He.ga K "BadCount") (He.ma K (He.ga K "BadCount") "__init__") "ValueError" "ValueError.__new__" "ValueError.__init__" [.type "ValueError", .type "Exception", .type "BaseException", .type "object"]
  if_BadCount : IniF P K (He.ma K (He.ga K "BadCount") "__init__") (He.ga K "BadCount") "__init__" "BadCount.__init__" (defArgs si_BadCount) (defBody si_BadCount) (defScope si_BadCount)
  ef_BadRows : ExF K (He.ga K "BadRows") (He.ma K (He.ga K "BadRows") "__init__") "ValueError" "ValueError.__new__" "ValueError.__init__" [.type "ValueError", .type "Exception", .type "BaseException", .type "object"]
  if_BadRows : IniF P K (He.ma K (He.ga K "BadRows") "__init__") (He.ga K "BadRows") "__init__" "BadRows.__init__" (defArgs si_BadRows) (defBody si_BadRows) (defScope si_BadRows)
  ef_TooMany : ExF K (He.ga K "TooMany") (He.ma K (He.ga K "TooMany") "__init__") "ValueError" "ValueError.__new__" "ValueError.__init__" [.type "ValueError", .type "Exception", .type "BaseException", .type "object"]
  if_TooMany : IniF P K (He.ma K (He.ga K "TooMany") "__init__") (He.ga K "TooMany") "__init__" "TooMany.__init__" (defArgs si_TooMany) (defBody si_TooMany) (defScope si_TooMany)
  ef_NotNatural : ExF K (He.ga K "NotNatural") (He.ma K (He.ga K "NotNatural") "__init__") "ValueError" "ValueError.__new__" "ValueError.__init__" [.type "ValueError", .type "Exception", .type "BaseException", .type "object"]
  if_NotNatural : IniF P K (He.ma K (He.ga K "NotNatural") "__init__") (He.ga K "NotNatural") "__init__" "NotNatural.__init__" (defArgs si_NotNatural) (defBody si_NotNatural) (defScope si_NotNatural)
  ef_NotClosed : ExF K (He.ga K "NotClosed") (He.ma K (He.ga K "NotClosed") "__init__") "ValueError" "ValueError.__new__" "ValueError.__init__" [.type "ValueError", .type "Exception", .type "BaseException", .type "object"]
  if_NotClosed : IniF P K (He.ma K (He.ga K "NotClosed") "__init__") (He.ga K "NotClosed") "__init__" "NotClosed.__init__" (defArgs si_NotClosed) (defBody si_NotClosed) (defScope si_NotClosed)
  ef_BadCells : ExF K (He.ga K "BadCells") (He.ma K (He.ga K "BadCells") "__init__") "ValueError" "ValueError.__new__" "ValueError.__init__" [.type "ValueError", .type "Exception", .type "BaseException", .type "object"]
  if_BadCells : IniF P K (He.ma K (He.ga K "BadCells") "__init__") (He.ga K "BadCells") "__init__" "BadCells.__init__" (defArgs si_BadCells) (defBody si_BadCells) (defScope si_BadCells)
  ef_Clash : ExF K (He.ga K "Clash") (He.ma K (He.ga K "Clash") "__init__") "ValueError" "ValueError.__new__" "ValueError.__init__" [.type "ValueError", .type "Exception", .type "BaseException", .type "object"]
  if_Clash : IniF P K (He.ma K (He.ga K "Clash") "__init__") (He.ga K "Clash") "__init__" "Clash.__init__" (defArgs si_Clash) (defBody si_Clash) (defScope si_Clash)
  ef_BadPath : ExF K (He.ga K "BadPath") (He.ma K (He.ga K "BadPath") "__init__") "ValueError" "ValueError.__new__" "ValueError.__init__" [.type "ValueError", .type "Exception", .type "BaseException", .type "object"]
  if_BadPath : IniF P K (He.ma K (He.ga K "BadPath") "__init__") (He.ga K "BadPath") "__init__" "BadPath.__init__" (defArgs si_BadPath) (defBody si_BadPath) (defScope si_BadPath)
  ef_MixedSchemas : ExF K (He.ga K "MixedSchemas") (He.ma K (He.ga K "MixedSchemas") "__init__") "ValueError" "ValueError.__new__" "ValueError.__init__" [.type "ValueError", .type "Exception", .type "BaseException", .type "object"]
  if_MixedSchemas : IniF P K (He.ma K (He.ga K "MixedSchemas") "__init__") (He.ga K "MixedSchemas") "__init__" "MixedSchemas.__init__" (defArgs si_MixedSchemas) (defBody si_MixedSchemas) (defScope si_MixedSchemas)
  ef_MixedInstances : ExF K (He.ga K "MixedInstances") (He.ma K (He.ga K "MixedInstances") "__init__") "ValueError" "ValueError.__new__" "ValueError.__init__" [.type "ValueError", .type "Exception", .type "BaseException", .type "object"]
  if_MixedInstances : IniF P K (He.ma K (He.ga K "MixedInstances") "__init__") (He.ga K "MixedInstances") "__init__" "MixedInstances.__init__" (defArgs si_MixedInstances) (defBody si_MixedInstances) (defScope si_MixedInstances)
  ef_NotFitting : ExF K (He.ga K "NotFitting") (He.ma K (He.ga K "NotFitting") "__init__") "ValueError" "ValueError.__new__" "ValueError.__init__" [.type "ValueError", .type "Exception", .type "BaseException", .type "object"]
  if_NotFitting : IniF P K (He.ma K (He.ga K "NotFitting") "__init__") (He.ga K "NotFitting") "__init__" "NotFitting.__init__" (defArgs si_NotFitting) (defBody si_NotFitting) (defScope si_NotFitting)
  ef_BadHolder : ExF K (He.ga K "BadHolder") (He.ma K (He.ga K "BadHolder") "__init__") "ValueError" "ValueError.__new__" "ValueError.__init__" [.type "ValueError", .type "Exception", .type "BaseException", .type "object"]
  if_BadHolder : IniF P K (He.ma K (He.ga K "BadHolder") "__init__") (He.ga K "BadHolder") "__init__" "BadHolder.__init__" (defArgs si_BadHolder) (defBody si_BadHolder) (defScope si_BadHolder)
  ef_BadFamily : ExF K (He.ga K "BadFamily") (He.ma K (He.ga K "BadFamily") "__init__") "ValueError" "ValueError.__new__" "ValueError.__init__" [.type "ValueError", .type "Exception", .type "BaseException", .type "object"]
  if_BadFamily : IniF P K (He.ma K (He.ga K "BadFamily") "__init__") (He.ga K "BadFamily") "__init__" "BadFamily.__init__" (defArgs si_BadFamily) (defBody si_BadFamily) (defScope si_BadFamily)
  ef_UnlikeMarks : ExF K (He.ga K "UnlikeMarks") (He.ma K (He.ga K "UnlikeMarks") "__init__") "ValueError" "ValueError.__new__" "ValueError.__init__" [.type "ValueError", .type "Exception", .type "BaseException", .type "object"]
  if_UnlikeMarks : IniF P K (He.ma K (He.ga K "UnlikeMarks") "__init__") (He.ga K "UnlikeMarks") "__init__" "UnlikeMarks.__init__" (defArgs si_UnlikeMarks) (defBody si_UnlikeMarks) (defScope si_UnlikeMarks)
  ef_NothingDone : ExF K (He.ga K "NothingDone") (He.ma K (He.ga K "NothingDone") "__init__") "ValueError" "ValueError.__new__" "ValueError.__init__" [.type "ValueError", .type "Exception", .type "BaseException", .type "object"]
  if_NothingDone : IniF P K (He.ma K (He.ga K "NothingDone") "__init__") (He.ga K "NothingDone") "__init__" "NothingDone.__init__" (defArgs si_NothingDone) (defBody si_NothingDone) (defScope si_NothingDone)
  ef_Stale : ExF K (He.ga K "Stale") (He.ma K (He.ga K "Stale") "__init__") "ValueError" "ValueError.__new__" "ValueError.__init__" [.type "ValueError", .type "Exception", .type "BaseException", .type "object"]
  if_Stale : IniF P K (He.ma K (He.ga K "Stale") "__init__") (He.ga K "Stale") "__init__" "Stale.__init__" (defArgs si_Stale) (defBody si_Stale) (defScope si_Stale)
  ef_BadItem : ExF K (He.ga K "BadItem") (He.ma K (He.ga K "BadItem") "__init__") "ValueError" "ValueError.__new__" "ValueError.__init__" [.type "ValueError", .type "Exception", .type "BaseException", .type "object"]
  if_BadItem : IniF P K (He.ma K (He.ga K "BadItem") "__init__") (He.ga K "BadItem") "__init__" "BadItem.__init__" (defArgs si_BadItem) (defBody si_BadItem) (defScope si_BadItem)
  ef_UnknownKind : ExF K (He.ga K "UnknownKind") (He.ma K (He.ga K "UnknownKind") "__init__") "LookupError" "LookupError.__new__" "LookupError.__init__" [.type "LookupError", .type "Exception", .type "BaseException", .type "object"]
  if_UnknownKind : IniF P K (He.ma K (He.ga K "UnknownKind") "__init__") (He.ga K "UnknownKind") "__init__" "UnknownKind.__init__" (defArgs si_UnknownKind) (defBody si_UnknownKind) (defScope si_UnknownKind)
  ef_UnknownColumn : ExF K (He.ga K "UnknownColumn") (He.ma K (He.ga K "UnknownColumn") "__init__") "LookupError" "LookupError.__new__" "LookupError.__init__" [.type "LookupError", .type "Exception", .type "BaseException", .type "object"]
  if_UnknownColumn : IniF P K (He.ma K (He.ga K "UnknownColumn") "__init__") (He.ga K "UnknownColumn") "__init__" "UnknownColumn.__init__" (defArgs si_UnknownColumn) (defBody si_UnknownColumn) (defScope si_UnknownColumn)
  ef_UnknownName : ExF K (He.ga K "UnknownName") (He.ma K (He.ga K "UnknownName") "__init__") "LookupError" "LookupError.__new__" "LookupError.__init__" [.type "LookupError", .type "Exception", .type "BaseException", .type "object"]
  if_UnknownName : IniF P K (He.ma K (He.ga K "UnknownName") "__init__") (He.ga K "UnknownName") "__init__" "UnknownName.__init__" (defArgs si_UnknownName) (defBody si_UnknownName) (defScope si_UnknownName)
  ef_NoView : ExF K (He.ga K "NoView") (He.ma K (He.ga K "NoView") "__init__") "LookupError" "LookupError.__new__" "LookupError.__init__" [.type "LookupError", .type "Exception", .type "BaseException", .type "object"]
  if_NoView : IniF P K (He.ma K (He.ga K "NoView") "__init__") (He.ga K "NoView") "__init__" "NoView.__init__" (defArgs si_NoView) (defBody si_NoView) (defScope si_NoView)
  ef_NoRow : ExF K (He.ga K "NoRow") (He.ma K (He.ga K "NoRow") "__init__") "LookupError" "LookupError.__new__" "LookupError.__init__" [.type "LookupError", .type "Exception", .type "BaseException", .type "object"]
  if_NoRow : IniF P K (He.ma K (He.ga K "NoRow") "__init__") (He.ga K "NoRow") "__init__" "NoRow.__init__" (defArgs si_NoRow) (defBody si_NoRow) (defScope si_NoRow)
  d__law_source : ∃ fd, FunD K "_law_source" "_law_source" (defArgs st__law_source) (defBody st__law_source) (defScope st__law_source) [] [] (He.ga K "_law_source") fd
  d__law_pick : ∃ fd, FunD K "_law_pick" "_law_pick" (defArgs st__law_pick) (defBody st__law_pick) (defScope st__law_pick) [] [] (He.ga K "_law_pick") fd
  d__law_named : ∃ fd, FunD K "_law_named" "_law_named" (defArgs st__law_named) (defBody st__law_named) (defScope st__law_named) [] [] (He.ga K "_law_named") fd
  d__law_missing : ∃ fd, FunD K "_law_missing" "_law_missing" (defArgs st__law_missing) (defBody st__law_missing) (defScope st__law_missing) [] [] (He.ga K "_law_missing") fd
  d__law_paired : ∃ fd, FunD K "_law_paired" "_law_paired" (defArgs st__law_paired) (defBody st__law_paired) (defScope st__law_paired) [] [] (He.ga K "_law_paired") fd
  d__law_counted : ∃ fd, FunD K "_law_counted" "_law_counted" (defArgs st__law_counted) (defBody st__law_counted) (defScope st__law_counted) [] [] (He.ga K "_law_counted") fd
  d__law_at_rows : ∃ fd, FunD K "_law_at_rows" "_law_at_rows" (defArgs st__law_at_rows) (defBody st__law_at_rows) (defScope st__law_at_rows) [] [] (He.ga K "_law_at_rows") fd
  d__law_plain : ∃ fd, FunD K "_law_plain" "_law_plain" (defArgs st__law_plain) (defBody st__law_plain) (defScope st__law_plain) [] [] (He.ga K "_law_plain") fd
  d__law_classes : ∃ fd, FunD K "_law_classes" "_law_classes" (defArgs st__law_classes) (defBody st__law_classes) (defScope st__law_classes) [] [] (He.ga K "_law_classes") fd
  d__law_word : ∃ fd, FunD K "_law_word" "_law_word" (defArgs st__law_word) (defBody st__law_word) (defScope st__law_word) [] [] (He.ga K "_law_word") fd
  d_law : ∃ fd, FunD K "law" "law" (defArgs st_law) (defBody st_law) (defScope st_law) [] [] (He.ga K "law") fd
section
variable {P : Program} {w : World} {K : PySem.W.Frag} {mg : Str → Option Value} {base : Heap}
theorem vx_BadName (c : Gf P w K mg base) : VEx P w K mg base 1 1 "BadName" (He.ga K "BadName") x_BadName := by
  have T := c.ef_BadName
  exact vex_of (ps := (["self", "name"] : List Str)) c.if_BadName T (c.g _ (by decide)) (nscope_by (by decide +kernel)) rfl rfl rfl c.top c.b_super rfl (fun _ _ _ _ _ _ _ us hl => match us, hl with | [_, _], _ => rfl) (fun cc cda A outer s H E => msg_join (MP.fmtR (pvv 1) (MP.txt (by decide) MP.nil))) (fun cc cda A outer s H E => (vis_cons T (c.no _ (by decide) _ (by decide)) (pvv 0) (ve_var 1) vis_nil))
theorem vx_TwiceNamed (c : Gf P w K mg base) : VEx P w K mg base 1 1 "TwiceNamed" (He.ga K "TwiceNamed") x_TwiceNamed := by
  have T := c.ef_TwiceNamed
  exact vex_of (ps := (["self", "name"] : List Str)) c.if_TwiceNamed T (c.g _ (by decide)) (nscope_by (by decide +kernel)) rfl rfl rfl c.top c.b_super rfl (fun _ _ _ _ _ _ _ us hl => match us, hl with | [_, _], _ => rfl) (fun cc cda A outer s H E => msg_join (MP.fmtR (pvv 1) (MP.txt (by decide) MP.nil))) (fun cc cda A outer s H E => (vis_cons T (c.no _ (by decide) _ (by decide)) (pvv 0) (ve_var 1) vis_nil))
theorem vx_NoImage (c : Gf P w K mg base) : VEx P w K mg base 1 1 "NoImage" (He.ga K "NoImage") x_NoImage := by
  have T := c.ef_NoImage
  exact vex_of (ps := (["self", "name"] : List Str)) c.if_NoImage T (c.g _ (by decide)) (nscope_by (by decide +kernel)) rfl rfl rfl c.top c.b_super rfl (fun _ _ _ _ _ _ _ us hl => match us, hl with | [_, _], _ => rfl) (fun cc cda A outer s H E => msg_join (MP.fmtR (pvv 1) (MP.txt (by decide) MP.nil))) (fun cc cda A outer s H E => (vis_cons T (c.no _ (by decide) _ (by decide)) (pvv 0) (ve_var 1) vis_nil))
theorem vx_BadImage (c : Gf P w K mg base) : VEx P w K mg base 1 1 "BadImage" (He.ga K "BadImage") x_BadImage := by
  have T := c.ef_BadImage
  exact vex_of (ps := (["self", "name"] : List Str)) c.if_BadImage T (c.g _ (by decide)) (nscope_by (by decide +kernel)) rfl rfl rfl c.top c.b_super rfl (fun _ _ _ _ _ _ _ us hl => match us, hl with | [_, _], _ => rfl) (fun cc cda A outer s H E => msg_join (MP.txt (by decide) (MP.fmtR (pvv 1) (MP.txt (by decide) MP.nil)))) (fun cc cda A outer s H E => (vis_cons T (c.no _ (by decide) _ (by decide)) (pvv 0) (ve_var 1) vis_nil))
theorem vx_BadPair (c : Gf P w K mg base) : VEx P w K mg base 1 2 "BadPair" (He.ga K "BadPair") x_BadPair := by
  have T := c.ef_BadPair
  exact vex_of (ps := (["self", "first", "second"] : List Str)) c.if_BadPair T (c.g _ (by decide)) (nscope_by (by decide +kernel)) rfl rfl rfl c.top c.b_super rfl (fun _ _ _ _ _ _ _ us hl => match us, hl with | [_, _, _], _ => rfl) (fun cc cda A outer s H E => msg_join (MP.fmtR (pvv 1) (MP.txt (by decide) (MP.fmtR (pvv 2) (MP.txt (by decide) MP.nil))))) (fun cc cda A outer s H E => (vis_cons T (c.no _ (by decide) _ (by decide)) (pvv 0) (ve_var 1) (vis_cons T (c.no _ (by decide) _ (by decide)) (pvv 0) (ve_var 2) vis_nil)))
theorem vx_BadProduct (c : Gf P w K mg base) : VEx P w K mg base 1 2 "BadProduct" (He.ga K "BadProduct") x_BadProduct := by
  have T := c.ef_BadProduct
  exact vex_of (ps := (["self", "first", "second"] : List Str)) c.if_BadProduct T (c.g _ (by decide)) (nscope_by (by decide +kernel)) rfl rfl rfl c.top c.b_super rfl (fun _ _ _ _ _ _ _ us hl => match us, hl with | [_, _, _], _ => rfl) (fun cc cda A outer s H E => msg_join (MP.fmtR (pvv 1) (MP.txt (by decide) (MP.fmtR (pvv 2) (MP.txt (by decide) MP.nil))))) (fun cc cda A outer s H E => (vis_cons T (c.no _ (by decide) _ (by decide)) (pvv 0) (ve_var 1) (vis_cons T (c.no _ (by decide) _ (by decide)) (pvv 0) (ve_var 2) vis_nil)))
theorem vx_NotBehind (c : Gf P w K mg base) : VEx P w K mg base 1 2 "NotBehind" (He.ga K "NotBehind") x_NotBehind := by
  have T := c.ef_NotBehind
  exact vex_of (ps := (["self", "first", "second"] : List Str)) c.if_NotBehind T (c.g _ (by decide)) (nscope_by (by decide +kernel)) rfl rfl rfl c.top c.b_super rfl (fun _ _ _ _ _ _ _ us hl => match us, hl with | [_, _, _], _ => rfl) (fun cc cda A outer s H E => msg_join (MP.fmtR (pvv 2) (MP.txt (by decide) (MP.fmtR (pvv 1) (MP.txt (by decide) MP.nil))))) (fun cc cda A outer s H E => (vis_cons T (c.no _ (by decide) _ (by decide)) (pvv 0) (ve_var 1) (vis_cons T (c.no _ (by decide) _ (by decide)) (pvv 0) (ve_var 2) vis_nil)))
theorem vx_NotKept (c : Gf P w K mg base) : VEx P w K mg base 1 2 "NotKept" (He.ga K "NotKept") x_NotKept := by
  have T := c.ef_NotKept
  exact vex_of (ps := (["self", "first", "second"] : List Str)) c.if_NotKept T (c.g _ (by decide)) (nscope_by (by decide +kernel)) rfl rfl rfl c.top c.b_super rfl (fun _ _ _ _ _ _ _ us hl => match us, hl with | [_, _, _], _ => rfl) (fun cc cda A outer s H E => msg_join (MP.fmtR (pvv 1) (MP.txt (by decide) (MP.fmtR (pvv 2) (MP.txt (by decide) MP.nil))))) (fun cc cda A outer s H E => (vis_cons T (c.no _ (by decide) _ (by decide)) (pvv 0) (ve_var 1) (vis_cons T (c.no _ (by decide) _ (by decide)) (pvv 0) (ve_var 2) vis_nil)))
theorem vx_NotGrouped (c : Gf P w K mg base) : VEx P w K mg base 1 3 "NotGrouped" (He.ga K "NotGrouped") x_NotGrouped := by
  have T := c.ef_NotGrouped
  exact vex_of (ps := (["self", "first", "second", "third"] : List Str)) c.if_NotGrouped T (c.g _ (by decide)) (nscope_by (by decide +kernel)) rfl rfl rfl c.top c.b_super rfl (fun _ _ _ _ _ _ _ us hl => match us, hl with | [_, _, _, _], _ => rfl) (fun cc cda A outer s H E => msg_join (MP.fmtR (pvv 1) (MP.txt (by decide) (MP.fmtR (pvv 2) (MP.txt (by decide) (MP.fmtR (pvv 3) (MP.txt (by decide) MP.nil))))))) (fun cc cda A outer s H E => (vis_cons T (c.no _ (by decide) _ (by decide)) (pvv 0) (ve_var 1) (vis_cons T (c.no _ (by decide) _ (by decide)) (pvv 0) (ve_var 2) (vis_cons T (c.no _ (by decide) _ (by decide)) (pvv 0) (ve_var 3) vis_nil))))
theorem vx_BadEquation (c : Gf P w K mg base) : VEx P w K mg base 1 1 "BadEquation" (He.ga K "BadEquation") x_BadEquation := by
  have T := c.ef_BadEquation
  exact vex_of (ps := (["self", "number"] : List Str)) c.if_BadEquation T (c.g _ (by decide)) (nscope_by (by decide +kernel)) rfl rfl rfl c.top c.b_super rfl (fun _ _ _ _ _ _ _ us hl => match us, hl with | [_, _], _ => rfl) (fun cc cda A outer s H E => msg_join (MP.txt (by decide) (MP.fmt (pvv 1) (MP.txt (by decide) MP.nil)))) (fun cc cda A outer s H E => (vis_cons T (c.no _ (by decide) _ (by decide)) (pvv 0) (ve_var 1) vis_nil))
theorem vx_BrokenEquation (c : Gf P w K mg base) : VEx P w K mg base 1 1 "BrokenEquation" (He.ga K "BrokenEquation") x_BrokenEquation := by
  have T := c.ef_BrokenEquation
  exact vex_of (ps := (["self", "number"] : List Str)) c.if_BrokenEquation T (c.g _ (by decide)) (nscope_by (by decide +kernel)) rfl rfl rfl c.top c.b_super rfl (fun _ _ _ _ _ _ _ us hl => match us, hl with | [_, _], _ => rfl) (fun cc cda A outer s H E => msg_join (MP.txt (by decide) (MP.fmt (pvv 1) (MP.txt (by decide) MP.nil)))) (fun cc cda A outer s H E => (vis_cons T (c.no _ (by decide) _ (by decide)) (pvv 0) (ve_var 1) vis_nil))
theorem vx_NoChange (c : Gf P w K mg base) : VEx P w K mg base 1 1 "NoChange" (He.ga K "NoChange") x_NoChange := by
  have T := c.ef_NoChange
  exact vex_of (ps := (["self", "number"] : List Str)) c.if_NoChange T (c.g _ (by decide)) (nscope_by (by decide +kernel)) rfl rfl rfl c.top c.b_super rfl (fun _ _ _ _ _ _ _ us hl => match us, hl with | [_, _], _ => rfl) (fun cc cda A outer s H E => msg_join (MP.txt (by decide) (MP.fmt (pvv 1) MP.nil))) (fun cc cda A outer s H E => (vis_cons T (c.no _ (by decide) _ (by decide)) (pvv 0) (ve_var 1) vis_nil))
theorem vx_Ring (c : Gf P w K mg base) : VEx P w K mg base 1 1 "Ring" (He.ga K "Ring") x_Ring := by
  have T := c.ef_Ring
  exact vex_of (ps := (["self", "kind"] : List Str)) c.if_Ring T (c.g _ (by decide)) (nscope_by (by decide +kernel)) rfl rfl rfl c.top c.b_super rfl (fun _ _ _ _ _ _ _ us hl => match us, hl with | [_, _], _ => rfl) (fun cc cda A outer s H E => msg_join (MP.txt (by decide) (MP.fmtR (pvv 1) (MP.txt (by decide) MP.nil)))) (fun cc cda A outer s H E => (vis_cons T (c.no _ (by decide) _ (by decide)) (pvv 0) (ve_var 1) vis_nil))
theorem vx_BadCount (c : Gf P w K mg base) : VEx P w K mg base 1 1 "BadCount" (He.ga K "BadCount") x_BadCount := by
  have T := c.ef_BadCount
  exact vex_of (ps := (["self", "kind"] : List Str)) c.if_BadCount T (c.g _ (by decide)) (nscope_by (by decide +kernel)) rfl rfl rfl c.top c.b_super rfl (fun _ _ _ _ _ _ _ us hl => match us, hl with | [_, _], _ => rfl) (fun cc cda A outer s H E => msg_join (MP.txt (by decide) (MP.fmtR (pvv 1) (MP.txt (by decide) MP.nil)))) (fun cc cda A outer s H E => (vis_cons T (c.no _ (by decide) _ (by decide)) (pvv 0) (ve_var 1) vis_nil))
theorem vx_BadRows (c : Gf P w K mg base) : VEx P w K mg base 1 1 "BadRows" (He.ga K "BadRows") x_BadRows := by
  have T := c.ef_BadRows
  exact vex_of (ps := (["self", "kind"] : List Str)) c.if_BadRows T (c.g _ (by decide)) (nscope_by (by decide +kernel)) rfl rfl rfl c.top c.b_super rfl (fun _ _ _ _ _ _ _ us hl => match us, hl with | [_, _], _ => rfl) (fun cc cda A outer s H E => msg_join (MP.txt (by decide) (MP.fmtR (pvv 1) (MP.txt (by decide) MP.nil)))) (fun cc cda A outer s H E => (vis_cons T (c.no _ (by decide) _ (by decide)) (pvv 0) (ve_var 1) vis_nil))
theorem vx_TooMany (c : Gf P w K mg base) : VEx P w K mg base 1 1 "TooMany" (He.ga K "TooMany") x_TooMany := by
  have T := c.ef_TooMany
  exact vex_of (ps := (["self", "count"] : List Str)) c.if_TooMany T (c.g _ (by decide)) (nscope_by (by decide +kernel)) rfl rfl rfl c.top c.b_super rfl (fun _ _ _ _ _ _ _ us hl => match us, hl with | [_, _], _ => rfl) (fun cc cda A outer s H E => msg_join (MP.txt (by decide) (MP.fmt (pvv 1) (MP.txt (by decide) MP.nil)))) (fun cc cda A outer s H E => (vis_cons T (c.no _ (by decide) _ (by decide)) (pvv 0) (ve_var 1) vis_nil))
theorem vx_NotNatural (c : Gf P w K mg base) : VEx P w K mg base 1 2 "NotNatural" (He.ga K "NotNatural") x_NotNatural := by
  have T := c.ef_NotNatural
  exact vex_of (ps := (["self", "column", "row"] : List Str)) c.if_NotNatural T (c.g _ (by decide)) (nscope_by (by decide +kernel)) rfl rfl rfl c.top c.b_super rfl (fun _ _ _ _ _ _ _ us hl => match us, hl with | [_, _, _], _ => rfl) (fun cc cda A outer s H E => msg_join (MP.txt (by decide) (MP.fmtR (pvv 1) (MP.txt (by decide) (MP.fmt (pvv 2) (MP.txt (by decide) MP.nil)))))) (fun cc cda A outer s H E => (vis_cons T (c.no _ (by decide) _ (by decide)) (pvv 0) (ve_var 1) (vis_cons T (c.no _ (by decide) _ (by decide)) (pvv 0) (ve_var 2) vis_nil)))
theorem vx_NotClosed (c : Gf P w K mg base) : VEx P w K mg base 1 2 "NotClosed" (He.ga K "NotClosed") x_NotClosed := by
  have T := c.ef_NotClosed
  exact vex_of (ps := (["self", "column", "row"] : List Str)) c.if_NotClosed T (c.g _ (by decide)) (nscope_by (by decide +kernel)) rfl rfl rfl c.top c.b_super rfl (fun _ _ _ _ _ _ _ us hl => match us, hl with | [_, _, _], _ => rfl) (fun cc cda A outer s H E => msg_join (MP.txt (by decide) (MP.fmtR (pvv 1) (MP.txt (by decide) (MP.fmt (pvv 2) (MP.txt (by decide) MP.nil)))))) (fun cc cda A outer s H E => (vis_cons T (c.no _ (by decide) _ (by decide)) (pvv 0) (ve_var 1) (vis_cons T (c.no _ (by decide) _ (by decide)) (pvv 0) (ve_var 2) vis_nil)))
theorem vx_BadCells (c : Gf P w K mg base) : VEx P w K mg base 1 1 "BadCells" (He.ga K "BadCells") x_BadCells := by
  have T := c.ef_BadCells
  exact vex_of (ps := (["self", "column"] : List Str)) c.if_BadCells T (c.g _ (by decide)) (nscope_by (by decide +kernel)) rfl rfl rfl c.top c.b_super rfl (fun _ _ _ _ _ _ _ us hl => match us, hl with | [_, _], _ => rfl) (fun cc cda A outer s H E => msg_join (MP.txt (by decide) (MP.fmtR (pvv 1) (MP.txt (by decide) MP.nil)))) (fun cc cda A outer s H E => (vis_cons T (c.no _ (by decide) _ (by decide)) (pvv 0) (ve_var 1) vis_nil))
theorem vx_Clash (c : Gf P w K mg base) : VEx P w K mg base 1 4 "Clash" (He.ga K "Clash") x_Clash := by
  have T := c.ef_Clash
  exact vex_of (ps := (["self", "kind", "first", "second", "trail"] : List Str)) c.if_Clash T (c.g _ (by decide)) (nscope_by (by decide +kernel)) rfl rfl rfl c.top c.b_super rfl (fun _ _ _ _ _ _ _ us hl => match us, hl with | [_, _, _, _, _], _ => rfl) (fun cc cda A outer s H E => msg_join (MP.txt (by decide) (MP.fmt (pvv 2) (MP.txt (by decide) (MP.fmt (pvv 3) (MP.txt (by decide) (MP.fmtR (pvv 1) (MP.txt (by decide) MP.nil)))))))) (fun cc cda A outer s H E => (vis_cons T (c.no _ (by decide) _ (by decide)) (pvv 0) (ve_var 1) (vis_cons T (c.no _ (by decide) _ (by decide)) (pvv 0) (ve_var 2) (vis_cons T (c.no _ (by decide) _ (by decide)) (pvv 0) (ve_var 3) (vis_cons T (c.no _ (by decide) _ (by decide)) (pvv 0) (ve_list c.b_list (va_cons (ve_var 4) va_nil)) vis_nil)))))
theorem vx_BadPath (c : Gf P w K mg base) : VEx P w K mg base 1 0 "BadPath" (He.ga K "BadPath") x_BadPath := by
  have T := c.ef_BadPath
  exact vex_of (ps := (["self"] : List Str)) c.if_BadPath T (c.g _ (by decide)) (nscope_by (by decide +kernel)) rfl rfl rfl c.top c.b_super rfl (fun _ _ _ _ _ _ _ us hl => match us, hl with | [_], _ => rfl) (fun cc cda A outer s H E => msg_txt) (fun cc cda A outer s H E => vis_nil)
theorem vx_MixedSchemas (c : Gf P w K mg base) : VEx P w K mg base 1 0 "MixedSchemas" (He.ga K "MixedSchemas") x_MixedSchemas := by
  have T := c.ef_MixedSchemas
  exact vex_of (ps := (["self"] : List Str)) c.if_MixedSchemas T (c.g _ (by decide)) (nscope_by (by decide +kernel)) rfl rfl rfl c.top c.b_super rfl (fun _ _ _ _ _ _ _ us hl => match us, hl with | [_], _ => rfl) (fun cc cda A outer s H E => msg_txt) (fun cc cda A outer s H E => vis_nil)
theorem vx_MixedInstances (c : Gf P w K mg base) : VEx P w K mg base 1 0 "MixedInstances" (He.ga K "MixedInstances") x_MixedInstances := by
  have T := c.ef_MixedInstances
  exact vex_of (ps := (["self"] : List Str)) c.if_MixedInstances T (c.g _ (by decide)) (nscope_by (by decide +kernel)) rfl rfl rfl c.top c.b_super rfl (fun _ _ _ _ _ _ _ us hl => match us, hl with | [_], _ => rfl) (fun cc cda A outer s H E => msg_txt) (fun cc cda A outer s H E => vis_nil)
theorem vx_NotFitting (c : Gf P w K mg base) : VEx P w K mg base 1 0 "NotFitting" (He.ga K "NotFitting") x_NotFitting := by
  have T := c.ef_NotFitting
  exact vex_of (ps := (["self"] : List Str)) c.if_NotFitting T (c.g _ (by decide)) (nscope_by (by decide +kernel)) rfl rfl rfl c.top c.b_super rfl (fun _ _ _ _ _ _ _ us hl => match us, hl with | [_], _ => rfl) (fun cc cda A outer s H E => msg_txt) (fun cc cda A outer s H E => vis_nil)
theorem vx_BadHolder (c : Gf P w K mg base) : VEx P w K mg base 1 0 "BadHolder" (He.ga K "BadHolder") x_BadHolder := by
  have T := c.ef_BadHolder
  exact vex_of (ps := (["self"] : List Str)) c.if_BadHolder T (c.g _ (by decide)) (nscope_by (by decide +kernel)) rfl rfl rfl c.top c.b_super rfl (fun _ _ _ _ _ _ _ us hl => match us, hl with | [_], _ => rfl) (fun cc cda A outer s H E => msg_txt) (fun cc cda A outer s H E => vis_nil)
theorem vx_BadFamily (c : Gf P w K mg base) : VEx P w K mg base 1 0 "BadFamily" (He.ga K "BadFamily") x_BadFamily := by
  have T := c.ef_BadFamily
  exact vex_of (ps := (["self"] : List Str)) c.if_BadFamily T (c.g _ (by decide)) (nscope_by (by decide +kernel)) rfl rfl rfl c.top c.b_super rfl (fun _ _ _ _ _ _ _ us hl => match us, hl with | [_], _ => rfl) (fun cc cda A outer s H E => msg_txt) (fun cc cda A outer s H E => vis_nil)
theorem vx_UnlikeMarks (c : Gf P w K mg base) : VEx P w K mg base 1 0 "UnlikeMarks" (He.ga K "UnlikeMarks") x_UnlikeMarks := by
  have T := c.ef_UnlikeMarks
  exact vex_of (ps := (["self"] : List Str)) c.if_UnlikeMarks T (c.g _ (by decide)) (nscope_by (by decide +kernel)) rfl rfl rfl c.top c.b_super rfl (fun _ _ _ _ _ _ _ us hl => match us, hl with | [_], _ => rfl) (fun cc cda A outer s H E => msg_txt) (fun cc cda A outer s H E => vis_nil)
theorem vx_NothingDone (c : Gf P w K mg base) : VEx P w K mg base 1 0 "NothingDone" (He.ga K "NothingDone") x_NothingDone := by
  have T := c.ef_NothingDone
  exact vex_of (ps := (["self"] : List Str)) c.if_NothingDone T (c.g _ (by decide)) (nscope_by (by decide +kernel)) rfl rfl rfl c.top c.b_super rfl (fun _ _ _ _ _ _ _ us hl => match us, hl with | [_], _ => rfl) (fun cc cda A outer s H E => msg_txt) (fun cc cda A outer s H E => vis_nil)
theorem vx_Stale (c : Gf P w K mg base) : VEx P w K mg base 1 0 "Stale" (He.ga K "Stale") x_Stale := by
  have T := c.ef_Stale
  exact vex_of (ps := (["self"] : List Str)) c.if_Stale T (c.g _ (by decide)) (nscope_by (by decide +kernel)) rfl rfl rfl c.top c.b_super rfl (fun _ _ _ _ _ _ _ us hl => match us, hl with | [_], _ => rfl) (fun cc cda A outer s H E => msg_txt) (fun cc cda A outer s H E => vis_nil)
theorem vx_BadItem (c : Gf P w K mg base) : VEx P w K mg base 1 0 "BadItem" (He.ga K "BadItem") x_BadItem := by
  have T := c.ef_BadItem
  exact vex_of (ps := (["self"] : List Str)) c.if_BadItem T (c.g _ (by decide)) (nscope_by (by decide +kernel)) rfl rfl rfl c.top c.b_super rfl (fun _ _ _ _ _ _ _ us hl => match us, hl with | [_], _ => rfl) (fun cc cda A outer s H E => msg_txt) (fun cc cda A outer s H E => vis_nil)
theorem vx_UnknownKind (c : Gf P w K mg base) : VEx P w K mg base 1 1 "UnknownKind" (He.ga K "UnknownKind") x_UnknownKind := by
  have T := c.ef_UnknownKind
  exact vex_of (ps := (["self", "name"] : List Str)) c.if_UnknownKind T (c.g _ (by decide)) (nscope_by (by decide +kernel)) rfl rfl rfl c.top c.b_super rfl (fun _ _ _ _ _ _ _ us hl => match us, hl with | [_, _], _ => rfl) (fun cc cda A outer s H E => msg_join (MP.txt (by decide) (MP.fmtR (pvv 1) MP.nil))) (fun cc cda A outer s H E => (vis_cons T (c.no _ (by decide) _ (by decide)) (pvv 0) (ve_var 1) vis_nil))
theorem vx_UnknownColumn (c : Gf P w K mg base) : VEx P w K mg base 1 1 "UnknownColumn" (He.ga K "UnknownColumn") x_UnknownColumn := by
  have T := c.ef_UnknownColumn
  exact vex_of (ps := (["self", "name"] : List Str)) c.if_UnknownColumn T (c.g _ (by decide)) (nscope_by (by decide +kernel)) rfl rfl rfl c.top c.b_super rfl (fun _ _ _ _ _ _ _ us hl => match us, hl with | [_, _], _ => rfl) (fun cc cda A outer s H E => msg_join (MP.txt (by decide) (MP.fmtR (pvv 1) MP.nil))) (fun cc cda A outer s H E => (vis_cons T (c.no _ (by decide) _ (by decide)) (pvv 0) (ve_var 1) vis_nil))
theorem vx_UnknownName (c : Gf P w K mg base) : VEx P w K mg base 1 1 "UnknownName" (He.ga K "UnknownName") x_UnknownName := by
  have T := c.ef_UnknownName
  exact vex_of (ps := (["self", "name"] : List Str)) c.if_UnknownName T (c.g _ (by decide)) (nscope_by (by decide +kernel)) rfl rfl rfl c.top c.b_super rfl (fun _ _ _ _ _ _ _ us hl => match us, hl with | [_, _], _ => rfl) (fun cc cda A outer s H E => msg_join (MP.txt (by decide) (MP.fmtR (pvv 1) MP.nil))) (fun cc cda A outer s H E => (vis_cons T (c.no _ (by decide) _ (by decide)) (pvv 0) (ve_var 1) vis_nil))
theorem vx_NoView (c : Gf P w K mg base) : VEx P w K mg base 1 1 "NoView" (He.ga K "NoView") x_NoView := by
  have T := c.ef_NoView
  exact vex_of (ps := (["self", "name"] : List Str)) c.if_NoView T (c.g _ (by decide)) (nscope_by (by decide +kernel)) rfl rfl rfl c.top c.b_super rfl (fun _ _ _ _ _ _ _ us hl => match us, hl with | [_, _], _ => rfl) (fun cc cda A outer s H E => msg_join (MP.txt (by decide) (MP.fmtR (pvv 1) MP.nil))) (fun cc cda A outer s H E => (vis_cons T (c.no _ (by decide) _ (by decide)) (pvv 0) (ve_var 1) vis_nil))
theorem vx_NoRow (c : Gf P w K mg base) : VEx P w K mg base 1 2 "NoRow" (He.ga K "NoRow") x_NoRow := by
  have T := c.ef_NoRow
  exact vex_of (ps := (["self", "kind", "row"] : List Str)) c.if_NoRow T (c.g _ (by decide)) (nscope_by (by decide +kernel)) rfl rfl rfl c.top c.b_super rfl (fun _ _ _ _ _ _ _ us hl => match us, hl with | [_, _, _], _ => rfl) (fun cc cda A outer s H E => msg_join (MP.txt (by decide) (MP.fmtR (pvv 1) (MP.txt (by decide) (MP.fmt (pvv 2) MP.nil))))) (fun cc cda A outer s H E => (vis_cons T (c.no _ (by decide) _ (by decide)) (pvv 0) (ve_var 1) (vis_cons T (c.no _ (by decide) _ (by decide)) (pvv 0) (ve_var 2) vis_nil)))
end
end L91

namespace L91
open PySem PySem.Spec PyProof.Rows L2 VL NdefX
section
variable {P : Program} {w : World} {K : PySem.W.Frag} {mg : Str → Option Value} {base : Heap}
theorem vn__law_source (c : Gf P w K mg base) : VFn P w K mg base 1 1 (He.ga K "_law_source") [] (fn__law_source K) := by
  obtain ⟨fd, F⟩ := c.d__law_source
  refine vfn_of (ps := P__law_source) (fn_okK (N := N__law_source) F sc__law_source fun cdv A outer s H E hr => ?_) (F.bindsN fun _ _ _ _ _ _ us hl => match us, hl with | [_], _ => rfl)
  have tk : Takes (bX P w K mg base N__law_source "_law_source" (defScope st__law_source) (He.ga K "_law_source") cdv A outer s H E) (WxE E) := takes_of rfl rfl rfl rfl
  have pa : PassesOwn (model P w) (bX P w K mg base N__law_source "_law_source" (defScope st__law_source) (He.ga K "_law_source") cdv A outer s H E).A (bX P w K mg base N__law_source "_law_source" (defScope st__law_source) (He.ga K "_law_source") cdv A outer s H E).env (bX P w K mg base N__law_source "_law_source" (defScope st__law_source) (He.ga K "_law_source") cdv A outer s H E).xe := passes_of rfl
  exact (vss_cons (vs_set 1 sc__law_source.nd ve_int) (vss_cons (vs_for [2] pa rfl (vi_scr rfl (ve_var 0)) (vg_name 2 sc__law_source.nd) (vss_one (vs_set 1 sc__law_source.nd (ve_mod (ve_callInt c.b_int (va_cons (ve_add (ve_add (ve_mul (ve_var 1) ve_int) (ve_mul (ve_var 2) ve_int)) ve_int) va_nil)) ve_int)))) (vss_cons (vs_set 3 sc__law_source.nd (ve_compC ([("_law_cell", 2)] : List (Str × Nat)) rfl sc__law_source.nd (vi_scr rfl (ve_var 0)) (show BlkOk N__law_source (defScope st__law_source) _ _ from blkOk_by (by decide +kernel)) (fun s H C cl fp => (vg_name 2 sc__law_source.nd)) (fun s H C cl fp => vts_nil) (fun s H C cl fp => (ve_abs c.b_abs (va_cons (ve_var 2) va_nil))))) (vss_cons (vs_set 3 sc__law_source.nd (ve_compC ([("_law_k", 4)] : List (Str × Nat)) rfl sc__law_source.nd (vi_range1 c.b_range (va_cons (ve_len c.b_len (va_cons (ve_var 3) va_nil)) va_nil)) (show BlkOk N__law_source (defScope st__law_source) _ _ from blkOk_by (by decide +kernel)) (fun s H C cl fp => (vg_name 4 sc__law_source.nd)) (fun s H C cl fp => vts_nil) (fun s H C cl fp => (ve_ix (ix_all (u1 hr)) (oIx_S _) (ve_var 3) (ve_sub (ve_sub (ve_len c.b_len (va_cons (ve_var 3) va_nil)) ve_int) (ve_var 4)))))) (vss_one (vs_ret (ve_dic (VP.cons ve_str (ve_var 3) (VP.cons ve_str ve_int (VP.cons ve_str (ve_var 1) (VP.cons ve_str ve_int VP.nil)))))))))))
theorem vf__law_source (c : Gf P w K mg base) : VF P w K mg base 1 1 "_law_source" [] (fn__law_source K) := .of (vn__law_source c) (c.g _ (by decide)) (let ⟨_, F⟩ := c.d__law_source; F.kp)
theorem vn__law_pick (c : Gf P w K mg base) : VFn P w K mg base 1 2 (He.ga K "_law_pick") [] (fn__law_pick K) := by
  obtain ⟨fd, F⟩ := c.d__law_pick
  refine vfn_of (ps := P__law_pick) (fn_ok (N := N__law_pick) F sc__law_pick fun cdv A outer s H E hr => ?_) (F.bindsN fun _ _ _ _ _ _ us hl => match us, hl with | [_, _], _ => rfl)
  have tk : Takes (bX P w K mg base N__law_pick "_law_pick" (defScope st__law_pick) (He.ga K "_law_pick") cdv A outer s H E) (WxE E) := takes_of rfl rfl rfl rfl
  have pa : PassesOwn (model P w) (bX P w K mg base N__law_pick "_law_pick" (defScope st__law_pick) (He.ga K "_law_pick") cdv A outer s H E).A (bX P w K mg base N__law_pick "_law_pick" (defScope st__law_pick) (He.ga K "_law_pick") cdv A outer s H E).env (bX P w K mg base N__law_pick "_law_pick" (defScope st__law_pick) (He.ga K "_law_pick") cdv A outer s H E).xe := passes_of rfl
  exact (vss_cons (vs_if (vt_cmp (op_ltX) (oLt_S) (ve_var 1) ve_int rfl) (vss_one (vs_ret ve_int)) vss_nil) (vss_cons (vs_set 2 sc__law_pick.nd (ve_ix (ix_all (u1 hr)) (oIx_S _) (ve_var 0) ve_str)) (vss_cons (vs_while pa (vw_and (vt_cmp (op_ltX) (oLt_S) (ve_ix (ix_all (u1 hr)) (oIx_S _) (ve_var 0) ve_str) ve_int rfl) (vw_and1 (vt_cmp (op_gtX) (oGt_S) (ve_len c.b_len (va_cons (ve_var 2) va_nil)) ve_int rfl))).vt (vss_one (vs_asg [] (ve_pop (ve_var 2)) (vg_sub (Wx := W0) (u1 hr) (ve_var 0) ve_str)))) (vss_cons (vs_set 3 sc__law_pick.nd (ve_ix (ix_all (u1 hr)) (oIx_S _) (ve_var 0) ve_str)) (vss_cons (vs_if (vt_cmp (op_gtX) (oGt_S) (ve_var 3) ve_int rfl) (vss_cons (vs_asg [] (ve_fdiv (ve_var 3) (ve_var 1)) (vg_sub (Wx := W0) (u1 hr) (ve_var 0) ve_str)) (vss_one (vs_ret (ve_mod (ve_callInt c.b_int (va_cons (ve_var 3) va_nil)) (ve_var 1))))) vss_nil) (vss_cons (vs_asg [] (ve_add (ve_ix (ix_all (u1 hr)) (oIx_S _) (ve_var 0) ve_str) ve_int) (vg_sub (Wx := W0) (u1 hr) (ve_var 0) ve_str)) (vss_cons (vs_set 4 sc__law_pick.nd (ve_ix (ix_all (u1 hr)) (oIx_S _) (ve_var 0) ve_str)) (vss_cons (vs_set 5 sc__law_pick.nd (ve_mod (ve_callInt c.b_int (va_cons (ve_add (ve_ix (ix_all (u1 hr)) (oIx_S _) (ve_var 0) ve_str) (ve_mul (ve_var 4) ve_int)) va_nil)) ve_int)) (vss_cons (vs_set 5 sc__law_pick.nd (ve_mod (ve_callInt c.b_int (va_cons (ve_add (ve_mul (ve_var 5) (ve_var 5)) (ve_mul (ve_var 4) ve_int)) va_nil)) ve_int)) (vss_cons (vs_if (vt_cmp (op_gtX) (oGt_S) (ve_var 1) (ve_pow ve_int ve_int) rfl) (vss_one (vs_set 5 sc__law_pick.nd (ve_pow (ve_callInt c.b_int (va_cons (ve_add (ve_mul (ve_var 5) ve_int) (ve_var 4)) va_nil)) ve_int))) vss_nil) (vss_one (vs_ret (ve_mod (ve_callInt c.b_int (va_cons (ve_fdiv (ve_var 5) ve_int) va_nil)) (ve_var 1))))))))))))))
theorem vf__law_pick (c : Gf P w K mg base) : VF P w K mg base 1 2 "_law_pick" [] (fn__law_pick K) := .of (vn__law_pick c) (c.g _ (by decide)) (let ⟨_, F⟩ := c.d__law_pick; F.kp)
theorem vn__law_named (c : Gf P w K mg base) : VFn P w K mg base 3 1 (He.ga K "_law_named") [] (fn__law_named K) := by
  obtain ⟨fd, F⟩ := c.d__law_named
  refine vfn_of (ps := P__law_named) (fn_ok (N := N__law_named) F sc__law_named fun cdv A outer s H E hr => ?_) (F.bindsN fun _ _ _ _ _ _ us hl => match us, hl with | [_], _ => rfl)
  have tk : Takes (bX P w K mg base N__law_named "_law_named" (defScope st__law_named) (He.ga K "_law_named") cdv A outer s H E) (WxE E) := takes_of rfl rfl rfl rfl
  have pa : PassesOwn (model P w) (bX P w K mg base N__law_named "_law_named" (defScope st__law_named) (He.ga K "_law_named") cdv A outer s H E).A (bX P w K mg base N__law_named "_law_named" (defScope st__law_named) (He.ga K "_law_named") cdv A outer s H E).env (bX P w K mg base N__law_named "_law_named" (defScope st__law_named) (He.ga K "_law_named") cdv A outer s H E).xe := passes_of rfl
  exact (vss_cons (vs_set 1 sc__law_named.nd (ve_lst (va_cons (ve_exc (vx_BadName c) (hr.mono (by decide)) tk (va_cons (ve_var 0) va_nil)) (va_cons (ve_exc (vx_TwiceNamed c) (hr.mono (by decide)) tk (va_cons (ve_var 0) va_nil)) (va_cons (ve_exc (vx_NoImage c) (hr.mono (by decide)) tk (va_cons (ve_var 0) va_nil)) (va_cons (ve_exc (vx_BadImage c) (hr.mono (by decide)) tk (va_cons (ve_var 0) va_nil)) va_nil)))))) (vss_cons (vs_if (vt_not (vt_val (ve_all rfl c.b_all (va_cons (ve_comp ([("_law_e", 2)] : List (Str × Nat)) rfl sc__law_named.nd (vi_items (ve_var 1)) (show BlkOk N__law_named (defScope st__law_named) _ _ from blkOk_by (by decide +kernel)) (fun s H C cl fp => (vg_name 2 sc__law_named.nd)) (fun s H C cl fp => vts_nil) (fun s H C cl fp => (ve_cmp (op_eqX hr.units) (oEq_S _) (ve_xatt c.xk (c.no _ (by decide)) (ve_var 2)) (ve_var 0) rfl))) va_nil)))) (vss_one (vs_ret (ve_lst va_nil))) vss_nil) (vss_one (vs_ret (ve_var 1)))))
theorem vf__law_named (c : Gf P w K mg base) : VF P w K mg base 3 1 "_law_named" [] (fn__law_named K) := .of (vn__law_named c) (c.g _ (by decide)) (let ⟨_, F⟩ := c.d__law_named; F.kp)
theorem vn__law_missing (c : Gf P w K mg base) : VFn P w K mg base 3 3 (He.ga K "_law_missing") [] (fn__law_missing K) := by
  obtain ⟨fd, F⟩ := c.d__law_missing
  refine vfn_of (ps := P__law_missing) (fn_ok (N := N__law_missing) F sc__law_missing fun cdv A outer s H E hr => ?_) (F.bindsN fun _ _ _ _ _ _ us hl => match us, hl with | [_, _, _], _ => rfl)
  have tk : Takes (bX P w K mg base N__law_missing "_law_missing" (defScope st__law_missing) (He.ga K "_law_missing") cdv A outer s H E) (WxE E) := takes_of rfl rfl rfl rfl
  have pa : PassesOwn (model P w) (bX P w K mg base N__law_missing "_law_missing" (defScope st__law_missing) (He.ga K "_law_missing") cdv A outer s H E).A (bX P w K mg base N__law_missing "_law_missing" (defScope st__law_missing) (He.ga K "_law_missing") cdv A outer s H E).env (bX P w K mg base N__law_missing "_law_missing" (defScope st__law_missing) (He.ga K "_law_missing") cdv A outer s H E).xe := passes_of rfl
  exact (vss_cons (vs_set 3 sc__law_missing.nd (ve_lst (va_cons (ve_exc (vx_UnknownKind c) (hr.mono (by decide)) tk (va_cons (ve_var 0) va_nil)) (va_cons (ve_exc (vx_UnknownColumn c) (hr.mono (by decide)) tk (va_cons (ve_var 0) va_nil)) (va_cons (ve_exc (vx_UnknownName c) (hr.mono (by decide)) tk (va_cons (ve_var 0) va_nil)) (va_cons (ve_exc (vx_NoView c) (hr.mono (by decide)) tk (va_cons (ve_var 0) va_nil)) va_nil)))))) (vss_cons (vs_set 4 sc__law_missing.nd (ve_exc (vx_NoRow c) (hr.mono (by decide)) tk (va_cons (ve_var 1) (va_cons (ve_var 2) va_nil)))) (vss_cons (vs_if (vw_or (vt_not (vt_val (ve_all rfl c.b_all (va_cons (ve_comp ([("_law_e", 5)] : List (Str × Nat)) rfl sc__law_missing.nd (vi_items (ve_var 3)) (show BlkOk N__law_missing (defScope st__law_missing) _ _ from blkOk_by (by decide +kernel)) (fun s H C cl fp => (vg_name 5 sc__law_missing.nd)) (fun s H C cl fp => vts_nil) (fun s H C cl fp => (ve_cmp (op_eqX hr.units) (oEq_S _) (ve_xatt c.xk (c.no _ (by decide)) (ve_var 5)) (ve_var 0) rfl))) va_nil)))) (vw_or1 (vt_cmp (op_neX hr.units) (oNe_S _) (ve_tup (va_cons (ve_xatt c.xk (c.no _ (by decide)) (ve_var 4)) (va_cons (ve_xatt c.xk (c.no _ (by decide)) (ve_var 4)) va_nil))) (ve_tup (va_cons (ve_var 1) (va_cons (ve_var 2) va_nil))) rfl))).vt (vss_one (vs_ret (ve_lst va_nil))) vss_nil) (vss_one (vs_ret (ve_add (ve_var 3) (ve_lst (va_cons (ve_var 4) va_nil))))))))
theorem vf__law_missing (c : Gf P w K mg base) : VF P w K mg base 3 3 "_law_missing" [] (fn__law_missing K) := .of (vn__law_missing c) (c.g _ (by decide)) (let ⟨_, F⟩ := c.d__law_missing; F.kp)
theorem vn__law_paired (c : Gf P w K mg base) : VFn P w K mg base 3 3 (He.ga K "_law_paired") [] (fn__law_paired K) := by
  obtain ⟨fd, F⟩ := c.d__law_paired
  refine vfn_of (ps := P__law_paired) (fn_ok (N := N__law_paired) F sc__law_paired fun cdv A outer s H E hr => ?_) (F.bindsN fun _ _ _ _ _ _ us hl => match us, hl with | [_, _, _], _ => rfl)
  have tk : Takes (bX P w K mg base N__law_paired "_law_paired" (defScope st__law_paired) (He.ga K "_law_paired") cdv A outer s H E) (WxE E) := takes_of rfl rfl rfl rfl
  have pa : PassesOwn (model P w) (bX P w K mg base N__law_paired "_law_paired" (defScope st__law_paired) (He.ga K "_law_paired") cdv A outer s H E).A (bX P w K mg base N__law_paired "_law_paired" (defScope st__law_paired) (He.ga K "_law_paired") cdv A outer s H E).env (bX P w K mg base N__law_paired "_law_paired" (defScope st__law_paired) (He.ga K "_law_paired") cdv A outer s H E).xe := passes_of rfl
  exact (vss_cons (vs_set 3 sc__law_paired.nd (ve_lst (va_cons (ve_exc (vx_BadPair c) (hr.mono (by decide)) tk (va_cons (ve_var 0) (va_cons (ve_var 1) va_nil))) (va_cons (ve_exc (vx_BadProduct c) (hr.mono (by decide)) tk (va_cons (ve_var 0) (va_cons (ve_var 1) va_nil))) (va_cons (ve_exc (vx_NotBehind c) (hr.mono (by decide)) tk (va_cons (ve_var 0) (va_cons (ve_var 1) va_nil))) (va_cons (ve_exc (vx_NotKept c) (hr.mono (by decide)) tk (va_cons (ve_var 0) (va_cons (ve_var 1) va_nil))) va_nil)))))) (vss_cons (vs_set 4 sc__law_paired.nd (ve_exc (vx_NotGrouped c) (hr.mono (by decide)) tk (va_cons (ve_var 0) (va_cons (ve_var 1) (va_cons (ve_var 2) va_nil))))) (vss_cons (vs_if (vt_not (vt_val (ve_all rfl c.b_all (va_cons (ve_comp ([("_law_e", 5)] : List (Str × Nat)) rfl sc__law_paired.nd (vi_items (ve_var 3)) (show BlkOk N__law_paired (defScope st__law_paired) _ _ from blkOk_by (by decide +kernel)) (fun s H C cl fp => (vg_name 5 sc__law_paired.nd)) (fun s H C cl fp => vts_nil) (fun s H C cl fp => (ve_cmp (op_eqX hr.units) (oEq_S _) (ve_tup (va_cons (ve_xatt c.xk (c.no _ (by decide)) (ve_var 5)) (va_cons (ve_xatt c.xk (c.no _ (by decide)) (ve_var 5)) va_nil))) (ve_tup (va_cons (ve_var 0) (va_cons (ve_var 1) va_nil))) rfl))) va_nil)))) (vss_one (vs_ret (ve_lst va_nil))) vss_nil) (vss_cons (vs_if (vt_cmp (op_neX hr.units) (oNe_S _) (ve_tup (va_cons (ve_xatt c.xk (c.no _ (by decide)) (ve_var 4)) (va_cons (ve_xatt c.xk (c.no _ (by decide)) (ve_var 4)) (va_cons (ve_xatt c.xk (c.no _ (by decide)) (ve_var 4)) va_nil)))) (ve_tup (va_cons (ve_var 0) (va_cons (ve_var 1) (va_cons (ve_var 2) va_nil)))) rfl) (vss_one (vs_ret (ve_lst va_nil))) vss_nil) (vss_one (vs_ret (ve_add (ve_var 3) (ve_lst (va_cons (ve_var 4) va_nil)))))))))
theorem vf__law_paired (c : Gf P w K mg base) : VF P w K mg base 3 3 "_law_paired" [] (fn__law_paired K) := .of (vn__law_paired c) (c.g _ (by decide)) (let ⟨_, F⟩ := c.d__law_paired; F.kp)
theorem vn__law_counted (c : Gf P w K mg base) : VFn P w K mg base 3 2 (He.ga K "_law_counted") [] (fn__law_counted K) := by
  obtain ⟨fd, F⟩ := c.d__law_counted
  refine vfn_of (ps := P__law_counted) (fn_ok (N := N__law_counted) F sc__law_counted fun cdv A outer s H E hr => ?_) (F.bindsN fun _ _ _ _ _ _ us hl => match us, hl with | [_, _], _ => rfl)
  have tk : Takes (bX P w K mg base N__law_counted "_law_counted" (defScope st__law_counted) (He.ga K "_law_counted") cdv A outer s H E) (WxE E) := takes_of rfl rfl rfl rfl
  have pa : PassesOwn (model P w) (bX P w K mg base N__law_counted "_law_counted" (defScope st__law_counted) (He.ga K "_law_counted") cdv A outer s H E).A (bX P w K mg base N__law_counted "_law_counted" (defScope st__law_counted) (He.ga K "_law_counted") cdv A outer s H E).env (bX P w K mg base N__law_counted "_law_counted" (defScope st__law_counted) (He.ga K "_law_counted") cdv A outer s H E).xe := passes_of rfl
  exact (vss_cons (vs_set 2 sc__law_counted.nd (ve_lst (va_cons (ve_exc (vx_BadEquation c) (hr.mono (by decide)) tk (va_cons (ve_var 0) va_nil)) (va_cons (ve_exc (vx_BrokenEquation c) (hr.mono (by decide)) tk (va_cons (ve_var 0) va_nil)) (va_cons (ve_exc (vx_NoChange c) (hr.mono (by decide)) tk (va_cons (ve_var 0) va_nil)) va_nil))))) (vss_cons (vs_set 3 sc__law_counted.nd (ve_lst (va_cons (ve_exc (vx_Ring c) (hr.mono (by decide)) tk (va_cons (ve_var 1) va_nil)) (va_cons (ve_exc (vx_BadCount c) (hr.mono (by decide)) tk (va_cons (ve_var 1) va_nil)) (va_cons (ve_exc (vx_BadRows c) (hr.mono (by decide)) tk (va_cons (ve_var 1) va_nil)) va_nil))))) (vss_cons (vs_set 4 sc__law_counted.nd (ve_exc (vx_TooMany c) (hr.mono (by decide)) tk (va_cons (ve_var 0) va_nil))) (vss_cons (vs_if (vw_or (vt_not (vt_val (ve_all rfl c.b_all (va_cons (ve_comp ([("_law_e", 5)] : List (Str × Nat)) rfl sc__law_counted.nd (vi_items (ve_var 2)) (show BlkOk N__law_counted (defScope st__law_counted) _ _ from blkOk_by (by decide +kernel)) (fun s H C cl fp => (vg_name 5 sc__law_counted.nd)) (fun s H C cl fp => vts_nil) (fun s H C cl fp => (ve_cmp (op_eqX hr.units) (oEq_S _) (ve_xatt c.xk (c.no _ (by decide)) (ve_var 5)) (ve_var 0) rfl))) va_nil)))) (vw_or1 (vt_not (vt_val (ve_all rfl c.b_all (va_cons (ve_comp ([("_law_e", 5)] : List (Str × Nat)) rfl sc__law_counted.nd (vi_items (ve_var 3)) (show BlkOk N__law_counted (defScope st__law_counted) _ _ from blkOk_by (by decide +kernel)) (fun s H C cl fp => (vg_name 5 sc__law_counted.nd)) (fun s H C cl fp => vts_nil) (fun s H C cl fp => (ve_cmp (op_eqX hr.units) (oEq_S _) (ve_xatt c.xk (c.no _ (by decide)) (ve_var 5)) (ve_var 1) rfl))) va_nil)))))).vt (vss_one (vs_ret (ve_lst va_nil))) vss_nil) (vss_one (vs_ret (ve_if (vt_cmp (op_eqX hr.units) (oEq_S _) (ve_xatt c.xk (c.no _ (by decide)) (ve_var 4)) (ve_var 0) rfl) (ve_add (ve_add (ve_var 2) (ve_var 3)) (ve_lst (va_cons (ve_var 4) va_nil))) (ve_lst va_nil))))))))
theorem vf__law_counted (c : Gf P w K mg base) : VF P w K mg base 3 2 "_law_counted" [] (fn__law_counted K) := .of (vn__law_counted c) (c.g _ (by decide)) (let ⟨_, F⟩ := c.d__law_counted; F.kp)
theorem vn__law_at_rows (c : Gf P w K mg base) : VFn P w K mg base 3 4 (He.ga K "_law_at_rows") [] (fn__law_at_rows K) := by
  obtain ⟨fd, F⟩ := c.d__law_at_rows
  refine vfn_of (ps := P__law_at_rows) (fn_ok (N := N__law_at_rows) F sc__law_at_rows fun cdv A outer s H E hr => ?_) (F.bindsN fun _ _ _ _ _ _ us hl => match us, hl with | [_, _, _, _], _ => rfl)
  have tk : Takes (bX P w K mg base N__law_at_rows "_law_at_rows" (defScope st__law_at_rows) (He.ga K "_law_at_rows") cdv A outer s H E) (WxE E) := takes_of rfl rfl rfl rfl
  have pa : PassesOwn (model P w) (bX P w K mg base N__law_at_rows "_law_at_rows" (defScope st__law_at_rows) (He.ga K "_law_at_rows") cdv A outer s H E).A (bX P w K mg base N__law_at_rows "_law_at_rows" (defScope st__law_at_rows) (He.ga K "_law_at_rows") cdv A outer s H E).env (bX P w K mg base N__law_at_rows "_law_at_rows" (defScope st__law_at_rows) (He.ga K "_law_at_rows") cdv A outer s H E).xe := passes_of rfl
  exact (vss_cons (vs_set 4 sc__law_at_rows.nd (ve_lst (va_cons (ve_exc (vx_NotNatural c) (hr.mono (by decide)) tk (va_cons (ve_var 0) (va_cons (ve_var 1) va_nil))) (va_cons (ve_exc (vx_NotClosed c) (hr.mono (by decide)) tk (va_cons (ve_var 0) (va_cons (ve_var 1) va_nil))) va_nil)))) (vss_cons (vs_set 5 sc__law_at_rows.nd (ve_exc (vx_BadCells c) (hr.mono (by decide)) tk (va_cons (ve_var 0) va_nil))) (vss_cons (vs_set 6 sc__law_at_rows.nd (ve_listC c.b_list (va_cons (ve_var 3) va_nil))) (vss_cons (vs_set 7 sc__law_at_rows.nd (ve_exc (vx_Clash c) (hr.mono (by decide)) tk (va_cons (ve_var 2) (va_cons (ve_var 1) (va_cons (ve_add (ve_var 1) ve_int) (va_cons (ve_var 6) va_nil)))))) (vss_cons (vs_expr (ve_append (ve_var 6) (va_cons ve_int va_nil))) (vss_cons (vs_if (vw_or (vt_not (vt_val (ve_all rfl c.b_all (va_cons (ve_comp ([("_law_e", 8)] : List (Str × Nat)) rfl sc__law_at_rows.nd (vi_items (ve_var 4)) (show BlkOk N__law_at_rows (defScope st__law_at_rows) _ _ from blkOk_by (by decide +kernel)) (fun s H C cl fp => (vg_name 8 sc__law_at_rows.nd)) (fun s H C cl fp => vts_nil) (fun s H C cl fp => (ve_cmp (op_eqX hr.units) (oEq_S _) (ve_tup (va_cons (ve_xatt c.xk (c.no _ (by decide)) (ve_var 8)) (va_cons (ve_xatt c.xk (c.no _ (by decide)) (ve_var 8)) va_nil))) (ve_tup (va_cons (ve_var 0) (va_cons (ve_var 1) va_nil))) rfl))) va_nil)))) (vw_or1 (vt_cmp (op_neX hr.units) (oNe_S _) (ve_xatt c.xk (c.no _ (by decide)) (ve_var 5)) (ve_var 0) rfl))).vt (vss_one (vs_ret (ve_lst va_nil))) vss_nil) (vss_cons (vs_if (vt_cmp (op_neX hr.units) (oNe_S _) (ve_tup (va_cons (ve_xatt c.xk (c.no _ (by decide)) (ve_var 7)) (va_cons (ve_xatt c.xk (c.no _ (by decide)) (ve_var 7)) (va_cons (ve_xatt c.xk (c.no _ (by decide)) (ve_var 7)) (va_cons (ve_xatt c.xk (c.no _ (by decide)) (ve_var 7)) va_nil))))) (ve_tup (va_cons (ve_var 2) (va_cons (ve_var 1) (va_cons (ve_add (ve_var 1) ve_int) (va_cons (ve_var 3) va_nil))))) rfl) (vss_one (vs_ret (ve_lst va_nil))) vss_nil) (vss_one (vs_ret (ve_add (ve_var 4) (ve_lst (va_cons (ve_var 5) (va_cons (ve_var 7) va_nil)))))))))))))
theorem vf__law_at_rows (c : Gf P w K mg base) : VF P w K mg base 3 4 "_law_at_rows" [] (fn__law_at_rows K) := .of (vn__law_at_rows c) (c.g _ (by decide)) (let ⟨_, F⟩ := c.d__law_at_rows; F.kp)
theorem vn__law_plain (c : Gf P w K mg base) : VFn P w K mg base 3 0 (He.ga K "_law_plain") [] (fn__law_plain K) := by
  obtain ⟨fd, F⟩ := c.d__law_plain
  refine vfn_of (ps := P__law_plain) (fn_ok (N := N__law_plain) F sc__law_plain fun cdv A outer s H E hr => ?_) (F.bindsN fun _ _ _ _ _ _ us hl => match us, hl with | [], _ => rfl)
  have tk : Takes (bX P w K mg base N__law_plain "_law_plain" (defScope st__law_plain) (He.ga K "_law_plain") cdv A outer s H E) (WxE E) := takes_of rfl rfl rfl rfl
  have pa : PassesOwn (model P w) (bX P w K mg base N__law_plain "_law_plain" (defScope st__law_plain) (He.ga K "_law_plain") cdv A outer s H E).A (bX P w K mg base N__law_plain "_law_plain" (defScope st__law_plain) (He.ga K "_law_plain") cdv A outer s H E).env (bX P w K mg base N__law_plain "_law_plain" (defScope st__law_plain) (He.ga K "_law_plain") cdv A outer s H E).xe := passes_of rfl
  exact (vss_cons (vs_set 0 sc__law_plain.nd (ve_lst (va_cons (ve_exc0 (vx_BadPath c) (hr.mono (by decide)) tk) (va_cons (ve_exc0 (vx_MixedSchemas c) (hr.mono (by decide)) tk) (va_cons (ve_exc0 (vx_MixedInstances c) (hr.mono (by decide)) tk) (va_cons (ve_exc0 (vx_NotFitting c) (hr.mono (by decide)) tk) (va_cons (ve_exc0 (vx_BadHolder c) (hr.mono (by decide)) tk) (va_cons (ve_exc0 (vx_BadFamily c) (hr.mono (by decide)) tk) va_nil)))))))) (vss_one (vs_ret (ve_add (ve_var 0) (ve_lst (va_cons (ve_exc0 (vx_UnlikeMarks c) (hr.mono (by decide)) tk) (va_cons (ve_exc0 (vx_NothingDone c) (hr.mono (by decide)) tk) (va_cons (ve_exc0 (vx_Stale c) (hr.mono (by decide)) tk) (va_cons (ve_exc0 (vx_BadItem c) (hr.mono (by decide)) tk) va_nil)))))))))
theorem vf__law_plain (c : Gf P w K mg base) : VF P w K mg base 3 0 "_law_plain" [] (fn__law_plain K) := .of (vn__law_plain c) (c.g _ (by decide)) (let ⟨_, F⟩ := c.d__law_plain; F.kp)
theorem vn__law_classes (c : Gf P w K mg base) : VFn P w K mg base 1 1 (He.ga K "_law_classes") [] (fn__law_classes K) := by
  obtain ⟨fd, F⟩ := c.d__law_classes
  refine vfn_of (ps := P__law_classes) (fn_ok (N := N__law_classes) F sc__law_classes fun cdv A outer s H E hr => ?_) (F.bindsN fun _ _ _ _ _ _ us hl => match us, hl with | [_], _ => rfl)
  have tk : Takes (bX P w K mg base N__law_classes "_law_classes" (defScope st__law_classes) (He.ga K "_law_classes") cdv A outer s H E) (WxE E) := takes_of rfl rfl rfl rfl
  have pa : PassesOwn (model P w) (bX P w K mg base N__law_classes "_law_classes" (defScope st__law_classes) (He.ga K "_law_classes") cdv A outer s H E).A (bX P w K mg base N__law_classes "_law_classes" (defScope st__law_classes) (He.ga K "_law_classes") cdv A outer s H E).env (bX P w K mg base N__law_classes "_law_classes" (defScope st__law_classes) (He.ga K "_law_classes") cdv A outer s H E).xe := passes_of rfl
  exact (vss_cons (vs_set 1 sc__law_classes.nd (ve_lst (va_cons (ve_isX (v := (.ref (He.ga K "BadName"))) c.xk c.is_BadName (fun _ h => h) c.b_isinstance (ve_var 0) (ve_cls (c.g _ (by decide)))) (va_cons (ve_isX (v := (.ref (He.ga K "TwiceNamed"))) c.xk c.is_TwiceNamed (fun _ h => h) c.b_isinstance (ve_var 0) (ve_cls (c.g _ (by decide)))) (va_cons (ve_isX (v := (.ref (He.ga K "NoImage"))) c.xk c.is_NoImage (fun _ h => h) c.b_isinstance (ve_var 0) (ve_cls (c.g _ (by decide)))) (va_cons (ve_isX (v := (.ref (He.ga K "BadImage"))) c.xk c.is_BadImage (fun _ h => h) c.b_isinstance (ve_var 0) (ve_cls (c.g _ (by decide)))) (va_cons (ve_isX (v := (.ref (He.ga K "BadPair"))) c.xk c.is_BadPair (fun _ h => h) c.b_isinstance (ve_var 0) (ve_cls (c.g _ (by decide)))) (va_cons (ve_isX (v := (.ref (He.ga K "BadProduct"))) c.xk c.is_BadProduct (fun _ h => h) c.b_isinstance (ve_var 0) (ve_cls (c.g _ (by decide)))) (va_cons (ve_isX (v := (.ref (He.ga K "NotBehind"))) c.xk c.is_NotBehind (fun _ h => h) c.b_isinstance (ve_var 0) (ve_cls (c.g _ (by decide)))) (va_cons (ve_isX (v := (.ref (He.ga K "NotKept"))) c.xk c.is_NotKept (fun _ h => h) c.b_isinstance (ve_var 0) (ve_cls (c.g _ (by decide)))) (va_cons (ve_isX (v := (.ref (He.ga K "NotGrouped"))) c.xk c.is_NotGrouped (fun _ h => h) c.b_isinstance (ve_var 0) (ve_cls (c.g _ (by decide)))) (va_cons (ve_isX (v := (.ref (He.ga K "BadEquation"))) c.xk c.is_BadEquation (fun _ h => h) c.b_isinstance (ve_var 0) (ve_cls (c.g _ (by decide)))) (va_cons (ve_isX (v := (.ref (He.ga K "BrokenEquation"))) c.xk c.is_BrokenEquation (fun _ h => h) c.b_isinstance (ve_var 0) (ve_cls (c.g _ (by decide)))) (va_cons (ve_isX (v := (.ref (He.ga K "NoChange"))) c.xk c.is_NoChange (fun _ h => h) c.b_isinstance (ve_var 0) (ve_cls (c.g _ (by decide)))) (va_cons (ve_isX (v := (.ref (He.ga K "Ring"))) c.xk c.is_Ring (fun _ h => h) c.b_isinstance (ve_var 0) (ve_cls (c.g _ (by decide)))) (va_cons (ve_isX (v := (.ref (He.ga K "BadCount"))) c.xk c.is_BadCount (fun _ h => h) c.b_isinstance (ve_var 0) (ve_cls (c.g _ (by decide)))) (va_cons (ve_isX (v := (.ref (He.ga K "BadRows"))) c.xk c.is_BadRows (fun _ h => h) c.b_isinstance (ve_var 0) (ve_cls (c.g _ (by decide)))) (va_cons (ve_isX (v := (.ref (He.ga K "TooMany"))) c.xk c.is_TooMany (fun _ h => h) c.b_isinstance (ve_var 0) (ve_cls (c.g _ (by decide)))) (va_cons (ve_isX (v := (.ref (He.ga K "NotNatural"))) c.xk c.is_NotNatural (fun _ h => h) c.b_isinstance (ve_var 0) (ve_cls (c.g _ (by decide)))) (va_cons (ve_isX (v := (.ref (He.ga K "NotClosed"))) c.xk c.is_NotClosed (fun _ h => h) c.b_isinstance (ve_var 0) (ve_cls (c.g _ (by decide)))) (va_cons (ve_isX (v := (.ref (He.ga K "BadCells"))) c.xk c.is_BadCells (fun _ h => h) c.b_isinstance (ve_var 0) (ve_cls (c.g _ (by decide)))) (va_cons (ve_isX (v := (.ref (He.ga K "Clash"))) c.xk c.is_Clash (fun _ h => h) c.b_isinstance (ve_var 0) (ve_cls (c.g _ (by decide)))) (va_cons (ve_isX (v := (.ref (He.ga K "BadPath"))) c.xk c.is_BadPath (fun _ h => h) c.b_isinstance (ve_var 0) (ve_cls (c.g _ (by decide)))) (va_cons (ve_isX (v := (.ref (He.ga K "MixedSchemas"))) c.xk c.is_MixedSchemas (fun _ h => h) c.b_isinstance (ve_var 0) (ve_cls (c.g _ (by decide)))) (va_cons (ve_isX (v := (.ref (He.ga K "MixedInstances"))) c.xk c.is_MixedInstances (fun _ h => h) c.b_isinstance (ve_var 0) (ve_cls (c.g _ (by decide)))) (va_cons (ve_isX (v := (.ref (He.ga K "NotFitting"))) c.xk c.is_NotFitting (fun _ h => h) c.b_isinstance (ve_var 0) (ve_cls (c.g _ (by decide)))) (va_cons (ve_isX (v := (.ref (He.ga K "BadHolder"))) c.xk c.is_BadHolder (fun _ h => h) c.b_isinstance (ve_var 0) (ve_cls (c.g _ (by decide)))) (va_cons (ve_isX (v := (.ref (He.ga K "BadFamily"))) c.xk c.is_BadFamily (fun _ h => h) c.b_isinstance (ve_var 0) (ve_cls (c.g _ (by decide)))) (va_cons (ve_isX (v := (.ref (He.ga K "UnlikeMarks"))) c.xk c.is_UnlikeMarks (fun _ h => h) c.b_isinstance (ve_var 0) (ve_cls (c.g _ (by decide)))) (va_cons (ve_isX (v := (.ref (He.ga K "NothingDone"))) c.xk c.is_NothingDone (fun _ h => h) c.b_isinstance (ve_var 0) (ve_cls (c.g _ (by decide)))) (va_cons (ve_isX (v := (.ref (He.ga K "Stale"))) c.xk c.is_Stale (fun _ h => h) c.b_isinstance (ve_var 0) (ve_cls (c.g _ (by decide)))) (va_cons (ve_isX (v := (.ref (He.ga K "BadItem"))) c.xk c.is_BadItem (fun _ h => h) c.b_isinstance (ve_var 0) (ve_cls (c.g _ (by decide)))) (va_cons (ve_isX (v := (.ref (He.ga K "UnknownKind"))) c.xk c.is_UnknownKind (fun _ h => h) c.b_isinstance (ve_var 0) (ve_cls (c.g _ (by decide)))) (va_cons (ve_isX (v := (.ref (He.ga K "UnknownColumn"))) c.xk c.is_UnknownColumn (fun _ h => h) c.b_isinstance (ve_var 0) (ve_cls (c.g _ (by decide)))) (va_cons (ve_isX (v := (.ref (He.ga K "UnknownName"))) c.xk c.is_UnknownName (fun _ h => h) c.b_isinstance (ve_var 0) (ve_cls (c.g _ (by decide)))) (va_cons (ve_isX (v := (.ref (He.ga K "NoView"))) c.xk c.is_NoView (fun _ h => h) c.b_isinstance (ve_var 0) (ve_cls (c.g _ (by decide)))) (va_cons (ve_isX (v := (.ref (He.ga K "NoRow"))) c.xk c.is_NoRow (fun _ h => h) c.b_isinstance (ve_var 0) (ve_cls (c.g _ (by decide)))) va_nil))))))))))))))))))))))))))))))))))))) (vss_one (vs_ret (ve_comp ([("_law_k", 2)] : List (Str × Nat)) rfl sc__law_classes.nd (vi_range1 c.b_range (va_cons (ve_len c.b_len (va_cons (ve_var 1) va_nil)) va_nil)) (show BlkOk N__law_classes (defScope st__law_classes) _ _ from blkOk_by (by decide +kernel)) (fun s H C cl fp => (vg_name 2 sc__law_classes.nd)) (fun s H C cl fp => (vts_one (vt_val (ve_ix (ix_all (u1 hr)) (oIx_S _) (ve_var 1) (ve_var 2))))) (fun s H C cl fp => (ve_var 2))))))
theorem vf__law_classes (c : Gf P w K mg base) : VF P w K mg base 1 1 "_law_classes" [] (fn__law_classes K) := .of (vn__law_classes c) (c.g _ (by decide)) (let ⟨_, F⟩ := c.d__law_classes; F.kp)
theorem vn__law_word (c : Gf P w K mg base) : VFn P w K mg base 2 1 (He.ga K "_law_word") [] (fn__law_word K) := by
  obtain ⟨fd, F⟩ := c.d__law_word
  refine vfn_of (ps := P__law_word) (fn_ok (N := N__law_word) F sc__law_word fun cdv A outer s H E hr => ?_) (F.bindsN fun _ _ _ _ _ _ us hl => match us, hl with | [_], _ => rfl)
  have tk : Takes (bX P w K mg base N__law_word "_law_word" (defScope st__law_word) (He.ga K "_law_word") cdv A outer s H E) (WxE E) := takes_of rfl rfl rfl rfl
  have pa : PassesOwn (model P w) (bX P w K mg base N__law_word "_law_word" (defScope st__law_word) (He.ga K "_law_word") cdv A outer s H E).A (bX P w K mg base N__law_word "_law_word" (defScope st__law_word) (He.ga K "_law_word") cdv A outer s H E).env (bX P w K mg base N__law_word "_law_word" (defScope st__law_word) (He.ga K "_law_word") cdv A outer s H E).xe := passes_of rfl
  exact (vss_one (vs_ret (ve_add (ve_ix (ix_all (u1 hr)) (oIx_S _) ve_str (ve_call (vf__law_pick c) (hr.mono (by decide)) tk (va_cons (ve_var 0) (va_cons ve_int va_nil)))) (ve_callStr c.b_str (va_cons (ve_call (vf__law_pick c) (hr.mono (by decide)) tk (va_cons (ve_var 0) (va_cons (ve_pow ve_int ve_int) va_nil))) va_nil)))))
theorem vf__law_word (c : Gf P w K mg base) : VF P w K mg base 2 1 "_law_word" [] (fn__law_word K) := .of (vn__law_word c) (c.g _ (by decide)) (let ⟨_, F⟩ := c.d__law_word; F.kp)
theorem vl_law (c : Gf P w K mg base) {fd : FuncData} (F : FunD K "law" "law" (defArgs st_law) (defBody st_law) (defScope st_law) [] [] (He.ga K "law") fd) : FnOk P w K mg base (L2.CX P w) 4 (He.ga K "law") fd P_law (spOf 1 (fn_law K)) := by
  refine fn_ok (N := N_law) F sc_law fun cdv A outer s H E hr => ?_
  have tk : Takes (bX P w K mg base N_law "law" (defScope st_law) (He.ga K "law") cdv A outer s H E) (WxE E) := takes_of rfl rfl rfl rfl
  have pa : PassesOwn (model P w) (bX P w K mg base N_law "law" (defScope st_law) (He.ga K "law") cdv A outer s H E).A (bX P w K mg base N_law "law" (defScope st_law) (He.ga K "law") cdv A outer s H E).env (bX P w K mg base N_law "law" (defScope st_law) (He.ga K "law") cdv A outer s H E).xe := passes_of rfl
  exact (vss_cons (vs_set 1 sc_law.nd (ve_call (vf__law_source c) (hr.mono (by decide)) tk (va_cons (ve_var 0) va_nil))) (vss_cons (vs_setComp 2 ([("_law_k", 3)] : List (Str × Nat)) rfl sc_law.nd (vi_range1 c.b_range (va_cons ve_int va_nil)) (show BlkOk N_law (defScope st_law) _ _ from blkOk_by (by decide +kernel)) (fun s H C cl fp => (vg_name 3 sc_law.nd)) (fun s H C cl fp => vts_nil) (fun s H C cl fp => (ve_call (vf__law_word c) (hr.mono (by decide)) (takes_W0 _) (va_cons (ve_var 1) va_nil)))) (vss_cons (vs_set 4 sc_law.nd (ve_call (vf__law_pick c) (hr.mono (by decide)) tk (va_cons (ve_var 1) (va_cons (ve_pow ve_int ve_int) va_nil)))) (vss_cons (vs_set 5 sc_law.nd (ve_lst (va_cons (ve_tup (va_cons ve_str (va_cons (ve_ix (ix_all (u1 hr)) (oIx_S _) (ve_var 2) ve_int) (va_cons (ve_var 4) va_nil)))) va_nil))) (vss_cons (vs_set 6 sc_law.nd (ve_add (ve_call (vf__law_named c) (hr.mono (by decide)) tk (va_cons (ve_ix (ix_all (u1 hr)) (oIx_S _) (ve_var 2) ve_int) va_nil)) (ve_call (vf__law_paired c) (hr.mono (by decide)) tk (va_cons (ve_ix (ix_all (u1 hr)) (oIx_S _) (ve_var 2) ve_int) (va_cons (ve_ix (ix_all (u1 hr)) (oIx_S _) (ve_var 2) ve_int) (va_cons (ve_ix (ix_all (u1 hr)) (oIx_S _) (ve_var 2) ve_int) va_nil)))))) (vss_cons (vs_set 6 sc_law.nd (ve_add (ve_var 6) (ve_call (vf__law_counted c) (hr.mono (by decide)) tk (va_cons (ve_var 4) (va_cons (ve_ix (ix_all (u1 hr)) (oIx_S _) (ve_var 2) ve_int) va_nil))))) (vss_cons (vs_set 6 sc_law.nd (ve_add (ve_add (ve_var 6) (ve_call (vf__law_at_rows c) (hr.mono (by decide)) tk (va_cons (ve_ix (ix_all (u1 hr)) (oIx_S _) (ve_var 2) ve_int) (va_cons (ve_var 4) (va_cons (ve_ix (ix_all (u1 hr)) (oIx_S _) (ve_var 2) ve_int) (va_cons (ve_var 5) va_nil)))))) (ve_call0 (vf__law_plain c) (hr.mono (by decide)) tk))) (vss_cons (vs_set 7 sc_law.nd (ve_call (vf__law_missing c) (hr.mono (by decide)) tk (va_cons (ve_ix (ix_all (u1 hr)) (oIx_S _) (ve_var 2) ve_int) (va_cons (ve_ix (ix_all (u1 hr)) (oIx_S _) (ve_var 2) ve_int) (va_cons (ve_var 4) va_nil))))) (vss_cons (vs_if (vw_or (vt_cmp (op_neX hr.units) (oNe_S _) (ve_len c.b_len (va_cons (ve_var 6) va_nil)) ve_int rfl) (vw_or1 (vt_cmp (op_neX hr.units) (oNe_S _) (ve_len c.b_len (va_cons (ve_var 7) va_nil)) ve_int rfl))).vt (vss_one (vs_ret ve_bl)) vss_nil) (vss_cons (vs_if (vt_cmp (op_neX hr.units) (oNe_S _) (ve_comp ([("_law_e", 8)] : List (Str × Nat)) rfl sc_law.nd (vi_items (ve_add (ve_var 6) (ve_var 7))) (show BlkOk N_law (defScope st_law) _ _ from blkOk_by (by decide +kernel)) (fun s H C cl fp => (vg_name 8 sc_law.nd)) (fun s H C cl fp => vts_nil) (fun s H C cl fp => (ve_call (vf__law_classes c) (hr.mono (by decide)) (takes_W0 _) (va_cons (ve_var 8) va_nil)))) (ve_comp ([("_law_k", 3)] : List (Str × Nat)) rfl sc_law.nd (vi_range1 c.b_range (va_cons ve_int va_nil)) (show BlkOk N_law (defScope st_law) _ _ from blkOk_by (by decide +kernel)) (fun s H C cl fp => (vg_name 3 sc_law.nd)) (fun s H C cl fp => vts_nil) (fun s H C cl fp => (ve_lst (va_cons (ve_var 3) va_nil)))) rfl) (vss_one (vs_ret ve_bl)) vss_nil) (vss_cons (vs_for [8] pa rfl (vi_items (ve_var 6)) (vg_name 8 sc_law.nd) (vss_one (vs_if (vw_or (vt_not (vt_val (ve_isX (v := (.ty "ValueError")) c.xk c.is_ValueError (fun _ h => h) c.b_isinstance (ve_var 8) (ve_ty (v := .ty "ValueError") (u := .type "ValueError") (by rfl) c.b_ValueError PyProof.Rows.Boot.«ValueError» (by rfl))))) (vw_or (vt_not (vt_val (ve_isX (v := (.ref (He.ga K "SchemawaysError"))) c.xk c.is_SchemawaysError (fun _ h => h) c.b_isinstance (ve_var 8) (ve_cls (c.g _ (by decide)))))) (vw_or1 (vt_val (ve_isX (v := (.ref (He.ga K "NameMissing"))) c.xk c.is_NameMissing (fun _ h => h) c.b_isinstance (ve_var 8) (ve_cls (c.g _ (by decide)))))))).vt (vss_one (vs_ret ve_bl)) vss_nil))) (vss_cons (vs_for [8] pa rfl (vi_items (ve_var 7)) (vg_name 8 sc_law.nd) (vss_one (vs_if (vw_or (vt_not (vt_val (ve_isX (v := (.ty "LookupError")) c.xk c.is_LookupError (fun _ h => h) c.b_isinstance (ve_var 8) (ve_ty (v := .ty "LookupError") (u := .type "LookupError") (by rfl) c.b_LookupError PyProof.Rows.Boot.«LookupError» (by rfl))))) (vw_or (vt_not (vt_val (ve_isX (v := (.ref (He.ga K "NameMissing"))) c.xk c.is_NameMissing (fun _ h => h) c.b_isinstance (ve_var 8) (ve_cls (c.g _ (by decide)))))) (vw_or1 (vt_val (ve_isX (v := (.ref (He.ga K "SchemawaysError"))) c.xk c.is_SchemawaysError (fun _ h => h) c.b_isinstance (ve_var 8) (ve_cls (c.g _ (by decide)))))))).vt (vss_one (vs_ret ve_bl)) vss_nil))) (vss_one (vs_ret ve_bl))))))))))))))
end
end L91

namespace L91
open PySem PySem.Spec PyProof.Rows L2 VL NdefX
theorem hsplit (x : Str) (hx : x ∈ clsNames) : x ∈ hve ∨ x ∈ hle := by
  have e : clsNames = hve ++ hle := by decide +kernel
  rw [e] at hx
  exact List.mem_append.mp hx
theorem facts {w : World} {K : PySem.W.Frag} {h base : Heap} {mg : Str → Option Value} (X : K.In h) (G : h.Ns mainGlobals mg) (c0 : obsX hfa hfn hxb hxs K = valX hfn hxs) : Gf PySem.Challenge.pw_schemaways_k91_errors w K mg base := by
  obtain ⟨c, cb, cx⟩ := saysX c0
  unfold hxb at cb
  obtain ⟨b1, cb⟩ := He.ba cb
  obtain ⟨b2, cb⟩ := He.ba cb
  obtain ⟨b3, cb⟩ := He.ba cb
  obtain ⟨b4, cb⟩ := He.ba cb
  obtain ⟨b5, cb⟩ := He.ba cb
  obtain ⟨b6, cb⟩ := He.ba cb
  obtain ⟨b7, b8⟩ := He.ba cb
  have fx : ∀ f ∈ hfa, f.ok K = true := List.all_eq_true.mp (He.ba (show ((hfa.all fun f => f.ok K) && hfn.all fun d => d.ok K) = true from congrArg (fun z : He.AlD => z.1) c)).1
  have gl : ∀ x ∈ gloNames, mg x = some (.ref (He.ga K x)) := fun x hx => He.glo_ok X G (fx _ (List.mem_append_left _ (List.mem_map_of_mem hx)))
  have fr : ∀ x ∈ (["LookupError", "ValueError", "abs", "all", "int", "isinstance", "len", "list", "range", "str", "super"] : List Str), mg x = none := fun x hx => He.free_ok X G (fx _ (List.mem_append_right _ (List.mem_map_of_mem hx)))
  have ve : ∀ x ∈ hve, _ := fun x hx => exf_VE (C := He.ga K x) (List.all_eq_true.mp b4 x hx) b2
  have le : ∀ x ∈ hle, _ := fun x hx => exf_LE (C := He.ga K x) (List.all_eq_true.mp b5 x hx) b2
  have iw : ∀ p ∈ hown, _ := fun p hp => isB_ok (List.all_eq_true.mp b6 p hp)
  have ib : ∀ p ∈ hblt, _ := fun p hp => isB_ok (List.all_eq_true.mp b7 p hp)
  have ii : ∀ d ∈ hxs, d.x ∈ clsNames → _ := fun d hd hx => ini_ok (P := PySem.Challenge.pw_schemaways_k91_errors) (cx d hd) (List.all_eq_true.mp b8 d.x hx)
  exact {
    top := by decide +kernel
    xk := xks_of b1 b2 (fun x hx => (hsplit x hx).elim (fun h => ⟨_, _, _, _, _, ve x h⟩) (fun h => ⟨_, _, _, _, _, le x h⟩))
    no := noB_ok b3
    g := gl
    b_LookupError := fr _ (by decide)
    b_ValueError := fr _ (by decide)
    b_abs := fr _ (by decide)
    b_all := fr _ (by decide)
    b_int := fr _ (by decide)
    b_isinstance := fr _ (by decide)
    b_len := fr _ (by decide)
    b_list := fr _ (by decide)
    b_range := fr _ (by decide)
    b_str := fr _ (by decide)
    b_super := fr _ (by decide)
    is_BadName := iw _ (List.mem_of_getElem? (i := 0) rfl)
    is_TwiceNamed := iw _ (List.mem_of_getElem? (i := 1) rfl)
    is_NoImage := iw _ (List.mem_of_getElem? (i := 2) rfl)
    is_BadImage := iw _ (List.mem_of_getElem? (i := 3) rfl)
    is_BadPair := iw _ (List.mem_of_getElem? (i := 4) rfl)
    is_BadProduct := iw _ (List.mem_of_getElem? (i := 5) rfl)
    is_NotBehind := iw _ (List.mem_of_getElem? (i := 6) rfl)
    is_NotKept := iw _ (List.mem_of_getElem? (i := 7) rfl)
    is_NotGrouped := iw _ (List.mem_of_getElem? (i := 8) rfl)
    is_BadEquation := iw _ (List.mem_of_getElem? (i := 9) rfl)
    is_BrokenEquation := iw _ (List.mem_of_getElem? (i := 10) rfl)
    is_NoChange := iw _ (List.mem_of_getElem? (i := 11) rfl)
    is_Ring := iw _ (List.mem_of_getElem? (i := 12) rfl)
    is_BadCount := iw _ (List.mem_of_getElem? (i := 13) rfl)
    is_BadRows := iw _ (List.mem_of_getElem? (i := 14) rfl)
    is_TooMany := iw _ (List.mem_of_getElem? (i := 15) rfl)
    is_NotNatural := iw _ (List.mem_of_getElem? (i := 16) rfl)
    is_NotClosed := iw _ (List.mem_of_getElem? (i := 17) rfl)
    is_BadCells := iw _ (List.mem_of_getElem? (i := 18) rfl)
    is_Clash := iw _ (List.mem_of_getElem? (i := 19) rfl)
    is_BadPath := iw _ (List.mem_of_getElem? (i := 20) rfl)
    is_MixedSchemas := iw _ (List.mem_of_getElem? (i := 21) rfl)
    is_MixedInstances := iw _ (List.mem_of_getElem? (i := 22) rfl)
    is_NotFitting := iw _ (List.mem_of_getElem? (i := 23) rfl)
    is_BadHolder := iw _ (List.mem_of_getElem? (i := 24) rfl)
    is_BadFamily := iw _ (List.mem_of_getElem? (i := 25) rfl)
    is_UnlikeMarks := iw _ (List.mem_of_getElem? (i := 26) rfl)
    is_NothingDone := iw _ (List.mem_of_getElem? (i := 27) rfl)
    is_Stale := iw _ (List.mem_of_getElem? (i := 28) rfl)
    is_BadItem := iw _ (List.mem_of_getElem? (i := 29) rfl)
    is_UnknownKind := iw _ (List.mem_of_getElem? (i := 30) rfl)
    is_UnknownColumn := iw _ (List.mem_of_getElem? (i := 31) rfl)
    is_UnknownName := iw _ (List.mem_of_getElem? (i := 32) rfl)
    is_NoView := iw _ (List.mem_of_getElem? (i := 33) rfl)
    is_NoRow := iw _ (List.mem_of_getElem? (i := 34) rfl)
    is_LookupError := ib _ (List.mem_of_getElem? (i := 0) rfl)
    is_NameMissing := iw _ (List.mem_of_getElem? (i := 35) rfl)
    is_SchemawaysError := iw _ (List.mem_of_getElem? (i := 36) rfl)
    is_ValueError := ib _ (List.mem_of_getElem? (i := 1) rfl)
    ef_BadName := ve _ (by decide)
    if_BadName := ii _ (List.mem_of_getElem? (i := 0) rfl) (by decide)
    ef_TwiceNamed := ve _ (by decide)
    if_TwiceNamed := ii _ (List.mem_of_getElem? (i := 1) rfl) (by decide)
    ef_NoImage := ve _ (by decide)
    if_NoImage := ii _ (List.mem_of_getElem? (i := 2) rfl) (by decide)
    ef_BadImage := ve _ (by decide)
    if_BadImage := ii _ (List.mem_of_getElem? (i := 3) rfl) (by decide)
    ef_BadPair := ve _ (by decide)
    if_BadPair := ii _ (List.mem_of_getElem? (i := 4) rfl) (by decide)
    ef_BadProduct := ve _ (by decide)
    if_BadProduct := ii _ (List.mem_of_getElem? (i := 5) rfl) (by decide)
    ef_NotBehind := ve _ (by decide)
    if_NotBehind := ii _ (List.mem_of_getElem? (i := 6) rfl) (by decide)
    ef_NotKept := ve _ (by decide)
    if_NotKept := ii _ (List.mem_of_getElem? (i := 7) rfl) (by decide)
    ef_NotGrouped := ve _ (by decide)
    if_NotGrouped := ii _ (List.mem_of_getElem? (i := 8) rfl) (by decide)
    ef_BadEquation := ve _ (by decide)
    if_BadEquation := ii _ (List.mem_of_getElem? (i := 9) rfl) (by decide)
    ef_BrokenEquation := ve _ (by decide)
    if_BrokenEquation := ii _ (List.mem_of_getElem? (i := 10) rfl) (by decide)
    ef_NoChange := ve _ (by decide)
    if_NoChange := ii _ (List.mem_of_getElem? (i := 11) rfl) (by decide)
    ef_Ring := ve _ (by decide)
    if_Ring := ii _ (List.mem_of_getElem? (i := 12) rfl) (by decide)
    ef_BadCount := ve _ (by decide)
    if_BadCount := ii _ (List.mem_of_getElem? (i := 13) rfl) (by decide)
    ef_BadRows := ve _ (by decide)
    if_BadRows := ii _ (List.mem_of_getElem? (i := 14) rfl) (by decide)
    ef_TooMany := ve _ (by decide)
    if_TooMany := ii _ (List.mem_of_getElem? (i := 15) rfl) (by decide)
    ef_NotNatural := ve _ (by decide)
    if_NotNatural := ii _ (List.mem_of_getElem? (i := 16) rfl) (by decide)
    ef_NotClosed := ve _ (by decide)
    if_NotClosed := ii _ (List.mem_of_getElem? (i := 17) rfl) (by decide)
    ef_BadCells := ve _ (by decide)
    if_BadCells := ii _ (List.mem_of_getElem? (i := 18) rfl) (by decide)
    ef_Clash := ve _ (by decide)
    if_Clash := ii _ (List.mem_of_getElem? (i := 19) rfl) (by decide)
    ef_BadPath := ve _ (by decide)
    if_BadPath := ii _ (List.mem_of_getElem? (i := 20) rfl) (by decide)
    ef_MixedSchemas := ve _ (by decide)
    if_MixedSchemas := ii _ (List.mem_of_getElem? (i := 21) rfl) (by decide)
    ef_MixedInstances := ve _ (by decide)
    if_MixedInstances := ii _ (List.mem_of_getElem? (i := 22) rfl) (by decide)
    ef_NotFitting := ve _ (by decide)
    if_NotFitting := ii _ (List.mem_of_getElem? (i := 23) rfl) (by decide)
    ef_BadHolder := ve _ (by decide)
    if_BadHolder := ii _ (List.mem_of_getElem? (i := 24) rfl) (by decide)
    ef_BadFamily := ve _ (by decide)
    if_BadFamily := ii _ (List.mem_of_getElem? (i := 25) rfl) (by decide)
    ef_UnlikeMarks := ve _ (by decide)
    if_UnlikeMarks := ii _ (List.mem_of_getElem? (i := 26) rfl) (by decide)
    ef_NothingDone := ve _ (by decide)
    if_NothingDone := ii _ (List.mem_of_getElem? (i := 27) rfl) (by decide)
    ef_Stale := ve _ (by decide)
    if_Stale := ii _ (List.mem_of_getElem? (i := 28) rfl) (by decide)
    ef_BadItem := ve _ (by decide)
    if_BadItem := ii _ (List.mem_of_getElem? (i := 29) rfl) (by decide)
    ef_UnknownKind := le _ (by decide)
    if_UnknownKind := ii _ (List.mem_of_getElem? (i := 30) rfl) (by decide)
    ef_UnknownColumn := le _ (by decide)
    if_UnknownColumn := ii _ (List.mem_of_getElem? (i := 31) rfl) (by decide)
    ef_UnknownName := le _ (by decide)
    if_UnknownName := ii _ (List.mem_of_getElem? (i := 32) rfl) (by decide)
    ef_NoView := le _ (by decide)
    if_NoView := ii _ (List.mem_of_getElem? (i := 33) rfl) (by decide)
    ef_NoRow := le _ (by decide)
    if_NoRow := ii _ (List.mem_of_getElem? (i := 34) rfl) (by decide)
    d__law_source := c.def_ 0 rfl
    d__law_pick := c.def_ 1 rfl
    d__law_named := c.def_ 2 rfl
    d__law_missing := c.def_ 3 rfl
    d__law_paired := c.def_ 4 rfl
    d__law_counted := c.def_ 5 rfl
    d__law_at_rows := c.def_ 6 rfl
    d__law_plain := c.def_ 7 rfl
    d__law_classes := c.def_ 8 rfl
    d__law_word := c.def_ 9 rfl
    d_law := c.def_ 10 rfl
  }
end L91

namespace L91
open PySem PySem.Spec PyProof.Rows L2 VL NdefX

abbrev ks (x : Str) : Key := .inr x
def iv (x : Int) : AV := .val (.int x)
def SrcC (left mixed turn : Int) (j : Nat) : Cell := .dK [(ks "cells", .cell j), (ks "left", .val (.int left)), (ks "mixed", .val (.int mixed)), (ks "turn", .val (.int turn))]
def SrcX (S : Store) (i j : Nat) (left mixed turn : Int) (xs : List Int) : Prop := i ≠ j ∧ S[i]? = some (SrcC left mixed turn j) ∧ S[j]? = some (.lst (xs.map iv))
theorem ne_kk {a b : Str} (h : (a == b) = false) : ((Sum.inr a : Key) = Sum.inr b) = False := by
  simp only [eq_iff_iff, iff_false]
  intro z
  cases z
  simp at h
abbrev rC : Den Bool := (dAnd (dB (dOp (oLt) (dOp oIx (dVar 0) (dC (.str "left"))) (dC (.int 2)))) (dB (dOp (oGt) (dLen (dCons (dVar 2) dNil)) (dC (.int 0)))))
abbrev rB : SDen := (dAsg (dPop (dVar 2)) (gSubD (dVar 0) (dC (.str "left"))))
@[simp] theorem get_left (S : Store) (i j : Nat) (left mixed turn : Int) (h : S[i]? = some (SrcC left mixed turn j)) : oIx (.cell i) (.val (.str "left")) S = .ok (.val (.int left)) S := by
  simp [oIx, lstItems, dicOf, h, SrcC, dfind, keyOf, VL.find]
  first
  | done
  | decide
  | rfl
theorem get_cells (S : Store) (i j : Nat) (left mixed turn : Int) (h : S[i]? = some (SrcC left mixed turn j)) : oIx (.cell i) (.val (.str "cells")) S = .ok (.cell j) S := by
  simp [oIx, lstItems, dicOf, h, SrcC, dfind, keyOf, VL.find]
theorem get_mixed (S : Store) (i j : Nat) (left mixed turn : Int) (h : S[i]? = some (SrcC left mixed turn j)) : oIx (.cell i) (.val (.str "mixed")) S = .ok (.val (.int mixed)) S := by
  simp [oIx, lstItems, dicOf, h, SrcC, dfind, keyOf, VL.find]
  rfl
theorem get_turn (S : Store) (i j : Nat) (left mixed turn : Int) (h : S[i]? = some (SrcC left mixed turn j)) : oIx (.cell i) (.val (.str "turn")) S = .ok (.val (.int turn)) S := by
  simp [oIx, lstItems, dicOf, h, SrcC, dfind, keyOf, VL.find]
  rfl
theorem set_left (S : Store) (i j : Nat) (left mixed turn v : Int) (h : S[i]? = some (SrcC left mixed turn j)) : oSet (.cell i) (.val (.str "left")) (.val (.int v)) S = .ok [] (S.set i (SrcC v mixed turn j)) := by
  simp [oSet, h, SrcC, keyOf, VL.put, sizeLine]
  rfl
theorem set_turn (S : Store) (i j : Nat) (left mixed turn v : Int) (h : S[i]? = some (SrcC left mixed turn j)) : oSet (.cell i) (.val (.str "turn")) (.val (.int v)) S = .ok [] (S.set i (SrcC left mixed v j)) := by
  simp [oSet, h, SrcC, keyOf, VL.put, sizeLine]
  rfl
theorem pop_lst (S : Store) (j : Nat) (ys : List Int) (x : Int) (h : S[j]? = some (.lst ((ys ++ [x]).map iv))) : oPop (.cell j) [] S = .ok (.val (.int x)) (S.set j (.lst (ys.map iv))) := by
  unfold oPop
  simp only [h]
  have e : ((ys ++ [x]).map iv)[((ys ++ [x]).map iv).length - 1]? = some (.val (.int x)) := by
    rw [List.map_append]
    simp [iv]
  simp only [e]
  congr 1
  rw [List.map_append]
  simp
theorem while_ok (many : Int) (i j : Nat) (mixed turn : Int) : ∀ (fuel : Nat) (xs : List Int) (left : Int) (S : Store), xs.length < fuel → SrcX S i j left mixed turn xs →
    ∃ S' left' xs', whileD rC rB fuel [some (.cell i), some (.val (.int many)), some (.cell j), none, none, none] S = .go .nx [some (.cell i), some (.val (.int many)), some (.cell j), none, none, none] S' ∧ SrcX S' i j left' mixed turn xs' ∧ S'.length = S.length ∧ xs'.length ≤ xs.length := by
  intro fuel
  induction fuel with
  | zero => intro xs left S h; omega
  | succ n ih =>
    intro xs left S hl hS
    obtain ⟨hij, h1, h2⟩ := hS
    have e1 := get_left S i j left mixed turn h1
    have len : oLen [.cell j] S = .ok (.val (.int xs.length)) S := by simp [oLen, lstItems, h2]
    unfold whileD
    by_cases hlt : left < 2
    · by_cases hx : xs = []
      · subst hx
        refine ⟨S, left, [], ?_, ⟨hij, h1, h2⟩, rfl, Nat.le_refl _⟩
        simp [rC, dAnd, dB, dOp, dVar, dC, Out.bind, e1, oI, tt, toB, hlt, dCB, dCons, dNil, len, Out.st]
      · obtain ⟨ys, x, rfl⟩ : ∃ ys x, xs = ys ++ [x] := ⟨xs.dropLast, xs.getLast hx, (List.dropLast_concat_getLast hx).symm⟩
        have p1 := pop_lst S j ys x h2
        have h1' : (S.set j (.lst (ys.map iv)))[i]? = some (SrcC left mixed turn j) := by rw [List.getElem?_set_ne (Ne.symm hij)]; exact h1
        have p2 := set_left (S.set j (.lst (ys.map iv))) i j left mixed turn x h1'
        have hi : i < S.length := (List.getElem?_eq_some_iff.mp h1).1
        have hj : j < S.length := (List.getElem?_eq_some_iff.mp h2).1
        obtain ⟨S', left', xs', q1, q2, q3, q4⟩ := ih ys x ((S.set j (.lst (ys.map iv))).set i (SrcC x mixed turn j)) (by simpa using hl) ⟨hij, by rw [List.getElem?_set_self (by simpa using hi)], by rw [List.getElem?_set_ne hij, List.getElem?_set_self hj]⟩
        refine ⟨S', left', xs', ?_, q2, by simpa using q3, by simp; omega⟩
        have hpos : (0 : Int) < ((ys ++ [x]).length : Int) := by simp
        have isl : isLst (.cell j) S = true := by simp [isLst, lstItems, h2]
        simp only [rC, rB, dAnd, dB, dOp, dVar, dC, Out.bind, e1, oI, tt, toB, hlt, dCB, dCons, dNil, len, Out.st, dAsg, dBM0, isl, p1, gSubD, p2, decide_true, decide_eq_true hpos, if_true, List.getElem?_cons_zero, List.getElem?_cons_succ]
        exact q1
    · refine ⟨S, left, xs, ?_, ⟨hij, h1, h2⟩, rfl, Nat.le_refl _⟩
      simp [rC, dAnd, dB, dOp, dVar, dC, Out.bind, e1, oI, tt, toB, hlt, Out.st]
theorem pick_raw (K : PySem.W.Frag) (many : Int) (i j : Nat) (left mixed turn : Int) (xs : List Int) (S : Store) (h2 : 2 ≤ many) (hb : many < 1073741824) (hS : SrcX S i j left mixed turn xs) (hl : xs.length < 1000) (hm : 0 ≤ mixed) (hm2 : mixed < 2147483648) (ht : 0 ≤ turn) (ht2 : turn < 1000000) :
    ∃ r ρ' S' left' turn' xs', dn__law_pick K [some (.cell i), some (.val (.int many)), none, none, none, none] S = .go (.rt (.val (.int r))) ρ' S' ∧ 0 ≤ r ∧ r < many ∧ SrcX S' i j left' mixed turn' xs' ∧ S'.length = S.length ∧ xs'.length ≤ xs.length ∧ 0 ≤ turn' ∧ turn' ≤ turn + 1 := by
  have hij := hS.1
  have c0 := get_cells S i j left mixed turn hS.2.1
  obtain ⟨S1, l1, xs1, w1, w2, w3, w4⟩ := while_ok many i j mixed turn 100000 xs left S (by omega) hS
  have c1 := get_left S1 i j l1 mixed turn w2.2.1
  have hi : i < S1.length := (List.getElem?_eq_some_iff.mp w2.2.1).1
  have nlt : decide (many < 2) = false := decide_eq_false (by omega)
  have mpos : decide (0 < many) = true := decide_eq_true (by omega)
  have mb : decide (many < 1073741824) = true := decide_eq_true hb
  by_cases hl1 : 1 < l1
  · have s1 := set_left S1 i j l1 mixed turn (l1 / many) w2.2.1
    refine ⟨l1 % many, [some (.cell i), some (.val (.int many)), some (.cell j), some (.val (.int l1)), none, none], S1.set i (SrcC (l1 / many) mixed turn j), l1 / many, turn, xs1, ?_, Int.emod_nonneg _ (by omega), Int.emod_lt_of_pos _ (by omega), ⟨hij, by rw [List.getElem?_set_self hi], by rw [List.getElem?_set_ne hij]; exact w2.2.2⟩, by simpa using w3, w4, ht, by omega⟩
    simp [dn__law_pick, dSeq, dIfS, dSet, dRet, dNext, dB, toB, dOp, dVar, dC, Out.bind, Out.st, oI, tt, nlt, c0, dWhile, w1, c1, hl1, dAsg, gSubD, s1, mpos, mb, dCB, dCons, dNil, oInt]
  · have c2 := get_turn S1 i j l1 mixed turn w2.2.1
    have s2 := set_turn S1 i j l1 mixed turn (turn + 1) w2.2.1
    have hn2 : (S1.set i (SrcC l1 mixed (turn + 1) j))[i]? = some (SrcC l1 mixed (turn + 1) j) := List.getElem?_set_self hi
    have c3 := get_turn (S1.set i (SrcC l1 mixed (turn + 1) j)) i j l1 mixed (turn + 1) hn2
    have c4 := get_mixed (S1.set i (SrcC l1 mixed (turn + 1) j)) i j l1 mixed (turn + 1) hn2
    have g1 := Int.emod_nonneg (mixed + (turn + 1) * 104729) (b := 998244353) (by decide)
    have g2 := Int.emod_lt_of_pos (mixed + (turn + 1) * 104729) (b := 998244353) (by decide)
    have em1 : ∃ m1 : Int, m1 = (mixed + (turn + 1) * 104729) % 998244353 := ⟨_, rfl⟩
    obtain ⟨m1, em1⟩ := em1
    rw [← em1] at g1 g2
    have g3 := Int.emod_nonneg (m1 * m1 + (turn + 1) * 17) (b := 2147483647) (by decide)
    have g4 := Int.emod_lt_of_pos (m1 * m1 + (turn + 1) * 17) (b := 2147483647) (by decide)
    have em2 : ∃ m2 : Int, m2 = (m1 * m1 + (turn + 1) * 17) % 2147483647 := ⟨_, rfl⟩
    obtain ⟨m2, em2⟩ := em2
    rw [← em2] at g3 g4
    have k1 : cMul m1 m1 = true := by
      unfold cMul
      rw [Bool.or_eq_true]
      left
      rw [Bool.and_eq_true]
      exact ⟨decide_eq_true (by omega), decide_eq_true (by omega)⟩
    have k2 : decide ((m2 * 48271 + (turn + 1)).natAbs < 18446744073709551616) = true := decide_eq_true (by omega)
    have k3 : cMul (turn + 1) 104729 = true := by unfold cMul; simp
    have k4 : cMul (turn + 1) 17 = true := by unfold cMul; simp
    have k5 : cMul m2 48271 = true := by unfold cMul; simp
    by_cases hbig : 10000000 < many
    · refine ⟨((m2 * 48271 + (turn + 1)) ^ 9 / 16) % many, [some (.cell i), some (.val (.int many)), some (.cell j), some (.val (.int l1)), some (.val (.int (turn + 1))), some (.val (.int ((m2 * 48271 + (turn + 1)) ^ 9)))], S1.set i (SrcC l1 mixed (turn + 1) j), l1, turn + 1, xs1, ?_, Int.emod_nonneg _ (by omega), Int.emod_lt_of_pos _ (by omega), ⟨hij, hn2, by rw [List.getElem?_set_ne hij]; exact w2.2.2⟩, by simpa using w3, w4, by omega, by omega⟩
      simp [dn__law_pick, dSeq, dIfS, dSet, dRet, dNext, dB, toB, dOp, dVar, dC, Out.bind, Out.st, oI, tt, nlt, c0, dWhile, w1, c1, hl1, dAsg, gSubD, c2, s2, c3, c4, mpos, mb, dCB, dCons, dNil, oInt, oAdd, k3, ← em1, k1, k4, ← em2, hbig, k5, k2]
    · refine ⟨(m2 / 16) % many, [some (.cell i), some (.val (.int many)), some (.cell j), some (.val (.int l1)), some (.val (.int (turn + 1))), some (.val (.int m2))], S1.set i (SrcC l1 mixed (turn + 1) j), l1, turn + 1, xs1, ?_, Int.emod_nonneg _ (by omega), Int.emod_lt_of_pos _ (by omega), ⟨hij, hn2, by rw [List.getElem?_set_ne hij]; exact w2.2.2⟩, by simpa using w3, w4, by omega, by omega⟩
      simp [dn__law_pick, dSeq, dIfS, dSet, dRet, dNext, dB, toB, dOp, dVar, dC, Out.bind, Out.st, oI, tt, nlt, c0, dWhile, w1, c1, hl1, dAsg, gSubD, c2, s2, c3, c4, mpos, mb, dCB, dCons, dNil, oInt, oAdd, k3, ← em1, k1, k4, ← em2, hbig]
end L91

namespace L91
open PySem PySem.Spec PyProof.Rows L2 VL NdefX

theorem trimV_len (S S' : Store) (a : AV) (h : S'.length = S.length) : trimV S a S' = .ok a S' := by
  unfold trimV
  split
  · rw [← h, List.take_length]
  · rfl
theorem pick_ok (K : PySem.W.Frag) (many : Int) (i j : Nat) (left mixed turn : Int) (xs : List Int) (S : Store) (h2 : 2 ≤ many) (hb : many < 1073741824) (hS : SrcX S i j left mixed turn xs) (hl : xs.length < 1000) (hm : 0 ≤ mixed) (hm2 : mixed < 2147483648) (ht : 0 ≤ turn) (ht2 : turn < 1000000) :
    ∃ r S' left' turn' xs', fn__law_pick K [.cell i, .val (.int many)] S = .ok (.val (.int r)) S' ∧ 0 ≤ r ∧ r < many ∧ SrcX S' i j left' mixed turn' xs' ∧ S'.length = S.length ∧ xs'.length ≤ xs.length ∧ 0 ≤ turn' ∧ turn' ≤ turn + 1 := by
  obtain ⟨r, ρ', S', l', t', xs', e, q1, q2, q3, q4, q5⟩ := pick_raw K many i j left mixed turn xs S h2 hb hS hl hm hm2 ht ht2
  refine ⟨r, S', l', t', xs', ?_, q1, q2, q3, q4, q5⟩
  unfold fn__law_pick fnDen fnRaw
  simp only [List.map_cons, List.map_nil, List.length_cons, List.length_nil, Nat.reduceAdd, Nat.reduceSub, List.replicate, List.cons_append, List.nil_append, e]
  show trimV S (.val (.int r)) S' = _
  exact trimV_len S S' _ q4
abbrev sB : SDen := (dSet 1 (dMod (dInt (dCons (dAdd (dAdd (dMul (dVar 1) (dC (.int 69069))) (dMul (dVar 2) (dC (.int 31)))) (dC (.int 5))) dNil)) (dC (.int 2147483629))))
theorem src_loop (a : AV) (S : Store) : ∀ (ns : List Int) (m : Int) (o : Option AV), 0 ≤ m → m < 2147483629 → ∃ m' o', loopD (gN 2) sB (ns.map iv) [some a, some (iv m), o, none, none] S = .go .nx [some a, some (iv m'), o', none, none] S ∧ 0 ≤ m' ∧ m' < 2147483629
  | [], m, o, h1, h2 => ⟨m, o, rfl, h1, h2⟩
  | n :: ns, m, o, h1, h2 => by
    obtain ⟨m', o', e, q⟩ := src_loop a S ns ((m * 69069 + n * 31 + 5) % 2147483629) (some (iv n)) (Int.emod_nonneg _ (by decide)) (Int.emod_lt_of_pos _ (by decide))
    refine ⟨m', o', ?_, q⟩
    have k1 : cMul m 69069 = true := by unfold cMul; simp
    have k2 : cMul n 31 = true := by unfold cMul; simp
    rw [List.map_cons]
    unfold loopD
    simp only [gN, sB, dSet, dOp, dCB, dCons, dNil, dVar, dC, Out.bind, Out.st, iv, List.set_cons_succ, List.set_cons_zero, List.getElem?_cons_succ, List.getElem?_cons_zero, oI, k1, k2, oAdd, oInt, if_true, decide_true]
    simp only [iv] at e
    exact e
theorem compL_abs (ρ : Rho) (S : Store) (hρ : 2 < ρ.length) : ∀ ns : List Int, ∃ zs : List Int, compL (gN 2) dTrue (dAbs (dCons (dVar 2) dNil)) ρ (ns.map iv) S = .ok (zs.map iv) S ∧ zs.length = ns.length
  | [] => ⟨[], rfl, rfl⟩
  | n :: ns => by
    obtain ⟨zs, e, l⟩ := compL_abs ρ S hρ ns
    refine ⟨(if n < 0 then -n else n) :: zs, ?_, by simp [l]⟩
    rw [List.map_cons]
    unfold compL
    have g : (ρ.set 2 (some (iv n)))[2]? = some (some (iv n)) := List.getElem?_set_self hρ
    simp only [gN, dTrue, dCB, dCons, dNil, dVar, Out.bind, g, iv, oAbs, e, if_true, List.map_cons]
    simp only [iv] at e g
    simp only [g, oAbs, e]
theorem compL_rev (ρ : Rho) (S : Store) (hρ : 4 < ρ.length) (j : Nat) (ys : List Int) (h3 : ρ[3]? = some (some (.cell j))) (hj : S[j]? = some (.lst (ys.map iv))) : ∀ ks : List Nat, (∀ k ∈ ks, k < ys.length) → ∃ zs : List Int, compL (gN 4) dTrue (dOp oIx (dVar 3) (dSub (dSub (dLen (dCons (dVar 3) dNil)) (dC (.int 1))) (dVar 4))) ρ (ks.map fun k => .val (.int (0 + (k : Nat)))) S = .ok (zs.map iv) S ∧ zs.length = ks.length
  | [], _ => ⟨[], rfl, rfl⟩
  | k :: ks, hk => by
    obtain ⟨zs, e, l⟩ := compL_rev ρ S hρ j ys h3 hj ks fun x hx => hk x (List.mem_cons_of_mem _ hx)
    have hk0 := hk k List.mem_cons_self
    have hb : ys.length - 1 - k < ys.length := by omega
    refine ⟨ys[ys.length - 1 - k] :: zs, ?_, by simp [l]⟩
    rw [List.map_cons]
    unfold compL
    have g4 : (ρ.set 4 (some (.val (.int (0 + (k : Nat))))))[4]? = some (some (.val (.int (0 + (k : Nat))))) := List.getElem?_set_self hρ
    have g3 : (ρ.set 4 (some (.val (.int (0 + (k : Nat))))))[3]? = some (some (.cell j)) := by rw [List.getElem?_set_ne (by decide)]; exact h3
    have ll : oLen [.cell j] S = .ok (.val (.int ys.length)) S := by simp [oLen, lstItems, hj]
    have ix : oIx (.cell j) (.val (.int ((ys.length : Int) - 1 - (0 + (k : Nat))))) S = .ok (iv ys[ys.length - 1 - k]) S := by
      have ei : ((ys.length : Int) - 1 - (0 + (k : Nat))) = ((ys.length - 1 - k : Nat) : Int) := by omega
      rw [ei]
      simp only [oIx, lstItems, hj]
      have at1 : atI (ys.map iv) ((ys.length - 1 - k : Nat) : Int) = some (iv ys[ys.length - 1 - k]) := by
        unfold atI ixN
        simp [hb, iv]
      rw [at1]
    simp only [gN, dTrue, dOp, dCB, dCons, dNil, dVar, dC, Out.bind, g3, g4, ll, oI, tt, ix, e, if_true, List.map_cons]
theorem bind_ok {α β : Type} (a : α) (S : Store) (f : α → Store → Out β) : (Out.ok a S).bind f = f a S := rfl
theorem sz_of {n : Nat} (h : n < 1000) : n < sizeLine := by rw [sizeLine_eq]; omega
section
variable {α : Type} {ρ : Rho} {S S1 S2 : Store} {f g : Den AV} {ga : Den (List AV)} {a b : AV} {xs ys : List AV} {i : Nat} {it : Den (List AV)} {gt : GDen} {t : Den Bool} {vs : List Nat} {k h : SDen} {ρ1 : Rho} {o : SOut}
theorem q_set (e : f ρ S = .ok a S1) : dSet i f ρ S = .go .nx (ρ.set i (some a)) S1 := by unfold dSet; rw [e]; rfl
theorem q_seq (e : k ρ S = .go .nx ρ1 S1) (e2 : h ρ1 S1 = o) : dSeq k h ρ S = o := by unfold dSeq; rw [e]; exact e2
theorem q_ret (e : f ρ S = .ok a S1) : dRet f ρ S = .go (.rt a) ρ S1 := by unfold dRet; rw [e]; rfl
theorem q_compC (e1 : it ρ S = .ok xs S1) (e2 : xs.length < sizeLine) (e3 : compL gt t f (wipeR ρ vs) xs S1 = .ok ys S2) : dCompC vs it gt t f ρ S = .ok (.cell S2.length) (S2 ++ [.lst ys]) := by
  show (it ρ S).bind _ = _
  rw [e1]
  show (if xs.length < sizeLine then compK finC [] (compL gt t f (wipeR ρ vs) xs S1) else Out.stuck) = _
  rw [if_pos e2, e3]
  rfl
theorem q_comp {ds : List D} (e1 : it ρ S = .ok xs S1) (e2 : xs.length < sizeLine) (e3 : compL gt t f (wipeR ρ vs) xs S1 = .ok (ds.map .val) S2) : dComp vs it gt t f ρ S = .ok (.val (.lst ds)) S2 := by
  show (it ρ S).bind _ = _
  rw [e1]
  show (if xs.length < sizeLine then compK finV [] (compL gt t f (wipeR ρ vs) xs S1) else Out.stuck) = _
  rw [if_pos e2, e3]
  show finV ([] ++ ds.map .val) S2 = _
  unfold finV
  rw [List.nil_append, valsOf_map]
theorem rng1 (n : Nat) (S : Store) (h : n < 1000) : oRange1 [.val (.int n)] S = .ok (rangeL 0 n) S := by
  unfold oRange1
  dsimp only
  split
  · rw [Int.toNat_natCast]
  · exfalso; omega
theorem q_range {n : Nat} (e1 : ga ρ S = .ok [.val (.int n)] S1) (e2 : n < 1000) : dRange1 ga ρ S = .ok (rangeL 0 n) S1 := by
  unfold dRange1
  rw [e1, bind_ok]
  exact rng1 n S1 e2
theorem q_cons (e1 : f ρ S = .ok a S1) (e2 : ga ρ S1 = .ok xs S2) : dCons f ga ρ S = .ok (a :: xs) S2 := by unfold dCons; rw [e1]; show (ga ρ S1).bind _ = _; rw [e2]; rfl
theorem q_nil : dNil ρ S = .ok [] S := rfl
theorem q_var (e : ρ[i]? = some (some a)) : dVar i ρ S = .ok a S := by unfold dVar; rw [e]
theorem q_cb {o : List AV → Store → Out AV} (e1 : ga ρ S = .ok xs S1) (e2 : o xs S1 = .ok a S2) : dCB o ga ρ S = .ok a S2 := by unfold dCB; rw [e1]; exact e2
theorem q_op {o : AV → AV → Store → Out AV} {c : AV} {S3 : Store} (e1 : f ρ S = .ok a S1) (e2 : g ρ S1 = .ok b S2) (e3 : o a b S2 = .ok c S3) : dOp o f g ρ S = .ok c S3 := by
  unfold dOp; rw [e1]; show (g ρ S1).bind _ = _; rw [e2]; exact e3
theorem q_c {d : D} : dC d ρ S = .ok (.val d) S := rfl
end
theorem rng_len (n : Nat) : (rangeL 0 n).length = n := by unfold rangeL; rw [List.length_map, List.length_range]
theorem source_ok (K : PySem.W.Frag) (ns : List Int) (hl : ns.length < 1000) : ∃ S j mixed xs, fn__law_source K [.val (.scr K (ns.map .int))] [] = .ok (.cell 2) S ∧ SrcX S 2 j 1 mixed 0 xs ∧ xs.length < 1000 ∧ 0 ≤ mixed ∧ mixed < 2147483648 ∧ S.length = 3 := by
  obtain ⟨m, o, e1, e2, e3⟩ := src_loop (.val (.scr K (ns.map .int))) [] ns 11 none (by decide) (by decide)
  obtain ⟨ys, f1, f2⟩ := compL_abs [some (.val (.scr K (ns.map .int))), some (iv m), none, none, none] [] (by simp) ns
  obtain ⟨zs, g1, g2⟩ := compL_rev [some (.val (.scr K (ns.map .int))), some (iv m), o, some (.cell 0), none] [.lst (ys.map iv)] (by simp) 0 ys rfl rfl (List.range ys.length) (fun k hk => List.mem_range.mp hk)
  have hs : (ns.map D.int).map AV.val = ns.map iv := by rw [List.map_map]; rfl
  have sc : ∀ ρ S, ρ[0]? = some (some (.val (.scr K (ns.map .int)))) → dScr K (dVar 0) ρ S = .ok (ns.map iv) S := fun ρ S h => by
    unfold dScr
    rw [q_var h]
    show oScr K (.val (.scr K (ns.map .int))) S = _
    unfold oScr
    simp only [if_true, hs]
  refine ⟨[.lst (ys.map iv), .lst (zs.map iv), SrcC 1 m 0 1], 1, m, zs, ?_, ⟨by decide, rfl, rfl⟩, by rw [g2, List.length_range]; omega, e2, by omega, rfl⟩
  have ll : oLen [.cell 0] [.lst (ys.map iv)] = .ok (.val (.int ys.length)) [.lst (ys.map iv)] := by simp [oLen, lstItems]
  have a1 : dFor (dScr K (dVar 0)) (gN 2) sB [some (.val (.scr K (ns.map .int))), some (iv 11), none, none, none] [] = .go .nx [some (.val (.scr K (ns.map .int))), some (iv m), o, none, none] [] := by
    unfold dFor
    rw [sc _ _ rfl]
    exact e1
  have st : dn__law_source K [some (.val (.scr K (ns.map .int))), none, none, none, none] [] = .go (.rt (.cell 2)) [some (.val (.scr K (ns.map .int))), some (iv m), o, some (.cell 1), none] [.lst (ys.map iv), .lst (zs.map iv), SrcC 1 m 0 1] := by
    unfold dn__law_source
    refine q_seq (q_set q_c) (q_seq a1 (q_seq (q_set (q_compC (sc _ _ rfl) (by rw [List.length_map]; exact sz_of hl) f1)) (q_seq (q_set (q_compC (q_range (q_cons (q_cb (q_cons (q_var rfl) q_nil) ll) q_nil) (by omega)) (by rw [rng_len]; exact sz_of (by omega)) g1)) (q_ret ?_))))
    unfold dDic
    simp [dpCons, dpNil, dC, dVar, Out.bind, keyed, keyOf, merge, VL.put, SrcC, iv]
    rfl
  unfold fn__law_source fnKeep fnRaw
  simp only [List.map_cons, List.map_nil, List.length_cons, List.length_nil, Nat.reduceAdd, Nat.reduceSub, List.replicate, List.cons_append, List.nil_append, st]
end L91

namespace L91
open PySem PySem.Spec PyProof.Rows L2 VL NdefX

def GW (w : Str) : Prop := w.length ≤ 1000 ∧ ∀ c ∈ w.cps.toList, c < 0x110000
theorem GW.small {w : Str} (h : GW w) : small (.val (.str w)) = true := by
  show (decide (w.length ≤ 1000) && w.cps.toList.all fun c => decide (c < 16 ^ 8)) = true
  rw [Bool.and_eq_true]
  refine ⟨decide_eq_true h.1, List.all_eq_true.mpr fun c hc => decide_eq_true ?_⟩
  have := h.2 c hc
  omega
theorem GW.ok {w : Str} (h : GW w) : PyData.strOk w = true := by
  unfold PyData.strOk
  rw [← Array.all_toList]
  exact List.all_eq_true.mpr fun c hc => decide_eq_true (h.2 c hc)
theorem gw_ofString (s : String) (h : (Str.ofString s).length ≤ 1000) : GW (Str.ofString s) := by
  refine ⟨h, fun c hc => ?_⟩
  rw [Str.ofString_eq_toList] at hc
  simp at hc
  obtain ⟨x, _, rfl⟩ := hc
  have v := x.valid
  have e : x.toNat = x.val.toNat := rfl
  rcases v with v | ⟨_, v⟩
  · have v : x.val.toNat < 0xd800 := v
    omega
  · have v : x.val.toNat < 0x110000 := v
    omega
theorem gw_app {x y : Str} (hx : GW x) (hy : GW y) (h : x.length + y.length ≤ 1000) : GW (x ++ y) := by
  refine ⟨by rw [Str.length_append]; exact h, fun c hc => ?_⟩
  have e : (x ++ y).cps.toList = x.cps.toList ++ y.cps.toList := by
    show (x.cps ++ y.cps).toList = _
    simp
  rw [e] at hc
  rcases List.mem_append.mp hc with q | q
  · exact hx.2 c q
  · exact hy.2 c q
section
variable {α : Type} {ρ : Rho} {S S1 S2 : Store} {f g : Den AV} {ga : Den (List AV)} {a b : AV} {xs ys : List AV} {den : FDen} {n : Nat}
theorem q_call (e1 : ga ρ S = .ok xs S1) (hn : xs.length = n) (e2 : den xs S1 = .ok a S2) : dCall n den [] ga ρ S = .ok a S2 := by
  unfold dCall
  rw [e1, bind_ok, List.append_nil, if_pos hn]
  exact e2
end
def St (n : Int) (S : Store) (i j : Nat) : Prop := ∃ left mixed turn xs, SrcX S i j left mixed turn xs ∧ xs.length < 1000 ∧ 0 ≤ mixed ∧ mixed < 2147483648 ∧ 0 ≤ turn ∧ turn ≤ n
theorem pick_st (K : PySem.W.Frag) (many : Int) (n : Int) (i j : Nat) (S : Store) (h2 : 2 ≤ many) (hb : many < 1073741824) (hS : St n S i j) (hn : n < 999999) : ∃ r S', fn__law_pick K [.cell i, .val (.int many)] S = .ok (.val (.int r)) S' ∧ 0 ≤ r ∧ r < many ∧ St (n + 1) S' i j ∧ S'.length = S.length := by
  obtain ⟨left, mixed, turn, xs, h, h1, h3, h4, h5, h6⟩ := hS
  obtain ⟨r, S', l', t', xs', e, q1, q2, q3, q4, q5, q6, q7⟩ := pick_ok K many i j left mixed turn xs S h2 hb h h1 h3 h4 h5 (by omega)
  exact ⟨r, S', e, q1, q2, ⟨l', mixed, t', xs', q3, by omega, h3, h4, q6, by omega⟩, q4⟩
theorem abc_at : ∀ k : Fin 26, ((atI ("abcdefghijklmnopqrstuvwxyz" : Str).cps.toList (k.val : Int)).any fun c => decide (c < 128)) = true := by decide +kernel
theorem abc_ix (r : Int) (S : Store) (h0 : 0 ≤ r) (h1 : r < 26) : ∃ w : Str, oIx (.val (.str "abcdefghijklmnopqrstuvwxyz")) (.val (.int r)) S = .ok (.val (.str w)) S ∧ GW w ∧ w.length = 1 := by
  obtain ⟨k, rfl⟩ : ∃ k : Nat, r = k := ⟨r.toNat, by omega⟩
  have q := abc_at ⟨k, by omega⟩
  cases e : atI ("abcdefghijklmnopqrstuvwxyz" : Str).cps.toList (k : Int) with
  | none => rw [e] at q; cases q
  | some c =>
    rw [e] at q
    have hc : c < 128 := of_decide_eq_true q
    refine ⟨⟨#[c]⟩, ?_, ⟨by show 1 ≤ 1000; decide, fun x hx => ?_⟩, rfl⟩
    · have hl : ("abcdefghijklmnopqrstuvwxyz" : Str).length ≤ sizeLine := by rw [sizeLine_eq]; decide +kernel
      show (if ("abcdefghijklmnopqrstuvwxyz" : Str).length ≤ sizeLine then (match atI ("abcdefghijklmnopqrstuvwxyz" : Str).cps.toList (k : Int) with
        | some c => Out.ok (AV.val (D.str ⟨#[c]⟩)) S
        | none => Out.stuck) else Out.stuck) = _
      rw [if_pos hl, e]
    · have : x = c := by simpa using hx
      omega
theorem pow6 (ρ : Rho) (S : Store) : dPow (dC (.int 10)) (dC (.int 6)) ρ S = .ok (.val (.int 1000000)) S := by
  simp [dOp, dC, Out.bind, oI]
theorem pow9 (ρ : Rho) (S : Store) : dPow (dC (.int 10)) (dC (.int 9)) ρ S = .ok (.val (.int 1000000000)) S := by
  simp [dOp, dC, Out.bind, oI]
theorem word_ok (K : PySem.W.Frag) (n : Int) (i j : Nat) (S : Store) (hS : St n S i j) (hn : n < 900000) : ∃ w S', fn__law_word K [.cell i] S = .ok (.val (.str w)) S' ∧ GW w ∧ St (n + 2) S' i j ∧ S'.length = S.length := by
  obtain ⟨r1, S1, e1, a1, a2, h1, l1⟩ := pick_st K 26 n i j S (by decide) (by decide) hS (by omega)
  obtain ⟨r2, S2, e2, b1, b2, h2, l2⟩ := pick_st K 1000000 (n + 1) i j S1 (by decide) (by decide) h1 (by omega)
  obtain ⟨c, ec, gc, lc⟩ := abc_ix r1 S1 a1 a2
  have hlen : (Str.ofString (toString r2)).length ≤ 7 := by
    have e := int_text_length_le10 (a := r2) (k := 6) (by decide) (by omega)
    rw [PySem.ofString_length]
    omega
  have gt := gw_ofString (toString r2) (by omega)
  have hst : oStr [.val (.int r2)] S2 = .ok (.val (.str (toString r2))) S2 := by
    have hlog : r2.natAbs.log2 < 1920 := by
      have hlt : r2.natAbs < 2 ^ 1920 := Nat.lt_trans (show r2.natAbs < 2 ^ 20 by omega) (Nat.pow_lt_pow_right (by decide) (by decide))
      by_cases h0 : r2.natAbs = 0
      · rw [h0]; decide
      · exact (Nat.log2_lt h0).mpr hlt
    show (if r2.natAbs.log2 < 1920 then Out.ok (AV.val (D.str (toString r2))) S2 else Out.stuck) = _
    rw [if_pos hlog]
  have hadd : oAdd (.val (.str c)) (.val (.str (toString r2))) S2 = .ok (.val (.str (c ++ (toString r2 : Str)))) S2 := by
    have hl : c.length + (toString r2 : Str).length ≤ sizeLine := by
      have : (toString r2 : Str).length ≤ 7 := hlen
      rw [sizeLine_eq]; omega
    show (if c.length + (toString r2 : Str).length ≤ sizeLine then Out.ok (AV.val (D.str (c ++ (toString r2 : Str)))) S2 else Out.stuck) = _
    rw [if_pos hl]
  refine ⟨c ++ (toString r2 : Str), S2, ?_, gw_app gc gt (by have : (toString r2 : Str).length ≤ 7 := hlen; show c.length + (toString r2 : Str).length ≤ 1000; omega), by rw [show n + 2 = n + 1 + 1 by omega]; exact h2, l2.trans l1⟩
  have st : dn__law_word K [some (.cell i)] S = .go (.rt (.val (.str (c ++ (toString r2 : Str))))) [some (.cell i)] S2 := by
    unfold dn__law_word
    exact q_ret (q_op (q_op q_c (q_call (q_cons (q_var rfl) (q_cons q_c q_nil)) rfl e1) ec) (q_cb (q_cons (q_call (q_cons (q_var rfl) (q_cons (pow6 _ _) q_nil)) rfl e2) q_nil) hst) hadd)
  unfold fn__law_word fnDen fnRaw
  simp only [List.map_cons, List.map_nil, List.length_cons, List.length_nil, Nat.reduceAdd, Nat.reduceSub, List.replicate, List.cons_append, List.nil_append, st]
  exact trimV_len S S2 _ (l2.trans l1)
end L91

namespace L91
open PySem PySem.Spec PyProof.Rows L2 VL NdefX

section
variable {ρ : Rho} {S S1 S2 : Store} {f g e : Den AV} {ga : Den (List AV)} {a b : AV} {xs ys : List AV} {K : PySem.W.Frag} {n i : Nat} {C : Addr} {den : XDen} {gs fs : List (Str × D)} {ds : List D} {names : List Str} {x : Str} {d : D}
theorem q_lst (e1 : ga ρ S = .ok (ds.map .val) S1) (h : ds.length ≤ 100) : dLst ga ρ S = .ok (.val (.lst ds)) S1 := by
  unfold dLst
  rw [e1, bind_ok, frzs_vals]
  exact if_pos h
theorem q_tup (e1 : ga ρ S = .ok (ds.map .val) S1) (h : ds.length ≤ 100) : dTup ga ρ S = .ok (.val (.tup ds)) S1 := by
  unfold dTup
  rw [e1, bind_ok, frzs_vals]
  exact if_pos h
theorem q_exc (e1 : ga ρ S = .ok xs S1) (hn : xs.length = n) (e2 : den xs S1 = some (gs, S2)) : dExc C n den ga ρ S = .ok (.val (.exc C gs)) S2 := by
  unfold dExc
  rw [e1, bind_ok, if_pos hn, e2]
theorem q_xatt (e1 : g ρ S = .ok (.val (.exc C fs)) S1) (h : clsIx K names C = some i) (l : fs.lookup x = some d) : dXatt K names x g ρ S = .ok (.val d) S1 := by
  unfold dXatt
  rw [e1, bind_ok]
  simp only [h, l]
theorem q_items (e1 : f ρ S = .ok (.val (.lst ds)) S1) : dItems f ρ S = .ok (ds.map .val) S1 := by
  unfold dItems
  rw [e1, bind_ok]
  rfl
theorem compL_const (v : D) (hi : i < ρ.length) : ∀ ds : List D, (∀ d ∈ ds, e (ρ.set i (some (.val d))) S = .ok (.val v) S) → compL (gN i) dTrue e ρ (ds.map .val) S = .ok ((ds.map fun _ => v).map .val) S
  | [], _ => rfl
  | d :: ds, h => by
    have ih := compL_const v hi ds fun x hx => h x (List.mem_cons_of_mem _ hx)
    have h0 := h d List.mem_cons_self
    rw [List.map_cons, List.map_cons, List.map_cons]
    unfold compL
    simp only [gN, dTrue, h0, ih, if_true]
theorem bools_true : ∀ ds : List D, bools ((ds.map fun _ => D.bl true).map AV.val) = some (ds.map fun _ => true)
  | [] => rfl
  | d :: ds => by
    rw [List.map_cons, List.map_cons, List.map_cons]
    unfold bools
    rw [bools_true ds]
    rfl
theorem q_all (e1 : f ρ S = .ok (.val (.lst ds)) S) (hl : ds.length < 1000) (hi : i < ρ.length) (h : ∀ d ∈ ds, e ((ρ.set i none).set i (some (.val d))) S = .ok (.val (.bl true)) S) : dB (dAll (dCons (dComp [i] (dItems f) (gN i) dTrue e) dNil)) ρ S = .ok true S := by
  have c := q_comp (vs := [i]) (q_items e1) (by rw [List.length_map]; exact sz_of hl) (compL_const (e := e) (ρ := wipeR ρ [i]) (.bl true) (by show i < (ρ.set i none).length; rw [List.length_set]; exact hi) ds h)
  have o : oAll false [.val (.lst (ds.map fun _ => D.bl true))] S = .ok (.val (.bl true)) S := by
    unfold oAll
    simp only [lstItems, bools_true]
    simp
  have q : dAll (dCons (dComp [i] (dItems f) (gN i) dTrue e) dNil) ρ S = .ok (.val (.bl true)) S := q_cb (q_cons c q_nil) o
  unfold dB
  rw [q]
  rfl
theorem q_if {p : Den Bool} {k h : SDen} {c : Bool} (e : p ρ S = .ok c S1) : dIfS p k h ρ S = if c then k ρ S1 else h ρ S1 := by unfold dIfS; rw [e]; rfl
theorem q_not {p : Den Bool} {c : Bool} (e : p ρ S = .ok c S1) : dNot p ρ S = .ok (!c) S1 := by unfold dNot; rw [e]; rfl
theorem q_or {p q : Den Bool} {c : Bool} (e : p ρ S = .ok false S1) (e2 : q ρ S1 = .ok c S2) : dOr p q ρ S = .ok c S2 := by unfold dOr; rw [e, bind_ok]; exact e2
theorem q_b {c : Bool} (e : f ρ S = .ok (.val (.bl c)) S1) : dB f ρ S = .ok c S1 := by unfold dB; rw [e]; rfl
theorem q_skip {p : Den Bool} {k : SDen} (e : p ρ S = .ok false S) : dIfS p k dNext ρ S = .go .nx ρ S := by rw [q_if e]; rfl
theorem oadd_lst (xs ys : List D) (S : Store) (h : xs.length + ys.length ≤ 1000) : oAdd (.val (.lst xs)) (.val (.lst ys)) S = .ok (.val (.lst (xs ++ ys))) S := by
  have hs : xs.length + ys.length ≤ sizeLine := by rw [sizeLine_eq]; omega
  unfold oAdd
  simp only [lstItems, valsOf_map, hs, if_true]
theorem eq_str (x : Str) (S : Store) : oEq false (.val (.str x)) (.val (.str x)) S = .ok (.val (.bl true)) S := by simp [oEq]
theorem ne_str (x : Str) (S : Store) : oEq true (.val (.str x)) (.val (.str x)) S = .ok (.val (.bl false)) S := by simp [oEq]
theorem eq_int (x : Int) (S : Store) : oEq false (.val (.int x)) (.val (.int x)) S = .ok (.val (.bl true)) S := by simp [oEq]
theorem ne_int (x : Int) (S : Store) : oEq true (.val (.int x)) (.val (.int x)) S = .ok (.val (.bl false)) S := by simp [oEq]
end
def Cl (K : PySem.W.Frag) (d : D) (i : Nat) : Prop := ∃ C fs, d = .exc C fs ∧ clsIx K clsNames C = some i
inductive Cls (K : PySem.W.Frag) : List D → List Nat → Prop
  | nil : Cls K [] []
  | cons {d : D} {i : Nat} {ds : List D} {is : List Nat} : Cl K d i → Cls K ds is → Cls K (d :: ds) (i :: is)
theorem Cls.app {K : PySem.W.Frag} : ∀ {ds es : List D} {is js : List Nat}, Cls K ds is → Cls K es js → Cls K (ds ++ es) (is ++ js)
  | _, _, _, _, .nil, s => s
  | _, _, _, _, .cons h r, s => .cons h (Cls.app r s)
theorem Cls.len {K : PySem.W.Frag} : ∀ {ds : List D} {is : List Nat}, Cls K ds is → ds.length = is.length
  | _, _, .nil => rfl
  | _, _, .cons _ r => by simp [Cls.len r]
/-- the field f of d is v -/
def Fd (K : PySem.W.Frag) (f : Str) (v : D) (d : D) : Prop := ∃ C fs i, d = .exc C fs ∧ clsIx K clsNames C = some i ∧ fs.lookup f = some v
def Fds (K : PySem.W.Frag) (f : Str) (v : D) : List D → Prop
  | [] => True
  | d :: ds => Fd K f v d ∧ Fds K f v ds
theorem Fds.get {K : PySem.W.Frag} {f : Str} {v : D} : ∀ {ds : List D}, Fds K f v ds → ∀ d ∈ ds, Fd K f v d
  | d :: ds, ⟨h, r⟩, x, hx => by
    rcases List.mem_cons.mp hx with q | q
    · subst q; exact h
    · exact Fds.get r x q
theorem q_fd {K : PySem.W.Frag} {f : Str} {v d : D} {g : Den AV} {ρ : Rho} {S S1 : Store} (h : Fd K f v d) (e1 : g ρ S = .ok (.val d) S1) : dXatt K clsNames f g ρ S = .ok (.val v) S1 := by
  obtain ⟨C, fs, i, rfl, h1, h2⟩ := h
  exact q_xatt e1 h1 h2
theorem fnDen_same {n : Nat} {b : SDen} {as : List AV} {S : Store} {d : D} {ρ' : Rho} {J : Store} (h : b (as.map some ++ List.replicate (n - as.length) none) S = .go (.rt (.val d)) ρ' (S ++ J)) : fnDen n b as S = .ok (.val d) S := by
  unfold fnDen fnRaw
  simp only [h]
  show trimV S (.val d) (S ++ J) = _
  unfold trimV
  rw [chkL_same]
  simp
theorem fnDen_eq {n : Nat} {b : SDen} {as : List AV} {S : Store} {d : D} {ρ' : Rho} (h : b (as.map some ++ List.replicate (n - as.length) none) S = .go (.rt (.val d)) ρ' S) : fnDen n b as S = .ok (.val d) S := fnDen_same (J := []) (by rw [List.append_nil]; exact h)
section
variable {K : PySem.W.Frag} {S : Store}
theorem cl_of (k : XKs K clsNames) {i : Nat} {x : Str} {fs : List (Str × D)} (h : clsNames[i]? = some x := by rfl) : Cl K (.exc (He.ga K x) fs) i := ⟨_, _, rfl, clsIx_at k h⟩
theorem fd_of (k : XKs K clsNames) {i : Nat} {x f : Str} {fs : List (Str × D)} {v : D} (h : clsNames[i]? = some x) (l : fs.lookup f = some v) : Fd K f v (.exc (He.ga K x) fs) := ⟨_, _, i, rfl, clsIx_at k h, l⟩
theorem x1 {okm : Rho → Bool} {f : Str} {v : D} (h : okm [none, some (.val v), none] = true) : iniDen okm (iSto f (dVar 1) iNil) [.val v] S = some ([(f, v)], S) := by
  unfold iniDen
  show (if okm [none, some (.val v), none] then _ else none) = _
  rw [if_pos h]
  rfl
theorem named_ok (k : XKs K clsNames) (w : Str) (hw : GW w) : ∃ ds, fn__law_named K [.val (.str w)] S = .ok (.val (.lst ds)) S ∧ Cls K ds [0, 1, 2, 3] := by
  have sm := hw.small
  have ok1 : (fun ρ : Rho => smallAt 1 ρ && (fun _ => true) ρ) [none, some (.val (.str w)), none] = true := by
    show (small (.val (.str w)) && true) = true
    rw [sm]; rfl
  let F : List (Str × D) := [("name", .str w)]
  refine ⟨[.exc (He.ga K "BadName") F, .exc (He.ga K "TwiceNamed") F, .exc (He.ga K "NoImage") F, .exc (He.ga K "BadImage") F], ?_, .cons (cl_of k) (.cons (cl_of k) (.cons (cl_of k) (.cons (cl_of k) .nil)))⟩
  have fds : Fds K "name" (.str w) [.exc (He.ga K "BadName") F, .exc (He.ga K "TwiceNamed") F, .exc (He.ga K "NoImage") F, .exc (He.ga K "BadImage") F] := ⟨fd_of k (i := 0) rfl rfl, fd_of k (i := 1) rfl rfl, fd_of k (i := 2) rfl rfl, fd_of k (i := 3) rfl rfl, trivial⟩
  unfold fn__law_named
  refine fnDen_eq (ρ' := [some (.val (.str w)), some (.val (.lst [.exc (He.ga K "BadName") F, .exc (He.ga K "TwiceNamed") F, .exc (He.ga K "NoImage") F, .exc (He.ga K "BadImage") F])), none]) ?_
  show dn__law_named K [some (.val (.str w)), none, none] S = _
  unfold dn__law_named
  have ex : ∀ C den, den [.val (.str w)] S = some (F, S) → dExc C 1 den (dCons (dVar 0) dNil) [some (.val (.str w)), none, none] S = .ok (.val (.exc C F)) S := fun C den h => q_exc (q_cons (q_var rfl) q_nil) rfl h
  refine q_seq (q_set (q_lst (ds := [.exc (He.ga K "BadName") F, .exc (He.ga K "TwiceNamed") F, .exc (He.ga K "NoImage") F, .exc (He.ga K "BadImage") F]) (q_cons (ex _ _ (x1 ok1)) (q_cons (ex _ _ (x1 ok1)) (q_cons (ex _ _ (x1 ok1)) (q_cons (ex _ _ (x1 ok1)) q_nil)))) (by simp))) ?_
  have al := q_all (f := dVar 1) (i := 2) (e := dOp (oEq false) (dXatt K clsNames "name" (dVar 2)) (dVar 0)) (ρ := [some (.val (.str w)), some (.val (.lst [.exc (He.ga K "BadName") F, .exc (He.ga K "TwiceNamed") F, .exc (He.ga K "NoImage") F, .exc (He.ga K "BadImage") F])), none]) (S := S) (q_var rfl) (by simp) (by simp)
    fun d hd => q_op (q_fd (fds.get d hd) (q_var rfl)) (q_var rfl) (eq_str w S)
  exact q_seq (q_skip (q_not al)) (q_ret (q_var rfl))
end
end L91

namespace L91
open PySem PySem.Spec PyProof.Rows L2 VL NdefX

theorem eqOk_str {n : Nat} {w : Str} (h : GW w) : eqOk n (.str w) = true := by
  have := h.ok
  cases n <;> exact this
theorem eqOk_int {n : Nat} {i : Int} : eqOk n (.int i) = true := by cases n <;> rfl
theorem eq_tup (neg : Bool) (ds : List D) (S : Store) (h : ds.all (eqOk 7) = true) (r : deq (.tup ds) (.tup ds) = true) : oEq neg (.val (.tup ds)) (.val (.tup ds)) S = .ok (.val (.bl (xor neg true))) S := by
  have e : eqOk 8 (.tup ds) = true := by
    show eqOks 7 ds = true
    rw [eqOks_eq]; exact h
  unfold oEq
  simp only [rd, e, r, Bool.and_self, if_true]
section
variable {K : PySem.W.Frag} {S : Store}
theorem x1' {okm : Rho → Bool} {f : Str} {v : D} (h : okm [none, some (.val v), none] = true) : iniDen okm (iSto f (dVar 1) iNil) [.val v] S = some ([(f, v)], S) := x1 h
theorem x2 {okm : Rho → Bool} {f g : Str} {u v : D} (h : okm [none, some (.val u), some (.val v), none] = true) : iniDen okm (iSto f (dVar 1) (iSto g (dVar 2) iNil)) [.val u, .val v] S = some ([(g, v), (f, u)], S) := by
  unfold iniDen
  show (if okm [none, some (.val u), some (.val v), none] then _ else none) = _
  rw [if_pos h]
  rfl
theorem x3 {okm : Rho → Bool} {f g k : Str} {u v t : D} (h : okm [none, some (.val u), some (.val v), some (.val t), none] = true) : iniDen okm (iSto f (dVar 1) (iSto g (dVar 2) (iSto k (dVar 3) iNil))) [.val u, .val v, .val t] S = some ([(k, t), (g, v), (f, u)], S) := by
  unfold iniDen
  show (if okm [none, some (.val u), some (.val v), some (.val t), none] then _ else none) = _
  rw [if_pos h]
  rfl
theorem sm1 {v : D} (h : small (.val v) = true) : (fun ρ : Rho => smallAt 1 ρ && (fun _ => true) ρ) [none, some (.val v), none] = true := by
  show (small (.val v) && true) = true
  rw [h]; rfl
theorem sm2 {u v : D} (h : small (.val u) = true) (h2 : small (.val v) = true) : (fun ρ : Rho => smallAt 1 ρ && (fun ρ => smallAt 2 ρ && (fun _ => true) ρ) ρ) [none, some (.val u), some (.val v), none] = true := by
  show (small (.val u) && (small (.val v) && true)) = true
  rw [h, h2]; rfl
theorem sm2' {u v : D} (h : small (.val u) = true) (h2 : small (.val v) = true) : (fun ρ : Rho => smallAt 2 ρ && (fun ρ => smallAt 1 ρ && (fun _ => true) ρ) ρ) [none, some (.val u), some (.val v), none] = true := by
  show (small (.val v) && (small (.val u) && true)) = true
  rw [h, h2]; rfl
theorem small_int {n : Int} (h0 : 0 ≤ n) (h1 : n ≤ 1000000000) : small (.val (.int n)) = true := by
  have hlog : n.natAbs.log2 < 1920 := by
    have hlt : n.natAbs < 2 ^ 1920 := Nat.lt_trans (show n.natAbs < 2 ^ 40 by omega) (Nat.pow_lt_pow_right (by decide) (by decide))
    by_cases h0 : n.natAbs = 0
    · rw [h0]; decide
    · exact (Nat.log2_lt h0).mpr hlt
  exact decide_eq_true hlog
theorem missing_ok (k : XKs K clsNames) (w v : Str) (n : Int) (hw : GW w) (hv : GW v) (h0 : 0 ≤ n) (h1 : n ≤ 1000000000) : ∃ ds, fn__law_missing K [.val (.str w), .val (.str v), .val (.int n)] S = .ok (.val (.lst ds)) S ∧ Cls K ds [30, 31, 32, 33, 34] := by
  let F : List (Str × D) := [("name", .str w)]
  let G : List (Str × D) := [("row", .int n), ("kind", .str v)]
  let R : List D := [.exc (He.ga K "UnknownKind") F, .exc (He.ga K "UnknownColumn") F, .exc (He.ga K "UnknownName") F, .exc (He.ga K "NoView") F]
  refine ⟨R ++ [.exc (He.ga K "NoRow") G], ?_, Cls.app (.cons (cl_of k) (.cons (cl_of k) (.cons (cl_of k) (.cons (cl_of k) .nil)))) (.cons (cl_of k) .nil)⟩
  have fds : Fds K "name" (.str w) R := ⟨fd_of k (i := 30) rfl rfl, fd_of k (i := 31) rfl rfl, fd_of k (i := 32) rfl rfl, fd_of k (i := 33) rfl rfl, trivial⟩
  unfold fn__law_missing
  refine fnDen_eq (ρ' := [some (.val (.str w)), some (.val (.str v)), some (.val (.int n)), some (.val (.lst R)), some (.val (.exc (He.ga K "NoRow") G)), none]) ?_
  show dn__law_missing K [some (.val (.str w)), some (.val (.str v)), some (.val (.int n)), none, none, none] S = _
  unfold dn__law_missing
  have ex : ∀ C den, den [.val (.str w)] S = some (F, S) → dExc C 1 den (dCons (dVar 0) dNil) [some (.val (.str w)), some (.val (.str v)), some (.val (.int n)), none, none, none] S = .ok (.val (.exc C F)) S := fun C den h => q_exc (q_cons (q_var rfl) q_nil) rfl h
  refine q_seq (q_set (q_lst (ds := R) (q_cons (ex _ _ (x1 (sm1 hw.small))) (q_cons (ex _ _ (x1 (sm1 hw.small))) (q_cons (ex _ _ (x1 (sm1 hw.small))) (q_cons (ex _ _ (x1 (sm1 hw.small))) q_nil)))) (by simp [R]))) ?_
  refine q_seq (q_set (q_exc (xs := [.val (.str v), .val (.int n)]) (q_cons (q_var rfl) (q_cons (q_var rfl) q_nil)) rfl (x2 (sm2 hv.small (small_int h0 h1))))) ?_
  have al := q_all (f := dVar 3) (i := 5) (e := dOp (oEq false) (dXatt K clsNames "name" (dVar 5)) (dVar 0)) (ρ := [some (.val (.str w)), some (.val (.str v)), some (.val (.int n)), some (.val (.lst R)), some (.val (.exc (He.ga K "NoRow") G)), none]) (S := S) (ds := R) (q_var rfl) (by simp [R]) (by simp)
    fun d hd => q_op (q_fd (fds.get d hd) (q_var rfl)) (q_var rfl) (eq_str w S)
  have k34 := clsIx_at k (i := 34) (x := "NoRow") rfl
  have tp := q_op (o := oEq true) (ρ := [some (.val (.str w)), some (.val (.str v)), some (.val (.int n)), some (.val (.lst R)), some (.val (.exc (He.ga K "NoRow") G)), none]) (S := S) (q_tup (ds := [.str v, .int n]) (q_cons (q_xatt (x := "kind") (g := dVar 4) (fs := G) (d := .str v) (q_var rfl) k34 rfl) (q_cons (q_xatt (x := "row") (g := dVar 4) (fs := G) (d := .int n) (q_var rfl) k34 rfl) q_nil)) (by simp))
    (q_tup (ga := dCons (dVar 1) (dCons (dVar 2) dNil)) (ds := [.str v, .int n]) (q_cons (q_var rfl) (q_cons (q_var rfl) q_nil)) (by simp)) (eq_tup true [.str v, .int n] S (by simp [eqOk_str hv, eqOk_int]) (by simp [deq, toP, toPs, PyData.eqv, PyData.eqvAll]))
  refine q_seq (q_skip (q_or (q_not al) (q_b tp))) (q_ret (q_op (q_var rfl) (q_lst (ds := [.exc (He.ga K "NoRow") G]) (q_cons (q_var rfl) q_nil) (by simp)) (oadd_lst R [.exc (He.ga K "NoRow") G] S (by simp [R]))))
end
end L91

namespace L91
open PySem PySem.Spec PyProof.Rows L2 VL NdefX
theorem q_ifT {p : Den Bool} {f g : Den AV} {ρ : Rho} {S S1 S2 : Store} {a : AV} (e : p ρ S = .ok true S1) (e2 : f ρ S1 = .ok a S2) : dIf p f g ρ S = .ok a S2 := by
  unfold dIf
  rw [e, bind_ok, if_pos rfl]
  exact e2
theorem q_drop {f : Den AV} {ρ : Rho} {S S1 : Store} {a : AV} (e : f ρ S = .ok a S1) : dDrop f ρ S = .go .nx ρ S1 := by unfold dDrop; rw [e]; rfl
section
variable {K : PySem.W.Frag} {S : Store}
theorem paired_ok (k : XKs K clsNames) (u v t : Str) (hu : GW u) (hv : GW v) (ht : GW t) : ∃ ds, fn__law_paired K [.val (.str u), .val (.str v), .val (.str t)] S = .ok (.val (.lst ds)) S ∧ Cls K ds [4, 5, 6, 7, 8] := by
  let F : List (Str × D) := [("second", .str v), ("first", .str u)]
  let G : List (Str × D) := [("third", .str t), ("second", .str v), ("first", .str u)]
  let R : List D := [.exc (He.ga K "BadPair") F, .exc (He.ga K "BadProduct") F, .exc (He.ga K "NotBehind") F, .exc (He.ga K "NotKept") F]
  refine ⟨R ++ [.exc (He.ga K "NotGrouped") G], ?_, Cls.app (.cons (cl_of k) (.cons (cl_of k) (.cons (cl_of k) (.cons (cl_of k) .nil)))) (.cons (cl_of k) .nil)⟩
  have fd1 : Fds K "first" (.str u) R := ⟨fd_of k (i := 4) rfl rfl, fd_of k (i := 5) rfl rfl, fd_of k (i := 6) rfl rfl, fd_of k (i := 7) rfl rfl, trivial⟩
  have fd2 : Fds K "second" (.str v) R := ⟨fd_of k (i := 4) rfl rfl, fd_of k (i := 5) rfl rfl, fd_of k (i := 6) rfl rfl, fd_of k (i := 7) rfl rfl, trivial⟩
  let ρ : Rho := [some (.val (.str u)), some (.val (.str v)), some (.val (.str t)), some (.val (.lst R)), some (.val (.exc (He.ga K "NotGrouped") G)), none]
  unfold fn__law_paired
  refine fnDen_eq (ρ' := ρ) ?_
  show dn__law_paired K [some (.val (.str u)), some (.val (.str v)), some (.val (.str t)), none, none, none] S = _
  unfold dn__law_paired
  have ex : ∀ C den, den [.val (.str u), .val (.str v)] S = some (F, S) → dExc C 2 den (dCons (dVar 0) (dCons (dVar 1) dNil)) [some (.val (.str u)), some (.val (.str v)), some (.val (.str t)), none, none, none] S = .ok (.val (.exc C F)) S := fun C den h => q_exc (q_cons (q_var rfl) (q_cons (q_var rfl) q_nil)) rfl h
  refine q_seq (q_set (q_lst (ds := R) (q_cons (ex _ _ (x2 (sm2 hu.small hv.small))) (q_cons (ex _ _ (x2 (sm2 hu.small hv.small))) (q_cons (ex _ _ (x2 (sm2' hu.small hv.small))) (q_cons (ex _ _ (x2 (sm2 hu.small hv.small))) q_nil)))) (by simp [R]))) ?_
  refine q_seq (q_set (q_exc (xs := [.val (.str u), .val (.str v), .val (.str t)]) (q_cons (q_var rfl) (q_cons (q_var rfl) (q_cons (q_var rfl) q_nil))) rfl (x3 (by
    show (small (.val (.str u)) && (small (.val (.str v)) && (small (.val (.str t)) && true))) = true
    rw [hu.small, hv.small, ht.small]; rfl)))) ?_
  have al := q_all (f := dVar 3) (i := 5) (e := dOp (oEq false) (dTup (dCons (dXatt K clsNames "first" (dVar 5)) (dCons (dXatt K clsNames "second" (dVar 5)) dNil))) (dTup (dCons (dVar 0) (dCons (dVar 1) dNil)))) (ρ := ρ) (S := S) (ds := R) (q_var rfl) (by simp [R]) (by simp [ρ])
    fun d hd => q_op (q_tup (ds := [.str u, .str v]) (q_cons (q_fd (fd1.get d hd) (q_var rfl)) (q_cons (q_fd (fd2.get d hd) (q_var rfl)) q_nil)) (by simp)) (q_tup (ds := [.str u, .str v]) (q_cons (q_var rfl) (q_cons (q_var rfl) q_nil)) (by simp)) (eq_tup false [.str u, .str v] S (by simp [eqOk_str hu, eqOk_str hv]) (by simp [deq, toP, toPs, PyData.eqv, PyData.eqvAll]))
  have k8 := clsIx_at k (i := 8) (x := "NotGrouped") rfl
  have tp := q_op (o := oEq true) (ρ := ρ) (S := S) (q_tup (ds := [.str u, .str v, .str t]) (q_cons (q_xatt (x := "first") (g := dVar 4) (fs := G) (d := .str u) (q_var rfl) k8 rfl) (q_cons (q_xatt (x := "second") (g := dVar 4) (fs := G) (d := .str v) (q_var rfl) k8 rfl) (q_cons (q_xatt (x := "third") (g := dVar 4) (fs := G) (d := .str t) (q_var rfl) k8 rfl) q_nil))) (by simp))
    (q_tup (ga := dCons (dVar 0) (dCons (dVar 1) (dCons (dVar 2) dNil))) (ds := [.str u, .str v, .str t]) (q_cons (q_var rfl) (q_cons (q_var rfl) (q_cons (q_var rfl) q_nil))) (by simp)) (eq_tup true [.str u, .str v, .str t] S (by simp [eqOk_str hu, eqOk_str hv, eqOk_str ht]) (by simp [deq, toP, toPs, PyData.eqv, PyData.eqvAll]))
  exact q_seq (q_skip (q_not al)) (q_seq (q_skip (q_b tp)) (q_ret (q_op (q_var rfl) (q_lst (ds := [.exc (He.ga K "NotGrouped") G]) (q_cons (q_var rfl) q_nil) (by simp)) (oadd_lst R [.exc (He.ga K "NotGrouped") G] S (by simp [R])))))
theorem counted_ok (k : XKs K clsNames) (n : Int) (w : Str) (h0 : 0 ≤ n) (h1 : n ≤ 1000000000) (hw : GW w) : ∃ ds, fn__law_counted K [.val (.int n), .val (.str w)] S = .ok (.val (.lst ds)) S ∧ Cls K ds [9, 10, 11, 12, 13, 14, 15] := by
  let F : List (Str × D) := [("number", .int n)]
  let G : List (Str × D) := [("kind", .str w)]
  let M : List (Str × D) := [("count", .int n)]
  let R : List D := [.exc (He.ga K "BadEquation") F, .exc (He.ga K "BrokenEquation") F, .exc (He.ga K "NoChange") F]
  let Q : List D := [.exc (He.ga K "Ring") G, .exc (He.ga K "BadCount") G, .exc (He.ga K "BadRows") G]
  refine ⟨(R ++ Q) ++ [.exc (He.ga K "TooMany") M], ?_, Cls.app (Cls.app (.cons (cl_of k) (.cons (cl_of k) (.cons (cl_of k) .nil))) (.cons (cl_of k) (.cons (cl_of k) (.cons (cl_of k) .nil)))) (.cons (cl_of k) .nil)⟩
  have fd1 : Fds K "number" (.int n) R := ⟨fd_of k (i := 9) rfl rfl, fd_of k (i := 10) rfl rfl, fd_of k (i := 11) rfl rfl, trivial⟩
  have fd2 : Fds K "kind" (.str w) Q := ⟨fd_of k (i := 12) rfl rfl, fd_of k (i := 13) rfl rfl, fd_of k (i := 14) rfl rfl, trivial⟩
  let ρ : Rho := [some (.val (.int n)), some (.val (.str w)), some (.val (.lst R)), some (.val (.lst Q)), some (.val (.exc (He.ga K "TooMany") M)), none]
  unfold fn__law_counted
  refine fnDen_eq (ρ' := ρ) ?_
  show dn__law_counted K [some (.val (.int n)), some (.val (.str w)), none, none, none, none] S = _
  unfold dn__law_counted
  have sn := small_int h0 h1
  refine q_seq (q_set (q_lst (ds := R) (q_cons (q_exc (xs := [.val (.int n)]) (q_cons (q_var rfl) q_nil) rfl (x1 (sm1 sn))) (q_cons (q_exc (xs := [.val (.int n)]) (q_cons (q_var rfl) q_nil) rfl (x1 (sm1 sn))) (q_cons (q_exc (xs := [.val (.int n)]) (q_cons (q_var rfl) q_nil) rfl (x1 (sm1 sn))) q_nil))) (by simp [R]))) ?_
  refine q_seq (q_set (q_lst (ds := Q) (q_cons (q_exc (xs := [.val (.str w)]) (q_cons (q_var rfl) q_nil) rfl (x1 (sm1 hw.small))) (q_cons (q_exc (xs := [.val (.str w)]) (q_cons (q_var rfl) q_nil) rfl (x1 (sm1 hw.small))) (q_cons (q_exc (xs := [.val (.str w)]) (q_cons (q_var rfl) q_nil) rfl (x1 (sm1 hw.small))) q_nil))) (by simp [Q]))) ?_
  refine q_seq (q_set (q_exc (xs := [.val (.int n)]) (q_cons (q_var rfl) q_nil) rfl (x1 (sm1 sn)))) ?_
  have al1 := q_all (f := dVar 2) (i := 5) (e := dOp (oEq false) (dXatt K clsNames "number" (dVar 5)) (dVar 0)) (ρ := ρ) (S := S) (ds := R) (q_var rfl) (by simp [R]) (by simp [ρ]) fun d hd => q_op (q_fd (fd1.get d hd) (q_var rfl)) (q_var rfl) (eq_int n S)
  have al2 := q_all (f := dVar 3) (i := 5) (e := dOp (oEq false) (dXatt K clsNames "kind" (dVar 5)) (dVar 1)) (ρ := ρ) (S := S) (ds := Q) (q_var rfl) (by simp [Q]) (by simp [ρ]) fun d hd => q_op (q_fd (fd2.get d hd) (q_var rfl)) (q_var rfl) (eq_str w S)
  have k15 := clsIx_at k (i := 15) (x := "TooMany") rfl
  have tp := q_op (o := oEq false) (ρ := ρ) (S := S) (q_xatt (x := "count") (g := dVar 4) (fs := M) (d := .int n) (q_var rfl) k15 rfl) (q_var (i := 0) rfl) (eq_int n S)
  refine q_seq (q_skip (q_or (q_not al1) (q_not al2))) (q_ret (q_ifT (q_b tp) ?_))
  exact q_op (q_op (q_var rfl) (q_var rfl) (oadd_lst R Q S (by simp [R, Q]))) (q_lst (ds := [.exc (He.ga K "TooMany") M]) (q_cons (q_var rfl) q_nil) (by simp)) (oadd_lst (R ++ Q) [.exc (He.ga K "TooMany") M] S (by simp [R, Q]))
theorem plain_ok (k : XKs K clsNames) : ∃ ds, fn__law_plain K [] S = .ok (.val (.lst ds)) S ∧ Cls K ds [20, 21, 22, 23, 24, 25, 26, 27, 28, 29] := by
  let R : List D := [.exc (He.ga K "BadPath") [], .exc (He.ga K "MixedSchemas") [], .exc (He.ga K "MixedInstances") [], .exc (He.ga K "NotFitting") [], .exc (He.ga K "BadHolder") [], .exc (He.ga K "BadFamily") []]
  let Q : List D := [.exc (He.ga K "UnlikeMarks") [], .exc (He.ga K "NothingDone") [], .exc (He.ga K "Stale") [], .exc (He.ga K "BadItem") []]
  refine ⟨R ++ Q, ?_, Cls.app (.cons (cl_of k) (.cons (cl_of k) (.cons (cl_of k) (.cons (cl_of k) (.cons (cl_of k) (.cons (cl_of k) .nil)))))) (.cons (cl_of k) (.cons (cl_of k) (.cons (cl_of k) (.cons (cl_of k) .nil))))⟩
  have ex : ∀ C den ρ, den [] S = some ([], S) → dExc C 0 den dNil ρ S = .ok (.val (.exc C [])) S := fun C den ρ h => q_exc q_nil rfl h
  unfold fn__law_plain
  refine fnDen_eq (ρ' := [some (.val (.lst R))]) ?_
  show dn__law_plain K [none] S = _
  unfold dn__law_plain
  refine q_seq (q_set (q_lst (ds := R) (q_cons (ex _ _ _ rfl) (q_cons (ex _ _ _ rfl) (q_cons (ex _ _ _ rfl) (q_cons (ex _ _ _ rfl) (q_cons (ex _ _ _ rfl) (q_cons (ex _ _ _ rfl) q_nil)))))) (by simp [R]))) ?_
  exact q_ret (q_op (q_var rfl) (q_lst (ds := Q) (q_cons (ex _ _ _ rfl) (q_cons (ex _ _ _ rfl) (q_cons (ex _ _ _ rfl) (q_cons (ex _ _ _ rfl) q_nil)))) (by simp [Q])) (oadd_lst R Q S (by simp [R, Q])))
end
end L91

namespace L91
open PySem PySem.Spec PyProof.Rows L2 VL NdefX
section
variable {K : PySem.W.Frag} {S : Store}
theorem at_new (S : Store) (c : Cell) : (S ++ [c])[S.length]? = some c := by simp
theorem set_new (S : Store) (c c' : Cell) : (S ++ [c]).set S.length c' = S ++ [c'] := by simp
theorem listC_ok (ds : List D) (S : Store) : oListC [.val (.lst ds)] S = .ok (.cell S.length) (S ++ [.lst (ds.map .val)]) := by simp [oListC, seqItems, lstItems]
theorem list_cell (ds : List D) (S : Store) : oList [.cell S.length] (S ++ [.lst (ds.map .val)]) = .ok (.val (.lst ds)) (S ++ [.lst (ds.map .val)]) := by
  unfold oList
  simp only [seqItems, lstItems, at_new, valsOf_map]
theorem append_new (xs : List AV) (a : AV) (S : Store) (ρ : Rho) (h : ρ[6]? = some (some (.cell S.length))) (hx : xs.length < sizeLine) : ∃ b, dAppend (dVar 6) (dCons (dC (.int 0)) dNil) ρ (S ++ [.lst xs]) = .ok b (S ++ [.lst (xs ++ [.val (.int 0)])]) := by
  refine ⟨.val .non, ?_⟩
  show dBM isLst oAppend (dVar 6) (dCons (dC (.int 0)) dNil) ρ (S ++ [.lst xs]) = _
  unfold dBM
  rw [q_var h, bind_ok]
  have e : isLst (.cell S.length) (S ++ [.lst xs]) = true := by simp [isLst, lstItems]
  rw [if_pos e]
  have e2 : dCons (dC (.int 0)) dNil ρ (S ++ [.lst xs]) = .ok [.val (.int 0)] (S ++ [.lst xs]) := rfl
  rw [e2, bind_ok]
  simp [oAppend, hx]
theorem x4c (u : D) (r : Int) (t : List D) (L : AV) (S' : Store) (hL : oList [L] S' = .ok (.val (.lst t)) S') (h1 : small (.val u) = true) (h2 : small (.val (.int r)) = true) (h3 : small (.val (.int (r + 1))) = true) :
    x_Clash [.val u, .val (.int r), .val (.int (r + 1)), L] S' = some (([("trail", .lst t), ("second", .int (r + 1)), ("first", .int r), ("kind", u)] : List (Str × D)), S') := by
  unfold x_Clash iniDen
  have ok : (fun ρ : Rho => smallAt 2 ρ && (fun ρ => smallAt 3 ρ && (fun ρ => smallAt 1 ρ && (fun _ => true) ρ) ρ) ρ) (none :: List.map some [.val u, .val (.int r), .val (.int (r + 1)), L] ++ [none]) = true := by
    show (small (.val (.int r)) && (small (.val (.int (r + 1))) && (small (.val u) && true))) = true
    rw [h1, h2, h3]; rfl
  rw [if_pos ok]
  have dl : dList (dCons (dVar 4) dNil) [none, some (.val u), some (.val (.int r)), some (.val (.int (r + 1))), some L, none] S' = .ok (.val (.lst t)) S' := q_cb (q_cons (q_var rfl) q_nil) hL
  show iSto "kind" (dVar 1) (iSto "first" (dVar 2) (iSto "second" (dVar 3) (iSto "trail" (dList (dCons (dVar 4) dNil)) iNil))) [none, some (.val u), some (.val (.int r)), some (.val (.int (r + 1))), some L, none] S' [] = _
  have t1 : iSto "trail" (dList (dCons (dVar 4) dNil)) iNil [none, some (.val u), some (.val (.int r)), some (.val (.int (r + 1))), some L, none] S' [("second", .int (r + 1)), ("first", .int r), ("kind", u)] = some (([("trail", .lst t), ("second", .int (r + 1)), ("first", .int r), ("kind", u)] : List (Str × D)), S') := by
    unfold iSto
    rw [dl]
    rfl
  exact t1
theorem rows_ok (k : XKs K clsNames) (u w : Str) (n : Int) (T : List D) (hu : GW u) (hw : GW w) (h0 : 0 ≤ n) (h1 : n < 1000000000) (hTl : T.length < 100) (hT : eqOk 7 (.lst T) = true) (hT2 : deq (.tup [.str w, .int n, .int (n + 1), .lst T]) (.tup [.str w, .int n, .int (n + 1), .lst T]) = true) :
    ∃ ds, fn__law_at_rows K [.val (.str u), .val (.int n), .val (.str w), .val (.lst T)] S = .ok (.val (.lst ds)) S ∧ Cls K ds [16, 17, 18, 19] := by
  let F : List (Str × D) := [("row", .int n), ("column", .str u)]
  let G : List (Str × D) := [("column", .str u)]
  let M : List (Str × D) := [("trail", .lst T), ("second", .int (n + 1)), ("first", .int n), ("kind", .str w)]
  let R : List D := [.exc (He.ga K "NotNatural") F, .exc (He.ga K "NotClosed") F]
  refine ⟨R ++ [.exc (He.ga K "BadCells") G, .exc (He.ga K "Clash") M], ?_, Cls.app (.cons (cl_of k) (.cons (cl_of k) .nil)) (.cons (cl_of k) (.cons (cl_of k) .nil))⟩
  have fd1 : Fds K "column" (.str u) R := ⟨fd_of k (i := 16) rfl rfl, fd_of k (i := 17) rfl rfl, trivial⟩
  have fd2 : Fds K "row" (.int n) R := ⟨fd_of k (i := 16) rfl rfl, fd_of k (i := 17) rfl rfl, trivial⟩
  let S1 : Store := S ++ [.lst (T.map .val)]
  let S2 : Store := S ++ [.lst (T.map .val ++ [.val (.int 0)])]
  let ρ : Rho := [some (.val (.str u)), some (.val (.int n)), some (.val (.str w)), some (.val (.lst T)), some (.val (.lst R)), some (.val (.exc (He.ga K "BadCells") G)), some (.cell S.length), some (.val (.exc (He.ga K "Clash") M)), none]
  unfold fn__law_at_rows
  refine fnDen_same (ρ' := ρ) (J := [.lst (T.map .val ++ [.val (.int 0)])]) ?_
  show dn__law_at_rows K [some (.val (.str u)), some (.val (.int n)), some (.val (.str w)), some (.val (.lst T)), none, none, none, none, none] S = .go (.rt _) ρ S2
  unfold dn__law_at_rows
  have sn := small_int h0 (Int.le_of_lt h1)
  have sn1 := small_int (n := n + 1) (by omega) (by omega)
  refine q_seq (q_set (q_lst (ds := R) (q_cons (q_exc (xs := [.val (.str u), .val (.int n)]) (q_cons (q_var rfl) (q_cons (q_var rfl) q_nil)) rfl (x2 (sm2 hu.small sn))) (q_cons (q_exc (xs := [.val (.str u), .val (.int n)]) (q_cons (q_var rfl) (q_cons (q_var rfl) q_nil)) rfl (x2 (sm2 hu.small sn))) q_nil)) (by simp [R]))) ?_
  refine q_seq (q_set (q_exc (xs := [.val (.str u)]) (q_cons (q_var rfl) q_nil) rfl (x1 (sm1 hu.small)))) ?_
  refine q_seq (q_set (q_cb (q_cons (q_var rfl) q_nil) (listC_ok T S))) ?_
  have add1 : ∀ S : Store, oAdd (.val (.int n)) (.val (.int 1)) S = .ok (.val (.int (n + 1))) S := fun S => rfl
  refine q_seq (ρ1 := ρ) (S1 := S1) (q_set (q_exc (xs := [.val (.str w), .val (.int n), .val (.int (n + 1)), .cell S.length]) (q_cons (q_var rfl) (q_cons (q_var rfl) (q_cons (q_op (q_var rfl) q_c (add1 S1)) (q_cons (q_var rfl) q_nil)))) rfl (x4c (.str w) n T (.cell S.length) S1 (list_cell T S) hw.small sn sn1))) ?_
  obtain ⟨b, ap⟩ := append_new (T.map .val) (.val .non) S ρ rfl (by rw [List.length_map]; exact sz_of (by omega))
  refine q_seq (S1 := S2) (q_drop ap) ?_
  have al := q_all (f := dVar 4) (i := 8) (e := dOp (oEq false) (dTup (dCons (dXatt K clsNames "column" (dVar 8)) (dCons (dXatt K clsNames "row" (dVar 8)) dNil))) (dTup (dCons (dVar 0) (dCons (dVar 1) dNil)))) (ρ := ρ) (S := S2) (ds := R) (q_var rfl) (by simp [R]) (by simp [ρ])
    fun d hd => q_op (q_tup (ds := [.str u, .int n]) (q_cons (q_fd (fd1.get d hd) (q_var rfl)) (q_cons (q_fd (fd2.get d hd) (q_var rfl)) q_nil)) (by simp)) (q_tup (ds := [.str u, .int n]) (q_cons (q_var rfl) (q_cons (q_var rfl) q_nil)) (by simp)) (eq_tup false [.str u, .int n] S2 (by simp [eqOk_str hu, eqOk_int]) (by simp [deq, toP, toPs, PyData.eqv, PyData.eqvAll]))
  have k18 := clsIx_at k (i := 18) (x := "BadCells") rfl
  have k19 := clsIx_at k (i := 19) (x := "Clash") rfl
  have t1 := q_op (o := oEq true) (ρ := ρ) (S := S2) (q_xatt (x := "column") (g := dVar 5) (fs := G) (d := .str u) (q_var rfl) k18 rfl) (q_var (i := 0) rfl) (ne_str u S2)
  have t2 := q_op (o := oEq true) (ρ := ρ) (S := S2) (q_tup (ds := [.str w, .int n, .int (n + 1), .lst T]) (q_cons (q_xatt (x := "kind") (g := dVar 7) (fs := M) (d := .str w) (q_var rfl) k19 rfl) (q_cons (q_xatt (x := "first") (g := dVar 7) (fs := M) (d := .int n) (q_var rfl) k19 rfl) (q_cons (q_xatt (x := "second") (g := dVar 7) (fs := M) (d := .int (n + 1)) (q_var rfl) k19 rfl) (q_cons (q_xatt (x := "trail") (g := dVar 7) (fs := M) (d := .lst T) (q_var rfl) k19 rfl) q_nil)))) (by simp))
    (q_tup (ga := dCons (dVar 2) (dCons (dVar 1) (dCons (dAdd (dVar 1) (dC (.int 1))) (dCons (dVar 3) dNil)))) (ds := [.str w, .int n, .int (n + 1), .lst T]) (q_cons (q_var rfl) (q_cons (q_var rfl) (q_cons (q_op (q_var rfl) q_c (add1 S2)) (q_cons (q_var rfl) q_nil)))) (by simp)) (eq_tup true [.str w, .int n, .int (n + 1), .lst T] S2 (by simp [eqOk_str hw, eqOk_int, hT]) hT2)
  exact q_seq (q_skip (q_or (q_not al) (q_b t1))) (q_seq (q_skip (q_b t2)) (q_ret (q_op (q_var rfl) (q_lst (ds := [.exc (He.ga K "BadCells") G, .exc (He.ga K "Clash") M]) (q_cons (q_var rfl) (q_cons (q_var rfl) q_nil)) (by simp)) (oadd_lst R [.exc (He.ga K "BadCells") G, .exc (He.ga K "Clash") M] S2 (by simp [R])))))
end
end L91

namespace L91
open PySem PySem.Spec PyProof.Rows L2 VL NdefX
section
variable {K : PySem.W.Frag} {S : Store}
theorem q_is {names : List Str} {tb : Nat → Bool} {g : Den AV} {ρ : Rho} {S S1 : Store} {C : Addr} {fs : List (Str × D)} {i : Nat} {v : V} (e : g ρ S = .ok (.val (.exc C fs)) S1) (h : clsIx K names C = some i) : dCB (oIsX K names tb) (dCons g (dCons (dTy v) dNil)) ρ S = .ok (.val (.bl (tb i))) S1 := by
  refine q_cb (q_cons e (q_cons q_c q_nil)) ?_
  unfold oIsX
  simp only [h]
theorem compL_sel (bs : List Bool) (ρ : Rho) (h2 : 2 < ρ.length) (h1 : ρ[1]? = some (some (.val (.lst (bs.map D.bl))))) : ∀ ks : List Nat, (∀ k ∈ ks, k < bs.length) →
    compL (gN 2) (dB (dOp oIx (dVar 1) (dVar 2))) (dVar 2) ρ (ks.map fun k => .val (.int (0 + (k : Nat)))) S = .ok ((ks.filter fun k => bs.getD k false).map fun k => .val (.int (0 + (k : Nat)))) S
  | [], _ => rfl
  | k :: ks, hk => by
    have ih := compL_sel bs ρ h2 h1 ks fun x hx => hk x (List.mem_cons_of_mem _ hx)
    have hk0 := hk k List.mem_cons_self
    have g2 : (ρ.set 2 (some (.val (.int (0 + (k : Nat))))))[2]? = some (some (.val (.int (0 + (k : Nat))))) := List.getElem?_set_self h2
    have g1 : (ρ.set 2 (some (.val (.int (0 + (k : Nat))))))[1]? = some (some (.val (.lst (bs.map D.bl)))) := by rw [List.getElem?_set_ne (by decide)]; exact h1
    have ix : oIx (.val (.lst (bs.map D.bl))) (.val (.int (0 + (k : Nat)))) S = .ok (.val (.bl (bs.getD k false))) S := by
      have ei : (0 + ((k : Nat) : Int)) = ((k : Nat) : Int) := by omega
      rw [ei]
      unfold oIx
      simp only [lstItems]
      have at1 : atI ((bs.map D.bl).map AV.val) (k : Int) = some (.val (.bl (bs.getD k false))) := by
        unfold atI ixN
        simp [hk0, List.getD, List.getElem?_eq_getElem hk0]
      rw [at1]
    have t : dB (dOp oIx (dVar 1) (dVar 2)) (ρ.set 2 (some (.val (.int (0 + (k : Nat)))))) S = .ok (bs.getD k false) S := q_b (q_op (q_var g1) (q_var g2) ix)
    rw [List.map_cons]
    unfold compL
    simp only [gN, t]
    rw [List.filter_cons]
    cases hb : bs.getD k false with
    | true =>
      rw [if_pos rfl, q_var g2]
      simp only [ih]
      rfl
    | false =>
      rw [if_neg Bool.false_ne_true]
      exact ih
theorem filt : ∀ i : Fin 35, (List.range 35).filter (fun k => ((List.range 35).map fun j => decide (i.val = j)).getD k false) = [i.val] := by decide +kernel
theorem classes_ok (k : XKs K clsNames) (d : D) (i : Nat) (hi : i < 35) (hd : Cl K d i) : fn__law_classes K [.val d] S = .ok (.val (.lst [.int i])) S := by
  obtain ⟨C, fs, rfl, hC⟩ := hd
  let bs : List Bool := (List.range 35).map fun j => decide (i = j)
  unfold fn__law_classes
  refine fnDen_eq (ρ' := [some (.val (.exc C fs)), some (.val (.lst (bs.map D.bl))), none]) ?_
  show dn__law_classes K [some (.val (.exc C fs)), none, none] S = _
  unfold dn__law_classes
  have is : ∀ (tb : Nat → Bool) (v : V), dCB (oIsX K clsNames tb) (dCons (dVar 0) (dCons (dTy v) dNil)) [some (.val (.exc C fs)), none, none] S = .ok (.val (.bl (tb i))) S := fun tb v => q_is (q_var rfl) hC
  refine q_seq (S1 := S) (q_set (S1 := S) (q_lst (S1 := S) (ds := bs.map D.bl) ?_ (by simp [bs]))) ?_
  · show _ = Out.ok (([AV.val (D.bl (tb_BadName i)), AV.val (D.bl (tb_TwiceNamed i)), AV.val (D.bl (tb_NoImage i)), AV.val (D.bl (tb_BadImage i)), AV.val (D.bl (tb_BadPair i)), AV.val (D.bl (tb_BadProduct i)), AV.val (D.bl (tb_NotBehind i)), AV.val (D.bl (tb_NotKept i)), AV.val (D.bl (tb_NotGrouped i))] : List AV) ++ ([AV.val (D.bl (tb_BadEquation i)), AV.val (D.bl (tb_BrokenEquation i)), AV.val (D.bl (tb_NoChange i)), AV.val (D.bl (tb_Ring i)), AV.val (D.bl (tb_BadCount i)), AV.val (D.bl (tb_BadRows i)), AV.val (D.bl (tb_TooMany i)), AV.val (D.bl (tb_NotNatural i)), AV.val (D.bl (tb_NotClosed i))] : List AV) ++ ([AV.val (D.bl (tb_BadCells i)), AV.val (D.bl (tb_Clash i)), AV.val (D.bl (tb_BadPath i)), AV.val (D.bl (tb_MixedSchemas i)), AV.val (D.bl (tb_MixedInstances i)), AV.val (D.bl (tb_NotFitting i)), AV.val (D.bl (tb_BadHolder i)), AV.val (D.bl (tb_BadFamily i)), AV.val (D.bl (tb_UnlikeMarks i))] : List AV) ++ ([AV.val (D.bl (tb_NothingDone i)), AV.val (D.bl (tb_Stale i)), AV.val (D.bl (tb_BadItem i)), AV.val (D.bl (tb_UnknownKind i)), AV.val (D.bl (tb_UnknownColumn i)), AV.val (D.bl (tb_UnknownName i)), AV.val (D.bl (tb_NoView i)), AV.val (D.bl (tb_NoRow i))] : List AV)) S
    repeat (first | exact q_nil | refine q_cons (is _ _) ?_)
  · have hl : oLen [.val (.lst (bs.map D.bl))] S = .ok (.val (.int (35 : Nat))) S := by simp [oLen, lstItems, bs]
    have c := compL_sel (S := S) bs [some (.val (.exc C fs)), some (.val (.lst (bs.map D.bl))), none] (by simp) rfl (List.range 35) (fun k hk => by simp [bs]; exact List.mem_range.mp hk)
    have e := filt ⟨i, hi⟩
    have e : (List.range 35).filter (fun k => bs.getD k false) = [i] := e
    rw [e] at c
    have c : compL (gN 2) (dB (dOp oIx (dVar 1) (dVar 2))) (dVar 2) [some (.val (.exc C fs)), some (.val (.lst (bs.map D.bl))), none] (rangeL 0 35) S = .ok ([D.int (0 + (i : Nat))].map .val) S := c
    have z : (0 + ((i : Nat) : Int)) = (i : Int) := by omega
    rw [z] at c
    exact q_ret (q_comp (q_range (q_cons (q_cb (q_cons (q_var rfl) q_nil) hl) q_nil) (by decide)) (by rw [rng_len]; exact sz_of (by decide)) c)
end
end L91

namespace L91
open PySem PySem.Spec PyProof.Rows L2 VL NdefX
section
variable {K : PySem.W.Frag} {S : Store}
theorem compL_words (ρ : Rho) (i j : Nat) (h3 : 3 < ρ.length) (h1 : ρ[1]? = some (some (.cell i))) : ∀ (l : List AV) (n : Int) (S : Store), St n S i j → n + 2 * l.length < 900000 →
    ∃ (ws : List Str) (S' : Store), compL (gN 3) dTrue (dCall 1 (fn__law_word K) [] (dCons (dVar 1) dNil)) ρ l S = .ok ((ws.map D.str).map .val) S' ∧ ws.length = l.length ∧ (∀ w ∈ ws, GW w) ∧ St (n + 2 * l.length) S' i j
  | [], n, S, h, _ => ⟨[], S, rfl, rfl, fun w hw => (nomatch hw), (by simpa using h)⟩
  | a :: l, n, S, h, hn => by
    rw [List.length_cons] at hn
    obtain ⟨w, S1, e1, g1, s1, _⟩ := word_ok K n i j S h (by omega)
    obtain ⟨ws, S2, e2, l2, g2, s2⟩ := compL_words ρ i j h3 h1 l (n + 2) S1 s1 (by omega)
    have s3 : St (n + 2 * ((a :: l).length : Int)) S2 i j := by
      have z : n + 2 + 2 * (l.length : Int) = n + 2 * ((a :: l).length : Int) := by rw [List.length_cons]; omega
      rw [← z]; exact s2
    refine ⟨w :: ws, S2, ?_, by simp [l2], fun x hx => ?_, s3⟩
    · have g : (ρ.set 3 (some a))[1]? = some (some (.cell i)) := by rw [List.getElem?_set_ne (by decide)]; exact h1
      have c : dCall 1 (fn__law_word K) [] (dCons (dVar 1) dNil) (ρ.set 3 (some a)) S = .ok (.val (.str w)) S1 := q_call (q_cons (q_var g) q_nil) rfl e1
      unfold compL
      simp only [gN, dTrue, c, e2, if_true]
      rfl
    · rcases List.mem_cons.mp hx with q | q
      · subst q; exact g1
      · exact g2 x q
theorem compL_classes (k : XKs K clsNames) (ρ : Rho) (h8 : 8 < ρ.length) : ∀ (ds : List D) (is : List Nat), Cls K ds is → (∀ i ∈ is, i < 35) → compL (gN 8) dTrue (dCall 1 (fn__law_classes K) [] (dCons (dVar 8) dNil)) ρ (ds.map .val) S = .ok ((is.map fun i : Nat => D.lst [.int i]).map .val) S
  | _, _, .nil, _ => rfl
  | _, _, @Cls.cons _ d i ds is h r, hi => by
    have ih := compL_classes k ρ h8 ds is r fun x hx => hi x (List.mem_cons_of_mem _ hx)
    have g : (ρ.set 8 (some (.val d)))[8]? = some (some (.val d)) := List.getElem?_set_self h8
    have c : dCall 1 (fn__law_classes K) [] (dCons (dVar 8) dNil) (ρ.set 8 (some (.val d))) S = .ok (.val (.lst [.int i])) S := q_call (q_cons (q_var g) q_nil) rfl (classes_ok k d i (hi i List.mem_cons_self) h)
    rw [List.map_cons]
    unfold compL
    simp only [gN, dTrue, c, ih, if_true]
    rfl
theorem compL_ones (ρ : Rho) (h3 : 3 < ρ.length) : ∀ ks : List Nat, compL (gN 3) dTrue (dLst (dCons (dVar 3) dNil)) ρ (ks.map fun k => .val (.int (0 + (k : Nat)))) S = .ok ((ks.map fun i : Nat => D.lst [.int (0 + (i : Nat))]).map .val) S
  | [] => rfl
  | k :: ks => by
    have ih := compL_ones ρ h3 ks
    have g : (ρ.set 3 (some (.val (.int (0 + (k : Nat))))))[3]? = some (some (.val (.int (0 + (k : Nat))))) := List.getElem?_set_self h3
    have c : dLst (dCons (dVar 3) dNil) (ρ.set 3 (some (.val (.int (0 + (k : Nat)))))) S = .ok (.val (.lst [.int (0 + (k : Nat))])) S := q_lst (ds := [.int (0 + (k : Nat))]) (q_cons (q_var g) q_nil) (by simp)
    rw [List.map_cons]
    unfold compL
    simp only [gN, dTrue, c, ih, if_true]
    rfl
theorem loop_is (t1 t2 t3 : Nat → Bool) (v1 v2 v3 : V) (r : SDen) : ∀ (ds : List D) (is : List Nat) (ρ : Rho), Cls K ds is → (∀ i ∈ is, t1 i = true ∧ t2 i = true ∧ t3 i = false) → 8 < ρ.length → ∃ ρ', loopD (gN 8) (dIfS (dOr (dNot (dB (dCB (oIsX K clsNames t1) (dCons (dVar 8) (dCons (dTy v1) dNil))))) (dOr (dNot (dB (dCB (oIsX K clsNames t2) (dCons (dVar 8) (dCons (dTy v2) dNil))))) (dB (dCB (oIsX K clsNames t3) (dCons (dVar 8) (dCons (dTy v3) dNil)))))) r dNext) (ds.map .val) ρ S = .go .nx ρ' S ∧ ρ'.length = ρ.length ∧ ρ'[7]? = ρ[7]?
  | _, _, ρ, .nil, _, _ => ⟨ρ, rfl, rfl, rfl⟩
  | _, _, ρ, @Cls.cons _ d i ds is h rs, hi, h8 => by
    obtain ⟨C, fs, rfl, hC⟩ := h
    obtain ⟨a1, a2, a3⟩ := hi i List.mem_cons_self
    obtain ⟨ρ', e, l, g7⟩ := loop_is t1 t2 t3 v1 v2 v3 r ds is (ρ.set 8 (some (.val (.exc C fs)))) rs (fun x hx => hi x (List.mem_cons_of_mem _ hx)) (by rw [List.length_set]; exact h8)
    refine ⟨ρ', ?_, by rw [l, List.length_set], by rw [g7, List.getElem?_set_ne (by decide)]⟩
    have g : (ρ.set 8 (some (.val (.exc C fs))))[8]? = some (some (.val (.exc C fs))) := List.getElem?_set_self h8
    have b1 := q_is (S := S) (names := clsNames) (K := K) (tb := t1) (v := v1) (q_var g) hC
    have b2 := q_is (S := S) (names := clsNames) (K := K) (tb := t2) (v := v2) (q_var g) hC
    have b3 := q_is (S := S) (names := clsNames) (K := K) (tb := t3) (v := v3) (q_var g) hC
    rw [a1] at b1
    rw [a2] at b2
    rw [a3] at b3
    have sk := q_skip (k := r) (q_or (q_not (q_b b1)) (q_or (q_not (q_b b2)) (q_b b3)))
    rw [List.map_cons]
    unfold loopD
    simp only [gN, sk]
    exact e
theorem ix_w (ws : List Str) (k : Nat) (h : k < ws.length) (ρ : Rho) (S : Store) (hρ : ρ[2]? = some (some (.val (.lst (ws.map D.str))))) : dOp oIx (dVar 2) (dC (.int k)) ρ S = .ok (.val (.str ws[k])) S := by
  refine q_op (q_var hρ) q_c ?_
  unfold oIx
  simp only [lstItems]
  have at1 : atI ((ws.map D.str).map AV.val) (k : Int) = some (.val (.str ws[k])) := by
    unfold atI ixN
    simp [h]
  rw [at1]
theorem eqv35 : deq (.lst ((List.range 35).map fun i : Nat => D.lst [.int i])) (.lst ((List.range 35).map fun i : Nat => D.lst [.int i])) = true := by
  simp [deq, toP, toPs_eq, PyData.eqv]
  decide +kernel
end
end L91

namespace L91
open PySem PySem.Spec PyProof.Rows L2 VL NdefX
theorem range35 : (List.range 35) = ([0, 1, 2, 3] ++ [4, 5, 6, 7, 8] ++ [9, 10, 11, 12, 13, 14, 15] ++ [16, 17, 18, 19] ++ [20, 21, 22, 23, 24, 25, 26, 27, 28, 29] ++ [30, 31, 32, 33, 34] : List Nat) := by decide
theorem len_ne (n : Nat) (ds : List D) (S : Store) (ρ : Rho) (i : Nat) (h : ρ[i]? = some (some (.val (.lst ds)))) (hn : ds.length = n) : dB (dOp (oEq true) (dLen (dCons (dVar i) dNil)) (dC (.int n))) ρ S = .ok false S := by
  have hl : oLen [.val (.lst ds)] S = .ok (.val (.int ds.length)) S := by simp [oLen, lstItems]
  rw [hn] at hl
  exact q_b (q_op (q_cb (q_cons (q_var h) q_nil) hl) q_c (ne_int n S))
theorem t1_ok : ∀ i ∈ ([0, 1, 2, 3] ++ [4, 5, 6, 7, 8] ++ [9, 10, 11, 12, 13, 14, 15] ++ [16, 17, 18, 19] ++ [20, 21, 22, 23, 24, 25, 26, 27, 28, 29] : List Nat), tb_ValueError i = true ∧ tb_SchemawaysError i = true ∧ tb_NameMissing i = false := by decide +kernel
theorem t2_ok : ∀ i ∈ ([30, 31, 32, 33, 34] : List Nat), tb_LookupError i = true ∧ tb_NameMissing i = true ∧ tb_SchemawaysError i = false := by decide +kernel
theorem fn_end {n : Nat} {b : SDen} {as : List AV} {S S' : Store} {d : D} {ρ' : Rho} (h : b (as.map some ++ List.replicate (n - as.length) none) S = .go (.rt (.val d)) ρ' S') : ∃ S2, fnDen n b as S = .ok (.val d) S2 := by
  unfold fnDen fnRaw
  simp only [h]
  show ∃ S2, trimV S (.val d) S' = .ok (.val d) S2
  unfold trimV
  split
  · exact ⟨_, rfl⟩
  · exact ⟨_, rfl⟩
theorem law_ok {K : PySem.W.Frag} (k : XKs K clsNames) (ns : List Int) (hl : ns.length < 1000) : ∃ S', fn_law K [.val (.scr K (ns.map .int))] [] = .ok (.val (.bl true)) S' := by
  obtain ⟨S0, j, mixed, xs, e0, h0, h1, h2, h3, h4⟩ := source_ok K ns hl
  have st0 : St 0 S0 2 j := ⟨1, mixed, 0, xs, h0, h1, h2, h3, by decide, by decide⟩
  let V0 : AV := .val (.scr K (ns.map .int))
  obtain ⟨ws, S1, e1, l1, g1, st1⟩ := compL_words (K := K) [some V0, some (.cell 2), none, none, none, none, none, none, none] 2 j (by simp) rfl (rangeL 0 4) 0 S0 st0 (by rw [rng_len]; decide)
  have lw : ws.length = 4 := by rw [l1, rng_len]
  obtain ⟨w0, w1, w2, w3, rfl⟩ : ∃ w0 w1 w2 w3, ws = [w0, w1, w2, w3] := by
    match ws, lw with
    | [a, b, c, d], _ => exact ⟨a, b, c, d, rfl⟩
  have gw0 := g1 w0 (by simp)
  have gw1 := g1 w1 (by simp)
  have gw2 := g1 w2 (by simp)
  have gw3 := g1 w3 (by simp)
  have st1' : St 8 S1 2 j := st1
  obtain ⟨n, S, e2, n0, n1, _, _⟩ := pick_st K 1000000000 8 2 j S1 (by decide) (by decide) st1' (by decide)
  have n1' : n ≤ 1000000000 := Int.le_of_lt n1
  let T : List D := [.tup [.str "row", .str w0, .int n]]
  have gr : GW "row" := gw_ofString "row" (by decide +kernel)
  have eT : eqOk 7 (.lst T) = true := by
    show eqOks 6 T = true
    rw [eqOks_eq]
    show (eqOk 6 (.tup [.str "row", .str w0, .int n]) && true) = true
    have : eqOk 6 (.tup [.str "row", .str w0, .int n]) = true := by
      show eqOks 5 _ = true
      rw [eqOks_eq]
      simp [eqOk_str gr, eqOk_str gw0, eqOk_int]
    rw [this]; rfl
  have dT : deq (.tup [.str w2, .int n, .int (n + 1), .lst T]) (.tup [.str w2, .int n, .int (n + 1), .lst T]) = true := by simp [T, deq, toP, toPs, PyData.eqv, PyData.eqvAll]
  obtain ⟨dA, eA, cA⟩ := named_ok (S := S) k w0 gw0
  obtain ⟨dB', eB, cB⟩ := paired_ok (S := S) k w0 w1 w2 gw0 gw1 gw2
  obtain ⟨dC', eC, cC⟩ := counted_ok (S := S) k n w3 n0 n1' gw3
  obtain ⟨dD, eD, cD⟩ := rows_ok (S := S) k w1 w2 n T gw1 gw2 n0 n1 (by simp [T]) eT dT
  obtain ⟨dE, eE, cE⟩ := plain_ok (S := S) k
  obtain ⟨dF, eF, cF⟩ := missing_ok (S := S) k w2 w3 n gw2 gw3 n0 n1'
  have lA := cA.len
  have lB := cB.len
  have lC := cC.len
  have lD := cD.len
  have lE := cE.len
  have lF := cF.len
  simp only [List.length_cons, List.length_nil] at lA lB lC lD lE lF
  have cR : Cls K (dA ++ dB' ++ dC' ++ dD ++ dE) ([0, 1, 2, 3] ++ [4, 5, 6, 7, 8] ++ [9, 10, 11, 12, 13, 14, 15] ++ [16, 17, 18, 19] ++ [20, 21, 22, 23, 24, 25, 26, 27, 28, 29]) := (((cA.app cB).app cC).app cD).app cE
  let W : AV := .val (.lst ([w0, w1, w2, w3].map D.str))
  let r1 : Rho := [some V0, some (.cell 2), some W, none, some (.val (.int n)), some (.val (.lst T)), none, none, none]
  let r2 : Rho := [some V0, some (.cell 2), some W, none, some (.val (.int n)), some (.val (.lst T)), some (.val (.lst (dA ++ dB'))), none, none]
  let r3 : Rho := [some V0, some (.cell 2), some W, none, some (.val (.int n)), some (.val (.lst T)), some (.val (.lst (dA ++ dB' ++ dC'))), none, none]
  let r5 : Rho := [some V0, some (.cell 2), some W, none, some (.val (.int n)), some (.val (.lst T)), some (.val (.lst (dA ++ dB' ++ dC' ++ dD ++ dE))), some (.val (.lst dF)), none]
  have i0 : ∀ r S, r[2]? = some (some W) → dOp oIx (dVar 2) (dC (.int 0)) r S = .ok (.val (.str w0)) S := fun r S h => ix_w [w0, w1, w2, w3] 0 (by simp) r S h
  have i1 : ∀ r S, r[2]? = some (some W) → dOp oIx (dVar 2) (dC (.int 1)) r S = .ok (.val (.str w1)) S := fun r S h => ix_w [w0, w1, w2, w3] 1 (by simp) r S h
  have i2 : ∀ r S, r[2]? = some (some W) → dOp oIx (dVar 2) (dC (.int 2)) r S = .ok (.val (.str w2)) S := fun r S h => ix_w [w0, w1, w2, w3] 2 (by simp) r S h
  have i3 : ∀ r S, r[2]? = some (some W) → dOp oIx (dVar 2) (dC (.int 3)) r S = .ok (.val (.str w3)) S := fun r S h => ix_w [w0, w1, w2, w3] 3 (by simp) r S h
  obtain ⟨r6, f1, f2, f3⟩ := loop_is (K := K) (S := S) tb_ValueError tb_SchemawaysError tb_NameMissing (.ty "ValueError") (.ref (He.ga K "SchemawaysError")) (.ref (He.ga K "NameMissing")) (dRet (dC (.bl false))) _ _ r5 cR t1_ok (by simp [r5])
  obtain ⟨r7, f4, f5, f6⟩ := loop_is (K := K) (S := S) tb_LookupError tb_NameMissing tb_SchemawaysError (.ty "LookupError") (.ref (He.ga K "NameMissing")) (.ref (He.ga K "SchemawaysError")) (dRet (dC (.bl false))) _ _ r6 cF t2_ok (by rw [f2]; simp [r5])
  unfold fn_law
  refine fn_end (ρ' := r7) (S' := S) ?_
  show dn_law K [some V0, none, none, none, none, none, none, none, none] [] = _
  unfold dn_law
  refine q_seq (q_set (q_call (q_cons (q_var rfl) q_nil) rfl e0)) ?_
  refine q_seq (q_set (q_comp (ds := [w0, w1, w2, w3].map D.str) (q_range (n := 4) (q_cons q_c q_nil) (by decide)) (by rw [rng_len]; exact sz_of (by decide)) e1)) ?_
  refine q_seq (q_set (q_call (q_cons (q_var rfl) (q_cons (pow9 _ _) q_nil)) rfl e2)) ?_
  refine q_seq (ρ1 := r1) (S1 := S) (q_set (q_lst (ds := T) (q_cons (q_tup (ds := [.str "row", .str w0, .int n]) (q_cons q_c (q_cons (i0 _ _ rfl) (q_cons (q_var rfl) q_nil))) (by simp)) q_nil) (by simp [T]))) ?_
  refine q_seq (ρ1 := r2) (S1 := S) (q_set (q_op (q_call (q_cons (i0 _ _ rfl) q_nil) rfl eA) (q_call (q_cons (i0 _ _ rfl) (q_cons (i1 _ _ rfl) (q_cons (i2 _ _ rfl) q_nil))) rfl eB) (oadd_lst dA dB' S (by omega)))) ?_
  refine q_seq (ρ1 := r3) (S1 := S) (q_set (q_op (q_var rfl) (q_call (q_cons (q_var rfl) (q_cons (i3 _ _ rfl) q_nil)) rfl eC) (oadd_lst (dA ++ dB') dC' S (by rw [List.length_append]; omega)))) ?_
  refine q_seq (q_set (q_op (q_op (q_var rfl) (q_call (q_cons (i1 _ _ rfl) (q_cons (q_var rfl) (q_cons (i2 _ _ rfl) (q_cons (q_var rfl) q_nil)))) rfl eD) (oadd_lst (dA ++ dB' ++ dC') dD S (by rw [List.length_append, List.length_append]; omega))) (q_call q_nil rfl eE) (oadd_lst (dA ++ dB' ++ dC' ++ dD) dE S (by rw [List.length_append, List.length_append, List.length_append]; omega)))) ?_
  refine q_seq (ρ1 := r5) (S1 := S) (q_set (q_call (q_cons (i2 _ _ rfl) (q_cons (i3 _ _ rfl) (q_cons (q_var rfl) q_nil))) rfl eF)) ?_
  refine q_seq (q_skip (q_or (len_ne 30 (dA ++ dB' ++ dC' ++ dD ++ dE) S r5 6 rfl (by simp only [List.length_append]; omega)) (len_ne 5 dF S r5 7 rfl lF))) ?_
  have A1 : dItems (dAdd (dVar 6) (dVar 7)) r5 S = .ok ((dA ++ dB' ++ dC' ++ dD ++ dE ++ dF).map .val) S := q_items (q_op (q_var rfl) (q_var rfl) (oadd_lst (dA ++ dB' ++ dC' ++ dD ++ dE) dF S (by simp only [List.length_append]; omega)))
  have A2 := compL_classes (S := S) k (r5.set 8 none) (by simp [r5]) _ _ (cR.app cF) (fun i hi => by rw [← range35] at hi; exact List.mem_range.mp hi)
  rw [← range35] at A2
  have A3 := q_comp (vs := [8]) A1 (by rw [List.length_map]; simp only [List.length_append]; exact sz_of (by omega)) A2
  have A4 := compL_ones (S := S) (r5.set 3 none) (by simp [r5]) (List.range 35)
  have ez : ((List.range 35).map fun i : Nat => D.lst [.int (0 + (i : Nat))]) = ((List.range 35).map fun i : Nat => D.lst [.int i]) := List.map_congr_left fun i _ => by rw [Int.zero_add]
  rw [ez] at A4
  have A5 := q_comp (vs := [3]) (ρ := r5) (S := S) (it := dRange1 (dCons (dC (.int 35)) dNil)) (q_range (n := 35) (q_cons q_c q_nil) (by decide)) (by rw [rng_len]; exact sz_of (by decide)) A4
  have eq5 : oEq true (.val (.lst ((List.range 35).map fun i : Nat => D.lst [.int i]))) (.val (.lst ((List.range 35).map fun i : Nat => D.lst [.int i]))) S = .ok (.val (.bl false)) S := by
    have e : eqOk 8 (.lst ((List.range 35).map fun i : Nat => D.lst [.int i])) = true := by decide +kernel
    unfold oEq
    simp only [rd, e, eqv35, Bool.and_self, if_true]
    rfl
  refine q_seq (q_skip (q_b (q_op A3 A5 eq5))) ?_
  have B1 : dFor (dItems (dVar 6)) (gN 8) (dIfS (dOr (dNot (dB (dCB (oIsX K clsNames tb_ValueError) (dCons (dVar 8) (dCons (dTy (.ty "ValueError")) dNil))))) (dOr (dNot (dB (dCB (oIsX K clsNames tb_SchemawaysError) (dCons (dVar 8) (dCons (dTy (.ref (He.ga K "SchemawaysError"))) dNil))))) (dB (dCB (oIsX K clsNames tb_NameMissing) (dCons (dVar 8) (dCons (dTy (.ref (He.ga K "NameMissing"))) dNil)))))) (dRet (dC (.bl false))) dNext) r5 S = .go .nx r6 S := by
    unfold dFor
    rw [q_items (ds := dA ++ dB' ++ dC' ++ dD ++ dE) (q_var rfl), Out.st_ok]
    exact f1
  refine q_seq B1 ?_
  have g7 : r6[7]? = some (some (.val (.lst dF))) := f3.trans rfl
  have B2 : dFor (dItems (dVar 7)) (gN 8) (dIfS (dOr (dNot (dB (dCB (oIsX K clsNames tb_LookupError) (dCons (dVar 8) (dCons (dTy (.ty "LookupError")) dNil))))) (dOr (dNot (dB (dCB (oIsX K clsNames tb_NameMissing) (dCons (dVar 8) (dCons (dTy (.ref (He.ga K "NameMissing"))) dNil))))) (dB (dCB (oIsX K clsNames tb_SchemawaysError) (dCons (dVar 8) (dCons (dTy (.ref (He.ga K "SchemawaysError"))) dNil)))))) (dRet (dC (.bl false))) dNext) r6 S = .go .nx r7 S := by
    unfold dFor
    rw [q_items (ds := dF) (q_var g7), Out.st_ok]
    exact f4
  exact q_seq B2 (q_ret q_c)
end L91

namespace L91
open PySem PySem.Spec PyProof.Rows L2 VL NdefX
theorem cx0_of {P : Program} {w : World} {K : PySem.W.Frag} {mg : Str → Option Value} {base : Heap} {k : Nat} {f : Addr} {fd : FuncData} {ps : List Str} {sp : Sp} (F : FnOk P w K mg base (L2.CX P w) k f fd ps sp) : FnOk P w K mg base CX0 k f fd ps (fun vs H Q _ => sp vs H Q fun _ _ _ => False) :=
  ⟨fun vs H Q E h => F.len vs H Q _ h, fun A outer s H args us vs Q E hr e0 hb rv h => codeAny_mono (F.run A outer s H args us vs Q (fun _ _ _ => False) hr e0 hb rv h) fun r s' z => by
    cases r with
    | ok fl => cases fl <;> exact z
    | error e =>
      obtain ⟨_, _, _, _, _, _, _, _, _, _, _, _, q⟩ := z
      exact q.elim⟩
theorem reps_ints (F : Hp) : ∀ ns : List Int, Reps F (ns.map V.int) (ns.map D.int)
  | [] => .nil
  | n :: ns => .cons .int (reps_ints F ns)
theorem law_sp {K : PySem.W.Frag} (k : XKs K clsNames) (H : Hp) (a : Addr) (ns : List Int) (hl : ns.length ≤ 63) (ho : Only H) (hs : SqL K H a (ns.map V.int)) : spOf 1 (fn_law K) [.ref a] H (fun v _ => v = .bl true) fun _ _ _ => False := by
  obtain ⟨S', e⟩ := law_ok k ns (by omega)
  have fin : ∀ F : Hp, Sub F H → Rep F (.ref a) (.scr K (ns.map .int)) → spOf 1 (fn_law K) [.ref a] H (fun v _ => v = .bl true) fun _ _ _ => False := fun F hF hr => by
    refine ⟨rfl, ⟨F, [], none⟩, [], [.val (.scr K (ns.map .int))], ⟨hF, rfl, List.nodup_nil, fun i c p h => by simp at h⟩, .cons hr .nil, ?_⟩
    rw [e]
    intro W' H' s r v rv
    cases rv
    rfl
  rcases hs with h | h
  · rcases h with h | ⟨o, h⟩
    · rcases ho a with z | ⟨o, xs, z⟩
      · rw [h] at z; cases z
      · rw [h] at z; cases z
    · exact fin H (Sub.refl H) (.scr (.inl ⟨o, h⟩) (reps_ints _ ns))
  · exact fin (fun _ => none) (fun _ _ q => nomatch q) (.scr (.inr fun H => .inr h) (reps_ints _ ns))
theorem facts2 {w : World} {K : PySem.W.Frag} {h : Heap} {mg : Str → Option Value} {f : Addr} (X : K.In h) (G : h.Ns mainGlobals mg) (hlaw : mg ("law" : Str) = some (.ref f)) (c : obsX hfa hfn hxb hxs K = valX hfn hxs) :
    ∃ (fd : FuncData) (sp : Sp), (∀ (s : Shared) (v : Value), BindsTo s fd ⟨[v], []⟩ [("_law_script", v)]) ∧ (∀ (H : Hp) (a : Addr) (ns : List Int), ns.length ≤ 63 → Only H → SqL K H a (ns.map V.int) → sp [.ref a] H (fun v _ => v = .bl true) fun _ _ _ => False) ∧
      ∀ base : Heap, K.In base → base.Ns mainGlobals mg → FnOk PySem.Challenge.pw_schemaways_k91_errors w K mg base CX0 4 f fd ["_law_script"] sp := by
  have c0 := facts (w := w) (base := h) X G c
  obtain ⟨fd, F⟩ := c0.d_law
  have e := hlaw.symm.trans (c0.g "law" (by decide))
  cases e
  have b := FunD.bindsA (ps := ["_law_script"]) F fun _ _ _ _ _ _ us hl => match us, hl with | [_], _ => rfl
  refine ⟨fd, fun vs H Q _ => spOf 1 (fn_law K) vs H Q fun _ _ _ => False, fun s v => b s [v] rfl, fun H a ns hl ho hs => law_sp c0.xk H a ns hl ho hs, fun base KB GB => cx0_of ?_⟩
  have c1 := facts (w := w) (base := base) X G c
  exact vl_law c1 F
end L91

open PySem PySem.W PySem.Calls PyProof.Rows
theorem PySem.Challenge.cw_schemaways_k91_errors_holds : PySem.Challenge.rw_schemaways_k91_errors.Holds := by
  w_on; o_law
  refine HandSHeadRun.head_any (r := OpenLaw.row PySem.Challenge.rw_schemaways_k91_errors) (q := view (OpenLaw.row PySem.Challenge.rw_schemaways_k91_errors).prog [L91.lawIx]) (H := L91.hk) (ob := L91.ob) (M := 10500) (loose := L91.hnames) (d := HandSHeadRun.topDef (OpenLaw.row PySem.Challenge.rw_schemaways_k91_errors).prog L91.lawIx) (kwd := []) L91.ob_eq
    (by kernel_rfl) (fun s => by kernel_rfl) L91.run (by kernel_rfl) (by kernel_rfl) (by kernel_rfl) (by rfl) (by first | assumption | decide +kernel) (by decide +kernel) ⟨rfl, rfl, rfl, rfl, rfl, by decide +kernel⟩ ?hw ?hc
  case hw => w_witness2
  case hc =>
    refine L2.walk_ofE (l := PySem.Challenge.rw_schemaways_k91_errors) (n := 63) (k := 4) (x := "_law_script") (CX := L2.CX0) rfl (by decide) (by kernel_rfl) ⟨rfl, by decide, by decide⟩ ?F (fun _ _ _ _ z => z)
    intro w mg fa h Y G hmg0
    obtain ⟨K, KX, c⟩ := Y
    have hmg : mg ("law" : PySem.Str) = some (.ref fa) := by
      have e : (HandSHeadRun.topDef (OpenLaw.row PySem.Challenge.rw_schemaways_k91_errors).prog L91.lawIx).name = ("law" : PySem.Str) := by kernel_rfl
      rw [← e]
      exact hmg0
    obtain ⟨fd, sp, hb, hsp, hF⟩ := L91.facts2 (w := w) KX G hmg c
    exact ⟨K, fd, sp, KX, hb, hsp, hF⟩

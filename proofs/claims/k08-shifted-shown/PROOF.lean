import PyProof.Rows.All
import Wide.All
import OpenK.AllK
import Wide.FinOn
import HandS.Words
import HandS.Head0
import HandS.Head1
import HandS.Head2
import HandS.HeadEnd
import HandS.HeadHook1
import HandS.HeadHook2
import HandS.ForMost
import HandS.Evl
import HandS.Flow
import HandS.Style
import HandS.TupAny
import HandS.TupLe
import HandS.Conv
import HandS.IsInst
import HandS.Property
import HandS.MakeKw
import HandS.MakeKwOnly
import HandS.Defaults
import HandS.FStr
import HandS.Lambda
import HandS.ExcInit
import PyProof.ReprRoads
import HandS.RaiseMore
import HandS.SortInts
import KE.KExcIs
import KE.KFmtOwn
import HandS.Small
import KE.KStateDown
import PyProof.ReprLen
import KE.GoesEnum
import KE.GoesMore
import HandS.Star
import HandS.WideBits
import HandS.Wide
import PyProof.Rows.Range3
import KE.DataAny
import KE.KOpsOwn
import KE.KExcInit
import HandS.EndTab
import HandS.Sort
import PyProof.ListRange
import PyProof.Rows.GenSrcRange
import PySem.Challenge.RW_owntimes_k08_shifted_and_shown
set_option Elab.async false
set_option linter.all false
set_option maxRecDepth 100000
set_option maxHeartbeats 4000000
/-! DV0: what the head's look needs -/
namespace Dv
open PySem PySem.Spec PyProof.Rows L2
/-- a deep value: data without addresses -/
inductive D where
  | non
  | bl (b : Bool)
  | int (i : Int)
  | str (x : Str)
  | tup (l : List D)
  | lst (l : List D)
  | scr (l : List Int)
  | obj (c : Nat) (ds : List D)
  /-- an exception of an own class, its attributes -/
  | exc (c : Nat) (ds : List D)
  /-- a dict: its keys, their values -/
  | dic (ks vs : List D)
/-- the classes whose instances are data: their names, their attributes in the order in which they are set -/
def clsName : Nat → Str
  | 0 => "Lags"
  | 1 => "FormedLags"
  | 2 => "Station"
  | 3 => "Link"
  | 4 => "Line"
  | 5 => "Walk"
  | 6 => "Orders"
  | 7 => "Exchange"
  | 8 => "Book"
  | 20 => "InvalidPeriod"
  | 21 => "InvalidNumber"
  | 22 => "InvalidText"
  | 23 => "InvalidName"
  | 24 => "InvalidHands"
  | 25 => "InvalidStock"
  | 26 => "InvalidFlag"
  | 27 => "InvalidOutlet"
  | 28 => "InvalidIndex"
  | 29 => "InvalidTimes"
  | 30 => "InvalidClaim"
  | 31 => "NotLags"
  | 32 => "NotALine"
  | 33 => "NotALink"
  | 34 => "InvalidNumbers"
  | 35 => "InvalidStations"
  | 36 => "InvalidLinks"
  | 37 => "InvalidTasks"
  | 38 => "InvalidNames"
  | 39 => "UnknownName"
  | 40 => "Taken"
  | 41 => "InUse"
  | 42 => "TooMany"
  | 43 => "Stuck"
  | 44 => "EarlyLink"
  | 45 => "NothingToUndo"
  | 46 => "NotAsked"
  | 47 => "Broken"
  | _ => ""
def clsFlds : Nat → List Str
  | 0 => ["form"]
  | 1 => ["form"]
  | 2 => ["sides"]
  | 3 => ["sides"]
  | 4 => ["sides"]
  | 5 => ["rows", "begin_row", "end_row"]
  | 6 => ["known", "outlets", "found", "none"]
  | 7 => ["chosen", "firsts", "cost", "mates"]
  | 34 | 35 | 36 | 37 | 38 | 41 | 44 | 46 => ["index"]
  | 42 => ["limit"]
  | 43 => ["ring"]
  | 47 => ["shown", "index"]
  | 20 | 21 | 22 | 23 | 24 | 25 | 26 | 27 | 28 | 29 | 30 | 31 | 32 | 33 | 39 | 40 => ["given"]
  | _ => []
/-- one def: where it stands, its name, qualified name, parameters, body, scope, defaults -/
structure DefX where
  at_ : PySem.W.Frag → Addr
  name : Str
  qual : Str
  params : Arguments
  body : List Stmt
  scope : Scope
  dfl : PySem.W.Frag → List V := fun _ => []
  kwd : List (Str × V) := []
def obV (K : PySem.W.Frag) (p : Addr) : He.FnW := match K.lookup p with
  | some ⟨_, _, .func fd, _⟩ => some (fd.name, fd.qualname, fd.params, fd.body, fd.scope, fd.globals, fd.closure, fd.builtins)
  | _ => none
def DefX.val (d : DefX) : He.FnW := some (d.name, d.qual, d.params, .stmts d.body, d.scope, mainGlobals, [], builtinsNs)
def DefX.ok (K : PySem.W.Frag) (d : DefX) : Bool := PySem.W.keepIn K (.ref (d.at_ K)) && (match K.lookup (d.at_ K) with
  | some ⟨_, _, .func fd, _⟩ => PySem.W.codeIn K fd.code d.qual && (He.dflB K fd.defaults (d.dfl K) && He.kwdB K fd.kwdefaults d.kwd)
  | _ => false)
def obX (fa : List (PySem.W.Frag → Bool)) (fn : List DefX) (K : PySem.W.Frag) : He.AlD := ((fa.all fun f => f K) && fn.all fun d => d.ok K, fn.map fun d => obV K (d.at_ K))
def vaX (fn : List DefX) : He.AlD := (true, fn.map DefX.val)
/-- the getter of a property -/
def pGet (K : PySem.W.Frag) (p : Addr) : Addr := match PySem.W.recIn K p "property" with
  | some (.ref g :: _) => g
  | _ => 0
def clB (K : PySem.W.Frag) (x : Str) : Bool := (He.Fa.glo x).ok K && ((He.Fa.cls x).ok K && (He.eqO (PySem.W.findIn K (.ref (He.ga K x)) "__class__") (some (some (.builtin "object.__class__"))) &&
  (decide (PySem.W.specialIn K (.builtin "object.__class__") "__get__" = some (some (.builtin "getset_descriptor.__get__"))) && (decide (PySem.W.takesIn K (.builtin "object.__class__") = some true) && decide (PySem.W.mroIn K (He.ga K x) (.type "object") = some true)))))
def propB (K : PySem.W.Frag) (x m : Str) : Bool := He.eqO (PySem.W.findIn K (.ref (He.ga K x)) m) (some (some (.ref (He.ma K (He.ga K x) m)))) && (decide (PySem.W.specialIn K (.ref (He.ma K (He.ga K x) m)) "__get__" = some (some (.builtin "property.__get__"))) &&
  (decide (PySem.W.takesIn K (.ref (He.ma K (He.ga K x) m)) = some true) && decide ((PySem.W.recIn K (He.ma K (He.ga K x) m) "property").bind List.head? = some (.ref (pGet K (He.ma K (He.ga K x) m))))))
/-- plain defaults -/
def cV : D → V
  | .non => .non
  | .bl b => .bl b
  | .int i => .int i
  | .str x => .str x
  | _ => .non
/-- the i-th default of the def at f, an object -/
def dfA (K : PySem.W.Frag) (f : Addr) (i : Nat) : Addr := match K.lookup f with
  | some ⟨_, _, .func fd, _⟩ => (match fd.defaults with
    | .ref T => (match K.lookup T with
      | some ⟨_, _, .seq its _, _⟩ => (match its.toList[i]? with
        | some (.ref a) => a
        | _ => 0)
      | _ => 0)
    | _ => 0)
  | _ => 0
/-- the empty tuple stands at a -/
def tupE (K : PySem.W.Frag) (a : Addr) : Bool := match K.lookup a with
  | some ⟨.type "tuple", _, .seq ⟨[]⟩ _, _⟩ => true
  | _ => false
def cdV (K : PySem.W.Frag) (f : Addr) : Value := match K.lookup f with
  | some ⟨_, _, .func fd, _⟩ => fd.code
  | _ => .none
def cdA (K : PySem.W.Frag) (f : Addr) : Addr := match cdV K f with
  | .ref c => c
  | _ => 0
def tbA (K : PySem.W.Frag) (f : Addr) : Addr := match K.lookup (cdA K f) with
  | some ⟨_, _, .fields vs, _⟩ => (match vs.getD 11 .none with
    | .ref P => P
    | _ => 0)
  | _ => 0
def isStrV : Value → Bool
  | .str _ _ => true
  | _ => false
def isIntV : Value → Bool
  | .int _ _ => true
  | _ => false
def isBoolV : Value → Bool
  | .bool _ => true
  | _ => false
def codeB (P c : Addr) : Option Obj → Bool
  | some ⟨.type x, _, .fields vs, _⟩ => decide (x = "code") && (decide (vs[11]? = some (.ref P)) && (decide (vs.getD 11 .none = .ref P) && (isStrV (vs.getD 18 .none) && (isIntV (vs.getD 7 .none) && (isBoolV (vs.getD 9 .none) && (isIntV (vs.getD 10 .none) && decide (c ≠ P)))))))
  | _ => false
def cdB (K : PySem.W.Frag) (f : Addr) : Bool := decide (cdV K f = .ref (cdA K f)) && (codeB (tbA K f) (cdA K f) (K.lookup (cdA K f)) && (K.lookup (tbA K f)).isNone)
/-- what is reached, the tables left out -/
def asL (g : Addr → Option Obj) (n : Nat) : List Addr := (He.asD g n).filter fun a => match g a with
  | some ⟨.none, _, .fields _, _⟩ => false
  | _ => true
def tabEmpty : Option Obj → Bool
  | some ⟨.none, none, .fields vs, sl⟩ => vs.isEmpty && sl.isEmpty
  | _ => false
def nodupA : List Addr → Bool
  | [] => true
  | a :: r => !r.contains a && nodupA r
def lamB (K : PySem.W.Frag) (g : Addr → Option Obj) (fl : List DefX) : Bool := (fl.all fun d => cdB K (d.at_ K) && tabEmpty (g (tbA K (d.at_ K)))) && nodupA (fl.map fun d => tbA K (d.at_ K))
/-- own classes, then the base's order -/
def refsB (mb : List Value) : List Value → Bool
  | .ref _ :: r => refsB mb r
  | l => l == mb
/-- the shape of a class over a built-in exception -/
def xcSh (bmB : List Value) (n : String) (C : Addr) : Option Obj → Bool
  | some ⟨t, _, .cls cd, sl⟩ => decide (t = .type "type") && (match cd.mro, sl.toList with
    | .ref A :: bm, [_, _, _, _, some (.builtin m), _] => decide (A = C) && (decide (m = n) && (!cd.hasDel && (cd.hasDict && refsB bmB bm)))
    | _, _ => false)
  | _ => false
def xcB (K : PySem.W.Frag) (C : Addr) : Bool := (xcSh [.type "ValueError", .type "Exception", .type "BaseException", .type "object"] "ValueError.__new__" C (K.lookup C) || (xcSh [.type "LookupError", .type "Exception", .type "BaseException", .type "object"] "LookupError.__new__" C (K.lookup C) || xcSh [.type "ArithmeticError", .type "Exception", .type "BaseException", .type "object"] "ArithmeticError.__new__" C (K.lookup C))) &&
  (He.eqO (PySem.W.findIn K (.ref C) "__setattr__") (some (some (.builtin "object.__setattr__"))) && (decide (PySem.W.subIn K (.ref C) (.type "BaseException") = some true) && (decide (PySem.W.typeIn K (.ref C) = some (.type "type")) && PySem.W.keepIn K (.ref C))))
/-- made by its own __init__ -/
def xcFB (K : PySem.W.Frag) (c : Nat) : Bool := (He.Fa.glo (clsName c)).ok K && (xcB K (He.ga K (clsName c)) && (He.eqO (PySem.W.findIn K (.ref (He.ga K (clsName c))) "__init__") (some (some (.ref (He.ma K (He.ga K (clsName c)) "__init__")))) && (((clsFlds c).all fun f => He.eqO (PySem.W.findIn K (.ref (He.ga K (clsName c))) f) (some none)) && decide (PySem.W.typeIn K (.ref (He.ma K (He.ga K (clsName c)) "__init__")) = some (.type "function")))))
/-- read by its attributes, asked for its class -/
def xcIB (K : PySem.W.Frag) (c : Nat) : Bool := (He.Fa.glo (clsName c)).ok K && ((PySem.W.clsIn K (He.ga K (clsName c))).isSome && (He.eqO (PySem.W.findIn K (.ref (He.ga K (clsName c))) "__getattribute__") (some (some (.builtin "BaseException.__getattribute__"))) && (He.eqO (PySem.W.findIn K (.ref (He.ga K (clsName c))) "__getattr__") (some none) &&
  (decide (PySem.W.subIn K (.ref (He.ga K (clsName c))) (.type "BaseException") = some true) && (He.eqO (PySem.W.findIn K (.ref (He.ga K (clsName c))) "__class__") (some (some (.builtin "object.__class__"))) && (decide (PySem.W.specialIn K (.builtin "object.__class__") "__get__" = some (some (.builtin "getset_descriptor.__get__"))) && (decide (PySem.W.takesIn K (.builtin "object.__class__") = some true) && (decide (PySem.W.mroIn K (He.ga K (clsName c)) (.type "object") = some true) && (PySem.W.hasDictIn K (He.ga K (clsName c)) && (clsFlds c).all fun f => He.eqO (PySem.W.findIn K (.ref (He.ga K (clsName c))) f) (some none))))))))))
def lowB (K : PySem.W.Frag) (nm : String) (f : Addr) (x x' : Str) : Bool := decide (He.ga K x ≠ He.ga K x') && (PySem.W.selfFirst K (He.ga K x) && (PySem.W.selfFirst K (He.ga K x') && (He.eqO (PySem.W.findIn K (.ref (He.ga K x)) (PySem.dunder nm)) (some (some (.ref f))) && (He.eqO (PySem.W.findIn K (.ref (He.ga K x')) (PySem.dunder nm)) (some (some (.ref f))) &&
  (He.eqO (PySem.W.findIn K (.ref (He.ga K x)) (dunderR nm)) (some none) && He.eqO (PySem.W.findIn K (.ref (He.ga K x')) (dunderR nm)) (some none))))))
def nameB (cd : Option ClassData) : Bool := match cd with
  | some cd => decide (s!"type object '{cd.name.toString}' has no attribute '".length ≤ 90) && decide (cd.name.cps.foldl (fun k c => k + (Str.utf8Of c).length) 0 ≤ 100)
  | none => false
def noatB (K : PySem.W.Frag) (C : Addr) (name : Str) : Bool := decide (PySem.W.nsIn K cStatics "thirdparty.any" = some none) && (decide (PySem.W.typeIn K (.ref C) = some (.type "type")) && (nameB (PySem.W.clsIn K C) && (decide (PySem.W.findIn K (.type "type") "__getattribute__" = some (some (.builtin "type.__getattribute__"))) && (decide (PySem.W.findIn K (.type "type") "__getattr__" = some none) &&
  (decide (PySem.W.subIn K (.type "type") (.type "type") = some true) && (decide (PySem.W.findIn K (.type "type") name = some none) && (He.eqO (PySem.W.findIn K (.ref C) name) (some none) && decide (name.length ≤ 100))))))))
def rorB (K : PySem.W.Frag) (C : Addr) : Bool := decide (PySem.W.nsIn K cStatics "thirdparty.any" = some none) && (decide (PySem.W.typeIn K (.ref C) = some (.type "type")) && (decide (PySem.W.findIn K (.type "type") "__getattribute__" = some (some (.builtin "type.__getattribute__"))) && (decide (PySem.W.subIn K (.type "type") (.type "type") = some true) &&
  (decide (PySem.W.findIn K (.type "type") "__ror__" = some (some (.builtin "type.__ror__"))) && (decide (PySem.W.specialIn K (.builtin "type.__ror__") "__get__" = some (some (.builtin "wrapper_descriptor.__get__"))) && (decide (PySem.W.takesIn K (.builtin "type.__ror__") = some false) && He.eqO (PySem.W.findIn K (.ref C) "__ror__") (some none)))))))
def obE (as : List Addr) (fa : List (PySem.W.Frag → Bool)) (fn fl : List DefX) (g : Addr → Option Obj) : He.AlD × Bool := (obX fa fn (He.frG g as), lamB (He.frG g as) g fl)
/-- one run by two looks -/
theorem two_looks {α β γ δ : Type} {o : Option α} {f : α → β} {g : α → γ} {h : α → δ} {a : β} {b : γ} {c : δ} (e1 : o.map (fun s => (f s, g s)) = some (a, b)) (e2 : o.map h = some c) : o.map (fun s => (f s, g s, h s)) = some (a, b, c) := by
  cases o with
  | none => cases e1
  | some s =>
    have e1' : (f s, g s) = (a, b) := Option.some.inj e1
    have e2' : h s = c := Option.some.inj e2
    show some (f s, g s, h s) = some (a, b, c)
    rw [← (Prod.mk.inj e1').1, ← (Prod.mk.inj e1').2, ← e2']
end Dv
set_option Elab.async false
set_option linter.all false
set_option maxRecDepth 100000
set_option maxHeartbeats 4000000
noncomputable section
namespace Lw
open PySem PySem.Spec PyProof.Rows L2 Dv
def top (i : Nat) : Stmt := PySem.Challenge.pw_owntimes_k08_shifted_and_shown.main.body.getD i (.Pass ⟨0, 0, 0, 0⟩)
def mth (i j : Nat) : Stmt := match top i with
  | .ClassDef (body := b) .. => b.getD j (.Pass ⟨0, 0, 0, 0⟩)
  | s => s
def d_law_cell : DefX := ⟨fun K => He.ga K "_law_cell", "_law_cell", "_law_cell", defArgs (top 57), defBody (top 57), defScope (top 57), fun K => [], []⟩
abbrev N_law_cell : List Str := ["_law_cells", "_law_k", "_law_seed", "_law_part_here"]
abbrev P_law_cell : List Str := ["_law_cells", "_law_k"]
def d_law_well : DefX := ⟨fun K => He.ga K "_law_well", "_law_well", "_law_well", defArgs (top 58), defBody (top 58), defScope (top 58), fun K => [], []⟩
abbrev N_law_well : List Str := ["_law_cells", "_law_k", "_law_cell_here", "_law_figures"]
abbrev P_law_well : List Str := ["_law_cells", "_law_k"]
def d_law_draw : DefX := ⟨fun K => He.ga K "_law_draw", "_law_draw", "_law_draw", defArgs (top 59), defBody (top 59), defScope (top 59), fun K => [], []⟩
abbrev N_law_draw : List Str := ["_law_well_here", "_law_many", "_law_figure"]
abbrev P_law_draw : List Str := ["_law_well_here", "_law_many"]
def d_law_flags : DefX := ⟨fun K => He.ga K "_law_flags", "_law_flags", "_law_flags", defArgs (top 63), defBody (top 63), defScope (top 63), fun K => [], []⟩
abbrev N_law_flags : List Str := ["_law_lone", "_law_tail", "_law_per", "_law_size", "_law_flags_here", "_law_k", "_law_at"]
abbrev P_law_flags : List Str := ["_law_lone", "_law_tail", "_law_per", "_law_size"]
def d_is_integer : DefX := ⟨fun K => He.ga K "is_integer", "is_integer", "is_integer", defArgs (top 29), defBody (top 29), defScope (top 29), fun K => [], []⟩
abbrev N_is_integer : List Str := ["value"]
abbrev P_is_integer : List Str := ["value"]
def d_check_numbers : DefX := ⟨fun K => He.ga K "check_numbers", "check_numbers", "check_numbers", defArgs (top 37), defBody (top 37), defScope (top 37), fun K => [], []⟩
abbrev N_check_numbers : List Str := ["value", "index", "number"]
abbrev P_check_numbers : List Str := ["value"]
def d_least_period : DefX := ⟨fun K => He.ga K "least_period", "least_period", "least_period", defArgs (top 38), defBody (top 38), defScope (top 38), fun K => [], []⟩
abbrev N_least_period : List Str := ["flags", "start", "period", "size", "ahead", "k"]
abbrev P_least_period : List Str := ["flags", "start", "period"]
def d_least_form : DefX := ⟨fun K => He.ga K "least_form", "least_form", "least_form", defArgs (top 39), defBody (top 39), defScope (top 39), fun K => [], []⟩
abbrev N_least_form : List Str := ["flags", "start", "period", "size"]
abbrev P_least_form : List Str := ["flags", "start", "period"]
def d_flags_of : DefX := ⟨fun K => He.ga K "flags_of", "flags_of", "flags_of", defArgs (top 40), defBody (top 40), defScope (top 40), fun K => [], []⟩
abbrev N_flags_of : List Str := ["single", "again", "start", "period", "flags", "number", "k"]
abbrev P_flags_of : List Str := ["single", "again", "start", "period"]
def d_Lagsx_initx : DefX := ⟨fun K => He.ma K (He.ga K (clsName 0)) "__init__", "__init__", "Lags.__init__", defArgs (mth 45 0), defBody (mth 45 0), defScope (mth 45 0), fun K => [.ref (dfA K (He.ma K (He.ga K (clsName 0)) "__init__") 0), .ref (dfA K (He.ma K (He.ga K (clsName 0)) "__init__") 1), cV (.int 1)], []⟩
abbrev N_Lagsx_initx : List Str := ["self", "single", "again", "period", "start"]
abbrev P_Lagsx_initx : List Str := ["self", "single", "again", "period"]
def d_law_comes : DefX := ⟨fun K => He.ga K "_law_comes", "_law_comes", "_law_comes", defArgs (top 64), defBody (top 64), defScope (top 64), fun K => [], []⟩
abbrev N_law_comes : List Str := ["_law_flags_here", "_law_far", "_law_per", "_law_step", "_law_ahead", "_law_k"]
abbrev P_law_comes : List Str := ["_law_flags_here", "_law_far", "_law_per", "_law_step"]
def d_law_form : DefX := ⟨fun K => He.ga K "_law_form", "_law_form", "_law_form", defArgs (top 65), defBody (top 65), defScope (top 65), fun K => [], []⟩
abbrev N_law_form : List Str := ["_law_flags_here", "_law_far", "_law_per", "_law_step", "_law_at", "_law_less", "_law_k"]
abbrev P_law_form : List Str := ["_law_flags_here", "_law_far", "_law_per"]
def d_law_sort : DefX := ⟨fun K => He.ga K "_law_sort", "_law_sort", "_law_sort", defArgs (top 60), defBody (top 60), defScope (top 60), fun K => [], []⟩
abbrev N_law_sort : List Str := ["_law_e", "_law_marks", "_law_bases", "_law_own", "_law_at", "_law_words"]
abbrev P_law_sort : List Str := ["_law_e"]
def d_law_kept : DefX := ⟨fun K => He.ga K "_law_kept", "_law_kept", "_law_kept", defArgs (top 61), defBody (top 61), defScope (top 61), fun K => [], []⟩
abbrev N_law_kept : List Str := ["_law_e", "_law_word"]
abbrev P_law_kept : List Str := ["_law_e", "_law_word"]
def d_law_caught : DefX := ⟨fun K => He.ga K "_law_caught", "_law_caught", "_law_caught", defArgs (top 62), defBody (top 62), defScope (top 62), fun K => [], []⟩
abbrev N_law_caught : List Str := ["_law_act", "_law_told", "_law_e", "_law_word"]
abbrev P_law_caught : List Str := ["_law_act"]
def d_InvalidNumberx_initx : DefX := ⟨fun K => He.ma K (He.ga K (clsName 21)) "__init__", "__init__", "InvalidNumber.__init__", defArgs (mth 4 0), defBody (mth 4 0), defScope (mth 4 0), fun K => [], []⟩
abbrev N_InvalidNumberx_initx : List Str := ["self", "given"]
abbrev P_InvalidNumberx_initx : List Str := ["self", "given"]
def d_flag_at : DefX := ⟨fun K => He.ga K "flag_at", "flag_at", "flag_at", defArgs (top 41), defBody (top 41), defScope (top 41), fun K => [], []⟩
abbrev N_flag_at : List Str := ["form", "k", "start", "period", "flags"]
abbrev P_flag_at : List Str := ["form", "k"]
def d_TooManyx_initx : DefX := ⟨fun K => He.ma K (He.ga K (clsName 42)) "__init__", "__init__", "TooMany.__init__", defArgs (mth 23 0), defBody (mth 23 0), defScope (mth 23 0), fun K => [], []⟩
abbrev N_TooManyx_initx : List Str := ["self", "limit"]
abbrev P_TooManyx_initx : List Str := ["self", "limit"]
def d_FormedLagsx_initx : DefX := ⟨fun K => He.ma K (He.ga K (clsName 1)) "__init__", "__init__", "FormedLags.__init__", defArgs (mth 47 0), defBody (mth 47 0), defScope (mth 47 0), fun K => [], []⟩
abbrev N_FormedLagsx_initx : List Str := ["self", "form"]
abbrev P_FormedLagsx_initx : List Str := ["self", "form"]
def d_lags_with : DefX := ⟨fun K => He.ga K "lags_with", "lags_with", "lags_with", defArgs (top 48), defBody (top 48), defScope (top 48), fun K => [], []⟩
abbrev N_lags_with : List Str := ["form"]
abbrev P_lags_with : List Str := ["form"]
def d_bounded : DefX := ⟨fun K => He.ga K "bounded", "bounded", "bounded", defArgs (top 49), defBody (top 49), defScope (top 49), fun K => [], []⟩
abbrev N_bounded : List Str := ["form"]
abbrev P_bounded : List Str := ["form"]
def d_Lags_shifted : DefX := ⟨fun K => He.ma K (He.ga K (clsName 0)) "shifted", "shifted", "Lags.shifted", defArgs (mth 45 17), defBody (mth 45 17), defScope (mth 45 17), fun K => [], []⟩
abbrev N_Lags_shifted : List Str := ["self", "by", "start", "period", "flags", "k"]
abbrev P_Lags_shifted : List Str := ["self", "by"]
def d_Lagsx_eqx : DefX := ⟨fun K => He.ma K (He.ga K (clsName 0)) "__eq__", "__eq__", "Lags.__eq__", defArgs (mth 45 9), defBody (mth 45 9), defScope (mth 45 9), fun K => [], []⟩
abbrev N_Lagsx_eqx : List Str := ["self", "other"]
abbrev P_Lagsx_eqx : List Str := ["self", "other"]
def d_Lags_start : DefX := ⟨fun K => pGet K (He.ma K (He.ga K (clsName 0)) "start"), "start", "Lags.start", defArgs (mth 45 2), defBody (mth 45 2), defScope (mth 45 2), fun K => [], []⟩
abbrev N_Lags_start : List Str := ["self"]
abbrev P_Lags_start : List Str := ["self"]
def d_Lags_period : DefX := ⟨fun K => pGet K (He.ma K (He.ga K (clsName 0)) "period"), "period", "Lags.period", defArgs (mth 45 3), defBody (mth 45 3), defScope (mth 45 3), fun K => [], []⟩
abbrev N_Lags_period : List Str := ["self"]
abbrev P_Lags_period : List Str := ["self"]
def d_Lags_members : DefX := ⟨fun K => pGet K (He.ma K (He.ga K (clsName 0)) "members"), "members", "Lags.members", defArgs (mth 45 4), defBody (mth 45 4), defScope (mth 45 4), fun K => [], []⟩
abbrev N_Lags_members : List Str := ["self", "k", "flag"]
abbrev P_Lags_members : List Str := ["self"]
def d_Lags_first : DefX := ⟨fun K => pGet K (He.ma K (He.ga K (clsName 0)) "first"), "first", "Lags.first", defArgs (mth 45 5), defBody (mth 45 5), defScope (mth 45 5), fun K => [], []⟩
abbrev N_Lags_first : List Str := ["self"]
abbrev P_Lags_first : List Str := ["self"]
def d_Lags_endless : DefX := ⟨fun K => pGet K (He.ma K (He.ga K (clsName 0)) "endless"), "endless", "Lags.endless", defArgs (mth 45 6), defBody (mth 45 6), defScope (mth 45 6), fun K => [], []⟩
abbrev N_Lags_endless : List Str := ["self"]
abbrev P_Lags_endless : List Str := ["self"]
def d_Lagsx_boolx : DefX := ⟨fun K => He.ma K (He.ga K (clsName 0)) "__bool__", "__bool__", "Lags.__bool__", defArgs (mth 45 8), defBody (mth 45 8), defScope (mth 45 8), fun K => [], []⟩
abbrev N_Lagsx_boolx : List Str := ["self"]
abbrev P_Lagsx_boolx : List Str := ["self"]
def d_text_of : DefX := ⟨fun K => He.ga K "text_of", "text_of", "text_of", defArgs (top 42), defBody (top 42), defScope (top 42), fun K => [], []⟩
abbrev N_text_of : List Str := ["form", "start", "period", "flags", "words", "k"]
abbrev P_text_of : List Str := ["form"]
def d_Lagsx_reprx : DefX := ⟨fun K => He.ma K (He.ga K (clsName 0)) "__repr__", "__repr__", "Lags.__repr__", defArgs (mth 45 11), defBody (mth 45 11), defScope (mth 45 11), fun K => [], []⟩
abbrev N_Lagsx_reprx : List Str := ["self"]
abbrev P_Lagsx_reprx : List Str := ["self"]
def d_Lagsx_strx : DefX := ⟨fun K => He.ma K (He.ga K (clsName 0)) "__str__", "__str__", "Lags.__str__", defArgs (mth 45 10), defBody (mth 45 10), defScope (mth 45 10), fun K => [], []⟩
abbrev N_Lagsx_strx : List Str := ["self"]
abbrev P_Lagsx_strx : List Str := ["self"]
def d_law_text : DefX := ⟨fun K => He.ga K "_law_text", "_law_text", "_law_text", defArgs (top 66), defBody (top 66), defScope (top 66), fun K => [], []⟩
abbrev N_law_text : List Str := ["_law_form_here", "_law_words", "_law_k"]
abbrev P_law_text : List Str := ["_law_form_here"]
def d_law_is : DefX := ⟨fun K => He.ga K "_law_is", "_law_is", "_law_is", defArgs (top 67), defBody (top 67), defScope (top 67), fun K => [], []⟩
abbrev N_law_is : List Str := ["_law_told", "_law_form_here", "_law_at", "_law_step", "_law_some_here", "_law_shown_here", "_law_due", "_law_k"]
abbrev P_law_is : List Str := ["_law_told", "_law_form_here"]
def d_law_moved : DefX := ⟨fun K => He.ga K "_law_moved", "_law_moved", "_law_moved", defArgs (top 69), defBody (top 69), defScope (top 69), fun K => [], []⟩
abbrev N_law_moved : List Str := ["_law_told", "_law_flags_here", "_law_far", "_law_per", "_law_to", "_law_moved_here", "_law_k", "_law_form_here", "_law_found"]
abbrev P_law_moved : List Str := ["_law_told", "_law_flags_here", "_law_far", "_law_per", "_law_to"]
def d_law_in : DefX := ⟨fun K => He.ga K "_law_in", "_law_in", "_law_in", defArgs (top 70), defBody (top 70), defScope (top 70), fun K => [], []⟩
abbrev N_law_in : List Str := ["_law_flags_here", "_law_far", "_law_per", "_law_at"]
abbrev P_law_in : List Str := ["_law_flags_here", "_law_far", "_law_per", "_law_at"]
def d_Lags_upto : DefX := ⟨fun K => He.ma K (He.ga K (clsName 0)) "upto", "upto", "Lags.upto", defArgs (mth 45 18), defBody (mth 45 18), defScope (mth 45 18), fun K => [], []⟩
abbrev N_Lags_upto : List Str := ["self", "limit", "k"]
abbrev P_Lags_upto : List Str := ["self", "limit"]
def d_Lagsx_containsx : DefX := ⟨fun K => He.ma K (He.ga K (clsName 0)) "__contains__", "__contains__", "Lags.__contains__", defArgs (mth 45 7), defBody (mth 45 7), defScope (mth 45 7), fun K => [], []⟩
abbrev N_Lagsx_containsx : List Str := ["self", "value"]
abbrev P_Lagsx_containsx : List Str := ["self", "value"]
def d_law_members : DefX := ⟨fun K => He.ga K "_law_members", "_law_members", "_law_members", defArgs (top 71), defBody (top 71), defScope (top 71), fun K => [], []⟩
abbrev N_law_members : List Str := ["_law_told", "_law_flags_here", "_law_far", "_law_per", "_law_some_here", "_law_at", "_law_odd", "_law_k"]
abbrev P_law_members : List Str := ["_law_told", "_law_flags_here", "_law_far", "_law_per", "_law_some_here"]
def d_law_right : DefX := ⟨fun K => He.ga K "_law_right", "_law_right", "_law_right", defArgs (top 72), defBody (top 72), defScope (top 72), fun K => [], []⟩
abbrev N_law_right : List Str := ["_law_well_here", "_law_lone", "_law_tail", "_law_per", "_law_far", "_law_flags_here", "_law_told", "_law_form_here", "_law_turn", "_law_to", "_law_top", "_law_shown_here", "_law_k", "_law_some_here"]
abbrev P_law_right : List Str := ["_law_well_here", "_law_lone", "_law_tail", "_law_per"]
def d_law_some : DefX := ⟨fun K => He.ga K "_law_some", "_law_some", "_law_some", defArgs (top 68), defBody (top 68), defScope (top 68), fun K => [], []⟩
abbrev N_law_some : List Str := ["_law_well_here", "_law_most", "_law_wide", "_law_k"]
abbrev P_law_some : List Str := ["_law_well_here", "_law_most", "_law_wide"]
def d_law : DefX := ⟨fun K => He.ga K "law", "law", "law", defArgs (top 73), defBody (top 73), defScope (top 73), fun K => [], []⟩
abbrev N_law : List Str := ["_law_cells", "_law_k", "_law_well_here", "_law_wide", "_law_per", "_law_due", "_law_found", "_law_edge", "_law_row"]
abbrev P_law : List Str := ["_law_cells"]
/-! ### what the head tells -/
def fa : List (PySem.W.Frag → Bool) := [
  fun K => (He.Fa.free "len").ok K,
  fun K => (He.Fa.free "min").ok K,
  fun K => (He.Fa.free "max").ok K,
  fun K => (He.Fa.free "range").ok K,
  fun K => (He.Fa.free "int").ok K,
  fun K => (He.Fa.glo "_law_cell").ok K,
  fun K => (He.Fa.free "abs").ok K,
  fun K => (He.Fa.glo "_law_well").ok K,
  fun K => (He.Fa.glo "_law_draw").ok K,
  fun K => (He.Fa.glo "_law_flags").ok K,
  fun K => (He.Fa.free "tuple").ok K,
  fun K => decide (PySem.W.kitOne K (.type "int") (.type "tuple") = some false),
  fun K => decide (PySem.W.kitOne K (.type "bool") (.type "tuple") = some false),
  fun K => decide (PySem.W.kitOne K (.type "str") (.type "tuple") = some false),
  fun K => decide (PySem.W.kitOne K (.type "tuple") (.type "tuple") = some true),
  fun K => decide (PySem.W.kitOne K (.type "list") (.type "tuple") = some false),
  fun K => decide (PySem.W.kitOne K (.type "NoneType") (.type "tuple") = some false),
  fun K => decide (PySem.W.kitOne K (.type "dict") (.type "tuple") = some false),
  fun K => decide (PySem.W.kitOne K (.ref (He.ga K (clsName 0))) (.type "tuple") = some false),
  fun K => clB K (clsName 0),
  fun K => decide (PySem.W.kitOne K (.ref (He.ga K (clsName 1))) (.type "tuple") = some false),
  fun K => clB K (clsName 1),
  fun K => (He.Fa.free "isinstance").ok K,
  fun K => (He.Fa.free "enumerate").ok K,
  fun K => decide (PySem.W.kitOne K (.type "int") (.type "int") = some true),
  fun K => decide (PySem.W.kitOne K (.type "bool") (.type "int") = some true),
  fun K => decide (PySem.W.kitOne K (.type "str") (.type "int") = some false),
  fun K => decide (PySem.W.kitOne K (.type "tuple") (.type "int") = some false),
  fun K => decide (PySem.W.kitOne K (.type "list") (.type "int") = some false),
  fun K => decide (PySem.W.kitOne K (.type "NoneType") (.type "int") = some false),
  fun K => decide (PySem.W.kitOne K (.type "dict") (.type "int") = some false),
  fun K => decide (PySem.W.kitOne K (.ref (He.ga K (clsName 0))) (.type "int") = some false),
  fun K => decide (PySem.W.kitOne K (.ref (He.ga K (clsName 1))) (.type "int") = some false),
  fun K => (He.Fa.free "bool").ok K,
  fun K => decide (PySem.W.kitOne K (.type "int") (.type "bool") = some false),
  fun K => decide (PySem.W.kitOne K (.type "bool") (.type "bool") = some true),
  fun K => decide (PySem.W.kitOne K (.type "str") (.type "bool") = some false),
  fun K => decide (PySem.W.kitOne K (.type "tuple") (.type "bool") = some false),
  fun K => decide (PySem.W.kitOne K (.type "list") (.type "bool") = some false),
  fun K => decide (PySem.W.kitOne K (.type "NoneType") (.type "bool") = some false),
  fun K => decide (PySem.W.kitOne K (.type "dict") (.type "bool") = some false),
  fun K => decide (PySem.W.kitOne K (.ref (He.ga K (clsName 0))) (.type "bool") = some false),
  fun K => decide (PySem.W.kitOne K (.ref (He.ga K (clsName 1))) (.type "bool") = some false),
  fun K => (He.Fa.glo "is_integer").ok K,
  fun K => (He.Fa.int "MOST_MEMBER" 1000).ok K,
  fun K => (He.Fa.glo "check_numbers").ok K,
  fun K => (He.Fa.int "MOST_PERIOD" 60).ok K,
  fun K => (He.Fa.free "list").ok K,
  fun K => (He.Fa.glo "least_period").ok K,
  fun K => (He.Fa.glo "flags_of").ok K,
  fun K => (He.Fa.glo "least_form").ok K,
  fun K => (He.Fa.noat (clsName 0) "form").ok K,
  fun K => (He.Fa.noat (clsName 1) "form").ok K,
  fun K => tupE K (dfA K (He.ma K (He.ga K (clsName 0)) "__init__") 1),
  fun K => tupE K (dfA K (He.ma K (He.ga K (clsName 0)) "__init__") 0),
  fun K => (He.Fa.mkr (clsName 0)).ok K,
  fun K => (He.Fa.glo "_law_comes").ok K,
  fun K => (He.Fa.glo "_law_form").ok K,
  fun K => (He.Fa.glo "InvalidPeriod").ok K,
  fun K => decide (PySem.W.kitOne K (.ref (He.ga K (clsName 42))) (.ref (He.ga K "InvalidPeriod")) = some false),
  fun K => xcIB K 42,
  fun K => (He.Fa.glo "InvalidNumber").ok K,
  fun K => decide (PySem.W.kitOne K (.ref (He.ga K (clsName 42))) (.ref (He.ga K "InvalidNumber")) = some false),
  fun K => (He.Fa.glo "InvalidText").ok K,
  fun K => decide (PySem.W.kitOne K (.ref (He.ga K (clsName 42))) (.ref (He.ga K "InvalidText")) = some false),
  fun K => (He.Fa.glo "InvalidName").ok K,
  fun K => decide (PySem.W.kitOne K (.ref (He.ga K (clsName 42))) (.ref (He.ga K "InvalidName")) = some false),
  fun K => (He.Fa.glo "InvalidHands").ok K,
  fun K => decide (PySem.W.kitOne K (.ref (He.ga K (clsName 42))) (.ref (He.ga K "InvalidHands")) = some false),
  fun K => (He.Fa.glo "InvalidStock").ok K,
  fun K => decide (PySem.W.kitOne K (.ref (He.ga K (clsName 42))) (.ref (He.ga K "InvalidStock")) = some false),
  fun K => (He.Fa.glo "InvalidFlag").ok K,
  fun K => decide (PySem.W.kitOne K (.ref (He.ga K (clsName 42))) (.ref (He.ga K "InvalidFlag")) = some false),
  fun K => (He.Fa.glo "InvalidOutlet").ok K,
  fun K => decide (PySem.W.kitOne K (.ref (He.ga K (clsName 42))) (.ref (He.ga K "InvalidOutlet")) = some false),
  fun K => (He.Fa.glo "InvalidIndex").ok K,
  fun K => decide (PySem.W.kitOne K (.ref (He.ga K (clsName 42))) (.ref (He.ga K "InvalidIndex")) = some false),
  fun K => (He.Fa.glo "InvalidTimes").ok K,
  fun K => decide (PySem.W.kitOne K (.ref (He.ga K (clsName 42))) (.ref (He.ga K "InvalidTimes")) = some false),
  fun K => (He.Fa.glo "NotLags").ok K,
  fun K => decide (PySem.W.kitOne K (.ref (He.ga K (clsName 42))) (.ref (He.ga K "NotLags")) = some false),
  fun K => (He.Fa.glo "NotALine").ok K,
  fun K => decide (PySem.W.kitOne K (.ref (He.ga K (clsName 42))) (.ref (He.ga K "NotALine")) = some false),
  fun K => (He.Fa.glo "NotALink").ok K,
  fun K => decide (PySem.W.kitOne K (.ref (He.ga K (clsName 42))) (.ref (He.ga K "NotALink")) = some false),
  fun K => (He.Fa.glo "InvalidNumbers").ok K,
  fun K => decide (PySem.W.kitOne K (.ref (He.ga K (clsName 42))) (.ref (He.ga K "InvalidNumbers")) = some false),
  fun K => (He.Fa.glo "InvalidStations").ok K,
  fun K => decide (PySem.W.kitOne K (.ref (He.ga K (clsName 42))) (.ref (He.ga K "InvalidStations")) = some false),
  fun K => (He.Fa.glo "InvalidLinks").ok K,
  fun K => decide (PySem.W.kitOne K (.ref (He.ga K (clsName 42))) (.ref (He.ga K "InvalidLinks")) = some false),
  fun K => (He.Fa.glo "UnknownName").ok K,
  fun K => decide (PySem.W.kitOne K (.ref (He.ga K (clsName 42))) (.ref (He.ga K "UnknownName")) = some false),
  fun K => (He.Fa.glo "Taken").ok K,
  fun K => decide (PySem.W.kitOne K (.ref (He.ga K (clsName 42))) (.ref (He.ga K "Taken")) = some false),
  fun K => (He.Fa.glo "TooMany").ok K,
  fun K => decide (PySem.W.kitOne K (.ref (He.ga K (clsName 42))) (.ref (He.ga K "TooMany")) = some true),
  fun K => (He.Fa.glo "Stuck").ok K,
  fun K => decide (PySem.W.kitOne K (.ref (He.ga K (clsName 42))) (.ref (He.ga K "Stuck")) = some false),
  fun K => (He.Fa.glo "EarlyLink").ok K,
  fun K => decide (PySem.W.kitOne K (.ref (He.ga K (clsName 42))) (.ref (He.ga K "EarlyLink")) = some false),
  fun K => (He.Fa.glo "WrongValue").ok K,
  fun K => decide (PySem.W.kitOne K (.ref (He.ga K (clsName 42))) (.ref (He.ga K "WrongValue")) = some false),
  fun K => (He.Fa.glo "WrongName").ok K,
  fun K => decide (PySem.W.kitOne K (.ref (He.ga K (clsName 42))) (.ref (He.ga K "WrongName")) = some false),
  fun K => (He.Fa.glo "NoAnswer").ok K,
  fun K => decide (PySem.W.kitOne K (.ref (He.ga K (clsName 42))) (.ref (He.ga K "NoAnswer")) = some true),
  fun K => (He.Fa.free "ValueError").ok K,
  fun K => decide (PySem.W.kitOne K (.ref (He.ga K (clsName 42))) (.type "ValueError") = some false),
  fun K => (He.Fa.free "LookupError").ok K,
  fun K => decide (PySem.W.kitOne K (.ref (He.ga K (clsName 42))) (.type "LookupError") = some false),
  fun K => (He.Fa.free "ArithmeticError").ok K,
  fun K => decide (PySem.W.kitOne K (.ref (He.ga K (clsName 42))) (.type "ArithmeticError") = some true),
  fun K => (He.Fa.glo "_law_sort").ok K,
  fun K => (He.Fa.glo "_law_kept").ok K,
  fun K => (He.Fa.free "repr").ok K,
  fun K => decide (PySem.W.exmAny K (.ref (He.ga K (clsName 42))) [.ref (He.ga K "WrongValue"), .ref (He.ga K "WrongName"), .ref (He.ga K "NoAnswer")] = some true),
  fun K => (He.Fa.int "MOST_SHIFT" 1000).ok K,
  fun K => xcFB K 21,
  fun K => (He.Fa.glo "flag_at").ok K,
  fun K => (He.Fa.int "MOST_LAGS" 2000).ok K,
  fun K => xcFB K 42,
  fun K => (He.Fa.mkr (clsName 1)).ok K,
  fun K => (He.Fa.glo "lags_with").ok K,
  fun K => (He.Fa.glo "bounded").ok K,
  fun K => (He.Fa.meth (clsName 0) "shifted").ok K,
  fun K => (He.Fa.meth (clsName 1) "shifted").ok K,
  fun K => decide (He.ma K (He.ga K (clsName 1)) "shifted" = He.ma K (He.ga K (clsName 0)) "shifted"),
  fun K => (He.Fa.glo "_law_caught").ok K,
  fun K => decide (PySem.W.kitOne K (.type "int") (.ref (He.ga K (clsName 0))) = some false),
  fun K => decide (PySem.W.kitOne K (.type "bool") (.ref (He.ga K (clsName 0))) = some false),
  fun K => decide (PySem.W.kitOne K (.type "str") (.ref (He.ga K (clsName 0))) = some false),
  fun K => decide (PySem.W.kitOne K (.type "tuple") (.ref (He.ga K (clsName 0))) = some false),
  fun K => decide (PySem.W.kitOne K (.type "list") (.ref (He.ga K (clsName 0))) = some false),
  fun K => decide (PySem.W.kitOne K (.type "NoneType") (.ref (He.ga K (clsName 0))) = some false),
  fun K => decide (PySem.W.kitOne K (.type "dict") (.ref (He.ga K (clsName 0))) = some false),
  fun K => decide (PySem.W.kitOne K (.ref (He.ga K (clsName 0))) (.ref (He.ga K (clsName 0))) = some true),
  fun K => decide (PySem.W.kitOne K (.ref (He.ga K (clsName 1))) (.ref (He.ga K (clsName 0))) = some true),
  fun K => decide (PySem.W.notFirst K (He.ga K (clsName 0)) (.type "int") = true),
  fun K => decide (PySem.W.findIn K (.ref (He.ga K (clsName 0))) "__eq__" = some (some (.ref (d_Lagsx_eqx.at_ K)))),
  fun K => decide (PySem.W.findIn K (.ref (He.ga K (clsName 0))) "__ne__" = some (some (.builtin "object.__ne__"))),
  fun K => decide (PySem.W.notFirst K (He.ga K (clsName 0)) (.type "bool") = true),
  fun K => decide (PySem.W.notFirst K (He.ga K (clsName 0)) (.type "str") = true),
  fun K => decide (PySem.W.notFirst K (He.ga K (clsName 0)) (.type "tuple") = true),
  fun K => decide (PySem.W.notFirst K (He.ga K (clsName 0)) (.type "list") = true),
  fun K => decide (PySem.W.notFirst K (He.ga K (clsName 0)) (.type "NoneType") = true),
  fun K => decide (PySem.W.notFirst K (He.ga K (clsName 0)) (.ref (He.ga K (clsName 0))) = true),
  fun K => decide (PySem.W.findIn K (.ref (He.ga K (clsName 1))) "__eq__" = some (some (.ref (d_Lagsx_eqx.at_ K)))),
  fun K => decide (PySem.W.findIn K (.ref (He.ga K (clsName 1))) "__ne__" = some (some (.builtin "object.__ne__"))),
  fun K => decide ((He.ga K (clsName 0)) ≠ (He.ga K (clsName 1))),
  fun K => decide (PySem.W.subIn K (.ref (He.ga K (clsName 1))) (.ref (He.ga K (clsName 0))) = some true),
  fun K => decide (PySem.W.notFirst K (He.ga K (clsName 1)) (.type "int") = true),
  fun K => decide (PySem.W.notFirst K (He.ga K (clsName 1)) (.type "bool") = true),
  fun K => decide (PySem.W.notFirst K (He.ga K (clsName 1)) (.type "str") = true),
  fun K => decide (PySem.W.notFirst K (He.ga K (clsName 1)) (.type "tuple") = true),
  fun K => decide (PySem.W.notFirst K (He.ga K (clsName 1)) (.type "list") = true),
  fun K => decide (PySem.W.notFirst K (He.ga K (clsName 1)) (.type "NoneType") = true),
  fun K => decide (PySem.W.notFirst K (He.ga K (clsName 1)) (.ref (He.ga K (clsName 0))) = true),
  fun K => decide (PySem.W.notFirst K (He.ga K (clsName 1)) (.ref (He.ga K (clsName 1))) = true),
  fun K => decide (PySem.W.isFn K (.ref (d_Lagsx_eqx.at_ K)) = true),
  fun K => propB K (clsName 0) "start",
  fun K => propB K (clsName 1) "start",
  fun K => decide (He.ma K (He.ga K (clsName 1)) "start" = He.ma K (He.ga K (clsName 0)) "start"),
  fun K => propB K (clsName 0) "period",
  fun K => propB K (clsName 1) "period",
  fun K => decide (He.ma K (He.ga K (clsName 1)) "period" = He.ma K (He.ga K (clsName 0)) "period"),
  fun K => propB K (clsName 0) "members",
  fun K => propB K (clsName 1) "members",
  fun K => decide (He.ma K (He.ga K (clsName 1)) "members" = He.ma K (He.ga K (clsName 0)) "members"),
  fun K => (He.Fa.free "any").ok K,
  fun K => propB K (clsName 0) "first",
  fun K => propB K (clsName 1) "first",
  fun K => decide (He.ma K (He.ga K (clsName 1)) "first" = He.ma K (He.ga K (clsName 0)) "first"),
  fun K => propB K (clsName 0) "endless",
  fun K => propB K (clsName 1) "endless",
  fun K => decide (He.ma K (He.ga K (clsName 1)) "endless" = He.ma K (He.ga K (clsName 0)) "endless"),
  fun K => decide (PySem.W.isFn K (.ref (d_Lagsx_boolx.at_ K)) = true),
  fun K => decide (PySem.W.findIn K (.ref (He.ga K (clsName 0))) "__bool__" = some (some (.ref (d_Lagsx_boolx.at_ K)))),
  fun K => decide (PySem.W.findIn K (.ref (He.ga K (clsName 1))) "__bool__" = some (some (.ref (d_Lagsx_boolx.at_ K)))),
  fun K => (He.Fa.free "str").ok K,
  fun K => (He.Fa.glo "text_of").ok K,
  fun K => decide (PySem.W.isFn K (.ref (d_Lagsx_reprx.at_ K)) = true),
  fun K => decide (PySem.W.findIn K (.ref (He.ga K (clsName 0))) "__repr__" = some (some (.ref (d_Lagsx_reprx.at_ K)))),
  fun K => decide (PySem.W.findIn K (.ref (He.ga K (clsName 1))) "__repr__" = some (some (.ref (d_Lagsx_reprx.at_ K)))),
  fun K => decide (PySem.W.isFn K (.ref (d_Lagsx_strx.at_ K)) = true),
  fun K => decide (PySem.W.findIn K (.ref (He.ga K (clsName 0))) "__str__" = some (some (.ref (d_Lagsx_strx.at_ K)))),
  fun K => decide (PySem.W.findIn K (.ref (He.ga K (clsName 1))) "__str__" = some (some (.ref (d_Lagsx_strx.at_ K)))),
  fun K => (He.Fa.glo "_law_text").ok K,
  fun K => (He.Fa.glo "_law_is").ok K,
  fun K => (He.Fa.glo "_law_moved").ok K,
  fun K => (He.Fa.glo "_law_in").ok K,
  fun K => (He.Fa.int "MOST_SHOWN" 5000).ok K,
  fun K => (He.Fa.meth (clsName 0) "upto").ok K,
  fun K => (He.Fa.meth (clsName 1) "upto").ok K,
  fun K => decide (He.ma K (He.ga K (clsName 1)) "upto" = He.ma K (He.ga K (clsName 0)) "upto"),
  fun K => decide (PySem.W.isFn K (.ref (d_Lagsx_containsx.at_ K)) = true),
  fun K => decide (PySem.W.findIn K (.ref (He.ga K (clsName 0))) "__contains__" = some (some (.ref (d_Lagsx_containsx.at_ K)))),
  fun K => decide (PySem.W.findIn K (.ref (He.ga K (clsName 1))) "__contains__" = some (some (.ref (d_Lagsx_containsx.at_ K)))),
  fun K => (He.Fa.glo "_law_members").ok K,
  fun K => (He.Fa.glo "_law_some").ok K,
  fun K => (He.Fa.glo "_law_right").ok K,
  fun K => (He.Fa.glo "law").ok K]
def fn : List DefX := [d_law_cell, d_law_well, d_law_draw, d_law_flags, d_is_integer, d_check_numbers, d_least_period, d_least_form, d_flags_of, d_Lagsx_initx, d_law_comes, d_law_form, d_law_caught, d_law_sort, d_law_kept, d_InvalidNumberx_initx, d_flag_at, d_TooManyx_initx, d_FormedLagsx_initx, d_lags_with, d_bounded, d_Lags_shifted, d_Lagsx_eqx, d_Lags_start, d_Lags_period, d_Lags_members, d_Lags_first, d_Lags_endless, d_Lagsx_boolx, d_text_of, d_Lagsx_reprx, d_Lagsx_strx, d_law_text, d_law_is, d_law_moved, d_law_in, d_Lags_upto, d_Lagsx_containsx, d_law_members, d_law_right, d_law_some, d_law]
def lamF : List DefX := [d_law, d_law_moved]
end Lw
end
set_option Elab.async false
set_option linter.all false
set_option maxRecDepth 100000
set_option maxHeartbeats 0
namespace Lw
open PySem PySem.Spec PyProof.Rows L2 Dv
def ls0 : List Str := ["_wall", "WrongValue", "InvalidPeriod", "InvalidNumber", "InvalidText", "InvalidName", "InvalidHands", "InvalidStock", "InvalidFlag", "InvalidOutlet", "InvalidIndex", "InvalidTimes", "NotLags", "NotALine", "NotALink", "InvalidNumbers", "InvalidStations", "InvalidLinks", "WrongName", "UnknownName", "Taken", "NoAnswer", "TooMany", "Stuck", "EarlyLink", "MOST_LAGS", "DIGITS", "is_integer", "numeral_of", "MOST_MEMBER"]
def ls1 : List Str := ["MOST_PERIOD", "MOST_READ", "MOST_SHIFT", "MOST_SHOWN", "check_numbers", "least_period", "least_form", "flags_of", "flag_at", "text_of", "period_in", "form_in", "Lags", "check_lags", "FormedLags", "lags_with", "bounded", "common_multiple", "both_ends", "form_left", "mask_of", "mask_of_sums", "form_of_sums", "_law_cell", "_law_well", "_law_draw", "_law_sort", "_law_kept", "_law_caught", "_law_flags"]
def ls2 : List Str := ["_law_comes", "_law_form", "_law_text", "_law_is", "_law_some", "_law_moved", "_law_in", "_law_members", "_law_right"]
def ls : List Str := ls0 ++ ls1 ++ ls2
abbrev R : PySem.W.OpenRow := PySem.W.OpenLaw.row PySem.Challenge.rw_owntimes_k08_shifted_and_shown
def ads : List Addr := [3, 6, 4, 21, 31, 51, 70, 89, 108, 127, 146, 165, 184, 203, 222, 241, 260, 279, 298, 317, 336, 348, 368, 387, 399, 419, 438, 457, 466, 471, 478, 483, 490, 497, 504, 509, 516, 521, 665, 676, 693, 702, 709, 716, 723, 728, 735, 742, 747, 754, 761, 768, 775, 782, 789, 794, 799, 804, 809, 814, 819, 824, 831, 836, 841, 846, 0, 20, 30, 50, 69, 88, 107, 126, 145, 164, 183, 202, 221, 240, 259, 278, 297, 316, 335, 347, 367, 386, 398, 418, 437, 456, 465, 470, 477, 482, 489, 496, 503, 508, 515, 520, 664, 675, 692, 701, 708, 715, 722, 727, 734, 741, 746, 753, 760, 767, 774, 781, 788, 793, 798, 803, 808, 813, 818, 823, 830, 835, 840, 845, 15, 17, 18, 19, 29, 32, 48, 49, 67, 68, 86, 87, 105, 106, 124, 125, 143, 144, 162, 163, 181, 182, 200, 201, 219, 220, 238, 239, 257, 258, 276, 277, 295, 296, 314, 315, 333, 334, 346, 349, 365, 366, 384, 385, 397, 400, 416, 417, 435, 436, 454, 455, 460, 462, 463, 464, 467, 469, 472, 474, 475, 476, 479, 481, 484, 486, 487, 488, 491, 493, 494, 495, 498, 500, 501, 502, 505, 507, 510, 512, 513, 514, 517, 519, 538, 547, 556, 564, 570, 578, 586, 593, 600, 607, 614, 621, 626, 631, 638, 645, 652, 657, 662, 663, 666, 667, 670, 672, 673, 674, 690, 691, 696, 698, 699, 700, 703, 705, 706, 707, 710, 712, 713, 714, 717, 719, 720, 721, 724, 726, 729, 731, 732, 733, 736, 738, 739, 740, 743, 745, 748, 750, 751, 752, 755, 757, 758, 759, 762, 764, 765, 766, 769, 771, 772, 773, 776, 778, 779, 780, 783, 785, 786, 787, 790, 792, 795, 797, 800, 802, 805, 807, 810, 812, 815, 817, 820, 822, 825, 827, 828, 829, 832, 834, 837, 839, 842, 844, 47, 66, 85, 104, 123, 142, 161, 180, 199, 218, 237, 256, 275, 294, 313, 332, 364, 383, 415, 434, 453, 537, 531, 545, 546, 555, 563, 569, 577, 585, 592, 599, 606, 613, 620, 625, 630, 637, 644, 651, 656, 661, 689, 42, 44, 45, 46, 61, 63, 64, 65, 80, 82, 83, 84, 99, 101, 102, 103, 118, 120, 121, 122, 137, 139, 140, 141, 156, 158, 159, 160, 175, 177, 178, 179, 194, 196, 197, 198, 213, 215, 216, 217, 232, 234, 235, 236, 251, 253, 254, 255, 270, 272, 273, 274, 289, 291, 292, 293, 308, 310, 311, 312, 327, 329, 330, 331, 359, 361, 362, 363, 378, 380, 381, 382, 410, 412, 413, 414, 429, 431, 432, 433, 448, 450, 451, 452, 532, 534, 535, 536, 529, 530, 544, 548, 554, 562, 568, 576, 584, 587, 589, 590, 591, 594, 596, 597, 598, 601, 603, 604, 605, 608, 610, 611, 612, 615, 617, 618, 619, 622, 624, 627, 629, 632, 634, 635, 636, 639, 641, 642, 643, 646, 648, 649, 650, 653, 655, 658, 660, 684, 686, 687, 688]
noncomputable def ob (s : PySem.W.SharedT) : He.AlD × Bool := obE ads fa fn lamF (HandSHeadRun.getT s)
open PySem.W HandSHeadRun in
theorem runA (w : World) (os : OsState) : (endF (stepQ (denQ tabQ) R.prog w) 9000 R.prog w os).map (fun s => (looksF R.prog (boot_heap w.params) s.abs, seenQ (PySem.W.view R.prog [73]) ls (importedModules R.prog.main.body) (fun s => xlAt (PySem.W.view R.prog [73]) [] s && recOk R.toRowW.records s) s.abs)) = some (true, openGood (PySem.W.view R.prog [73]) ls) := by kernel_rfl
open PySem.W HandSHeadRun in
theorem runB (w : World) (os : OsState) : (endF (stepQ (denQ tabQ) R.prog w) 9000 R.prog w os).map ob = some (vaX fn, true) := by kernel_rfl
end Lw
set_option Elab.async false
set_option linter.all false
set_option maxRecDepth 100000
set_option maxHeartbeats 4000000
/-! DV1: deep values, how the abstract heap bears them, the states of a def's slots -/
namespace Dv
open PySem L2

/-- an exception of the class at C stands at a, its dict is d -/
def xco (a C : Addr) (d : Option Addr) : HO := .ext fun h => ∃ (vs : Array Value) (sl : Array (Option Value)), h.get? a = some ({ cls := .ref C, dict := d, data := .fields vs, slots := sl } : Obj)
/-- where an exception's attributes stand -/
def XAt (H : Hp) (fs : List (Str × V)) : Option Addr → Prop
  | none => fs = []
  | some d => H d = some (exd d fs) ∨ H d = some (.xd fs)
/-- the same while it is raised -/
def XFl (H : Hp) (fs : List (Str × V)) : Option Addr → Prop
  | none => fs = []
  | some d => H d = some (.xd fs)

/-- the abstract heap without some addresses -/
def cut (H : Hp) (O : List Addr) : Hp := fun a => if a ∈ O then none else H a
theorem cut_some {H : Hp} {O : List Addr} {a : Addr} {o : HO} (h : cut H O a = some o) : a ∉ O ∧ H a = some o := by
  unfold cut at h
  by_cases q : a ∈ O
  · rw [if_pos q] at h; cases h
  · rw [if_neg q] at h; exact ⟨q, h⟩
theorem cut_of {H : Hp} {O : List Addr} {a : Addr} {o : HO} (n : a ∉ O) (h : H a = some o) : cut H O a = some o := by
  unfold cut; rw [if_neg n]; exact h
theorem cut_nil (H : Hp) : cut H [] = H := by funext a; unfold cut; rw [if_neg (by simp)]

/-- a table of code objects -/
def isTbl : HO → Bool
  | .tbl _ => true
  | _ => false
/-- all but tables stays -/
def GrowW (H H' : Hp) : Prop := ∀ a o, H a = some o → isTbl o = false → H' a = some o
theorem GrowW.refl (H : Hp) : GrowW H H := fun _ _ h _ => h
theorem GrowW.trans {H H1 H2 : Hp} (a : GrowW H H1) (b : GrowW H1 H2) : GrowW H H2 := fun c o h n => b c o (a c o h n) n
/-- all that the one has, the other has -/
def Grow (H H' : Hp) : Prop := ∀ a o, H a = some o → H' a = some o
theorem Grow.w {H H' : Hp} (g : Grow H H') : GrowW H H' := fun a o h _ => g a o h
instance {H H' : Hp} : Coe (Grow H H') (GrowW H H') := ⟨Grow.w⟩
theorem Grow.refl (H : Hp) : Grow H H := fun _ _ h => h
theorem Grow.trans {H H1 H2 : Hp} (a : Grow H H1) (b : Grow H1 H2) : Grow H H2 := fun c o h => b c o (a c o h)
theorem Grow.new {H : Hp} {p : Addr} {o : HO} (h : H p = none) : Grow H (upd H p o) := fun a u e => by
  rw [upd_ne (ne_of_none e h)]; exact e
theorem Grow.cut {H H' : Hp} (g : Grow H H') (O : List Addr) : Grow (cut H O) (cut H' O) := fun a o h => by
  obtain ⟨n, e⟩ := cut_some h
  exact cut_of n (g a o e)
theorem GrowW.cut {H H' : Hp} (g : GrowW H H') (O : List Addr) : GrowW (Dv.cut H O) (Dv.cut H' O) := fun a o h n => by
  obtain ⟨k, e⟩ := cut_some h
  exact cut_of k (g a o e n)
theorem Grow.ofCut (H : Hp) (O : List Addr) : Grow (Dv.cut H O) H := fun _ _ h => (cut_some h).2
theorem Grow.less {H : Hp} {O O' : List Addr} (s : ∀ a ∈ O', a ∈ O) : Grow (Dv.cut H O) (Dv.cut H O') := fun _ _ h => by
  obtain ⟨n, e⟩ := cut_some h
  exact cut_of (fun z => n (s _ z)) e
theorem Grow.back {H H' : Hp} (g : Grow H H') {p : Addr} (h : H' p = none) : H p = none := by
  cases q : H p with
  | none => rfl
  | some o => rw [g p o q] at h; cases h

theorem SqT.growW {K : PySem.W.Frag} {H H' : Hp} {a : Addr} {xs : List V} (g : GrowW H H') (h : SqT K H a xs) : SqT K H' a xs := by
  rcases h with (h | ⟨o, h⟩) | h
  · exact .inl (.inl (g _ _ h rfl))
  · exact .inl (.inr ⟨o, g _ _ h rfl⟩)
  · exact .inr h
theorem SqL.growW {K : PySem.W.Frag} {H H' : Hp} {a : Addr} {xs : List V} (g : GrowW H H') (h : SqL K H a xs) : SqL K H' a xs := by
  rcases h with (h | ⟨o, h⟩) | h
  · exact .inl (.inl (g _ _ h rfl))
  · exact .inl (.inr ⟨o, g _ _ h rfl⟩)
  · exact .inr h

theorem SqT.grow {K : PySem.W.Frag} {H H' : Hp} {a : Addr} {xs : List V} (g : Grow H H') (h : SqT K H a xs) : SqT K H' a xs := SqT.growW g.w h
theorem SqL.grow {K : PySem.W.Frag} {H H' : Hp} {a : Addr} {xs : List V} (g : Grow H H') (h : SqL K H a xs) : SqL K H' a xs := SqL.growW g.w h
theorem XAt.growW {H H' : Hp} {fs : List (Str × V)} {d : Option Addr} (g : GrowW H H') (h : XAt H fs d) : XAt H' fs d := by
  cases d with
  | none => exact h
  | some d => exact h.imp (fun h => g _ _ h rfl) fun h => g _ _ h rfl
theorem XFl.growW {H H' : Hp} {fs : List (Str × V)} {d : Option Addr} (g : GrowW H H') (h : XFl H fs d) : XFl H' fs d := by
  cases d with
  | none => exact h
  | some d => exact g _ _ h rfl
theorem XFl.at {H : Hp} {fs : List (Str × V)} {d : Option Addr} (h : XFl H fs d) : XAt H fs d := by
  cases d with
  | none => exact h
  | some d => exact .inr h
/-- a key of a dict as data -/
def kD : Key → D
  | .inl i => .int i
  | .inr x => .str x
section
variable (K : PySem.W.Frag) (mg : Str → Option Value)
mutual
/-- the value v bears the data d -/
inductive Rep (H : Hp) : V → D → Prop
  | non : Rep H .non .non
  | bl (b : Bool) : Rep H (.bl b) (.bl b)
  | int (i : Int) : Rep H (.int i) (.int i)
  | str (x : Str) : Rep H (.str x) (.str x)
  | tup {a : Addr} {xs : List V} {ds : List D} : SqT K H a xs → RepL H xs ds → Rep H (.ref a) (.tup ds)
  | lst {a : Addr} {xs : List V} {ds : List D} : H a = some (.lst xs) → RepL H xs ds → Rep H (.ref a) (.lst ds)
  | scr {a : Addr} {ns : List Int} : SqL K H a (ns.map V.int) → Rep H (.ref a) (.scr ns)
  | obj {a C dx : Addr} {c : Nat} {xs : List V} {ds : List D} : mg (clsName c) = some (.ref C) → H a = some (.ins C dx ((clsFlds c).zip xs)) → (clsFlds c).length = xs.length → RepL H xs ds → Rep H (.ref a) (.obj c ds)
  | exc {a C : Addr} {d : Option Addr} {c : Nat} {xs : List V} {ds : List D} : mg (clsName c) = some (.ref C) → H a = some (xco a C d) → XAt H ((clsFlds c).zip xs) d → (clsFlds c).length = xs.length → RepL H xs ds → Rep H (.ref a) (.exc c ds)
  | dic {a : Addr} {ks : List Key} {xs : List V} {ds : List D} : H a = some (.dK (ks.zip xs)) → ks.length = xs.length → RepL H xs ds → Rep H (.ref a) (.dic (ks.map kD) ds)
  | dit {a : Addr} {ks : List (List Key)} {xs : List V} {ds : List D} : H a = some (.dT (ks.zip xs)) → ks.length = xs.length → RepL H xs ds → Rep H (.ref a) (.dic (ks.map fun k => .tup (k.map kD)) ds)
inductive RepL (H : Hp) : List V → List D → Prop
  | nil : RepL H [] []
  | cons {v : V} {d : D} {vs : List V} {ds : List D} : Rep H v d → RepL H vs ds → RepL H (v :: vs) (d :: ds)
end
end

section
variable {K : PySem.W.Frag} {mg : Str → Option Value} {H H' : Hp}
mutual
theorem Rep.growW (g : GrowW H H') : ∀ {v : V} {d : D}, Rep K mg H v d → Rep K mg H' v d
  | _, _, .non => .non
  | _, _, .bl b => .bl b
  | _, _, .int i => .int i
  | _, _, .str x => .str x
  | _, _, .tup h r => .tup (SqT.growW g h) (RepL.growW g r)
  | _, _, .lst h r => .lst (g _ _ h rfl) (RepL.growW g r)
  | _, _, .scr h => .scr (SqL.growW g h)
  | _, _, .obj h1 h2 h3 r => .obj h1 (g _ _ h2 rfl) h3 (RepL.growW g r)
  | _, _, .exc h1 h2 h3 h4 r => .exc h1 (g _ _ h2 rfl) (h3.growW g) h4 (RepL.growW g r)
  | _, _, .dic h1 h2 r => .dic (g _ _ h1 rfl) h2 (RepL.growW g r)
  | _, _, .dit h1 h2 r => .dit (g _ _ h1 rfl) h2 (RepL.growW g r)
theorem RepL.growW (g : GrowW H H') : ∀ {vs : List V} {ds : List D}, RepL K mg H vs ds → RepL K mg H' vs ds
  | _, _, .nil => .nil
  | _, _, .cons r t => .cons (Rep.growW g r) (RepL.growW g t)
end
theorem Rep.grow (g : GrowW H H') {v : V} {d : D} (r : Rep K mg H v d) : Rep K mg H' v d := Rep.growW g r
theorem RepL.grow (g : GrowW H H') {v : List V} {d : List D} (r : RepL K mg H v d) : RepL K mg H' v d := RepL.growW g r
theorem RepL.length : ∀ {vs : List V} {ds : List D}, RepL K mg H vs ds → vs.length = ds.length
  | _, _, .nil => rfl
  | _, _, .cons _ t => by simp [RepL.length t]
theorem RepL.append : ∀ {vs vs' : List V} {ds ds' : List D}, RepL K mg H vs ds → RepL K mg H vs' ds' → RepL K mg H (vs ++ vs') (ds ++ ds')
  | _, _, _, _, .nil, s => s
  | _, _, _, _, .cons r t, s => .cons r (RepL.append t s)
theorem RepL.get : ∀ {vs : List V} {ds : List D} {i : Nat} {d : D}, RepL K mg H vs ds → ds[i]? = some d → ∃ v, vs[i]? = some v ∧ Rep K mg H v d
  | _, _, _, _, .nil, e => by simp at e
  | _, _, 0, _, .cons r _, e => by simp at e; subst e; exact ⟨_, rfl, r⟩
  | _, _, i + 1, d, .cons _ t, e => by
    obtain ⟨v, h1, h2⟩ := RepL.get (i := i) (d := d) t (by simpa using e)
    exact ⟨v, by simpa using h1, h2⟩
theorem RepL.get' : ∀ {vs : List V} {ds : List D} {i : Nat} {v : V}, RepL K mg H vs ds → vs[i]? = some v → ∃ d, ds[i]? = some d ∧ Rep K mg H v d
  | _, _, _, _, .nil, e => by simp at e
  | _, _, 0, _, .cons r _, e => by simp at e; subst e; exact ⟨_, rfl, r⟩
  | _, _, i + 1, v, .cons _ t, e => by
    obtain ⟨d, h1, h2⟩ := RepL.get' (i := i) (v := v) t (by simpa using e)
    exact ⟨d, by simpa using h1, h2⟩
theorem RepL.take : ∀ {vs : List V} {ds : List D} (n : Nat), RepL K mg H vs ds → RepL K mg H (vs.take n) (ds.take n)
  | _, _, 0, _ => by simpa using .nil
  | _, _, _ + 1, .nil => by simpa using .nil
  | _, _, n + 1, .cons r t => by simpa using .cons r (RepL.take n t)
theorem RepL.drop : ∀ {vs : List V} {ds : List D} (n : Nat), RepL K mg H vs ds → RepL K mg H (vs.drop n) (ds.drop n)
  | _, _, 0, r => by simpa using r
  | _, _, _ + 1, .nil => by simpa using .nil
  | _, _, n + 1, .cons _ t => by simpa using RepL.drop n t
theorem RepL.set {v : V} {d : D} (r : Rep K mg H v d) : ∀ {vs : List V} {ds : List D} (i : Nat), RepL K mg H vs ds → RepL K mg H (vs.set i v) (ds.set i d)
  | _, _, _, .nil => by simpa using .nil
  | _, _, 0, .cons _ t => by simpa using .cons r t
  | _, _, i + 1, .cons q t => by simpa using .cons q (RepL.set r i t)
theorem RepL.reverse : ∀ {vs : List V} {ds : List D}, RepL K mg H vs ds → RepL K mg H vs.reverse ds.reverse
  | _, _, .nil => by simpa using .nil
  | _, _, .cons r t => by simpa using RepL.append (RepL.reverse t) (.cons r .nil)
end

/-- what a slot holds: data that no one changes; a list of this def's own; an instance in the making -/
inductive Sl where
  | val (d : D)
  | own (l : List D)
  | ob (c : Nat) (ns : List Str) (ds : List D)
abbrev Sd := List (Option Sl)
/-- what a slot owns -/
def Sl.isOwn : Sl → Bool
  | .val _ => false
  | _ => true

/-- the ground of a def's run: the heap at its entry, what it may write there, what it may not touch -/
structure Gx where
  H0 : Hp
  W : List Addr
  B : List Addr
  /-- where the list (the instance) of the first slot stands -/
  pin : Option Addr
  /-- the tables of code objects that may get more -/
  T : List (Addr × Str)
  /-- what is wished of an exception -/
  wx : WX
/-- no exception -/
def noX : WX := fun _ _ _ _ => False
/-- the plain ground -/
abbrev gx (H0 : Hp) (W B : List Addr) (pin : Option Addr) : Gx := ⟨H0, W, B, pin, [], noX⟩

/-- what may be written: it was nothing at the entry, or is told -/
def Fresh (G : Gx) (p : Addr) : Prop := ∀ o, G.H0 p = some o → G.T ≠ [] ∧ isTbl o = true
section
variable (K : PySem.W.Frag) (mg : Str → Option Value)
/-- a slot's value and what it is said to hold -/
def SlOk (G : Gx) (H : Hp) (O : List Addr) (v : V) : Sl → Prop
  | .val d => Rep K mg (cut H O) v d
  | .own l => ∃ p xs, v = .ref p ∧ p ∈ O ∧ p ∉ G.B ∧ (Fresh G p ∨ p ∈ G.W) ∧ H p = some (.lst xs) ∧ RepL K mg (cut H O) xs l
  | .ob c ns ds => ∃ p C dx xs, v = .ref p ∧ p ∈ O ∧ p ∉ G.B ∧ (Fresh G p ∨ p ∈ G.W) ∧ mg (clsName c) = some (.ref C) ∧ H p = some (.ins C dx (ns.zip xs)) ∧ ns.length = xs.length ∧ RepL K mg (cut H O) xs ds
/-- what is owned stands: lists and instances alone -/
def Live (H : Hp) (O : List Addr) : Prop := ∀ p ∈ O, (∃ xs, H p = some (.lst xs)) ∨ ∃ C dx fs, H p = some (.ins C dx fs)
structure SR (G : Gx) (H : Hp) (O : List Addr) (σ : St) (τ : Sd) : Prop where
  len : σ.length = τ.length
  keep : ∀ a o, G.H0 a = some o → a ∉ G.W → (G.T = [] ∨ isTbl o = false) → H a = some o
  tab : LamX.Tabs G.T H
  base : ∀ p ∈ G.B, p ∈ O
  own0 : ∀ p ∈ O, p ∈ G.B ∨ Fresh G p ∨ p ∈ G.W
  live : Live H O
  slot : ∀ (i : Nat) (s : Sl), τ[i]? = some (some s) → ∃ v, σ[i]? = some (some v) ∧ SlOk K mg G H O v s
  inj : ∀ (i j : Nat) (s t : Sl) (v : V), τ[i]? = some (some s) → s.isOwn = true → τ[j]? = some (some t) → t.isOwn = true → σ[i]? = some (some v) → σ[j]? = some (some v) → i = j
  pin : ∀ (p : Addr) (s : Sl), G.pin = some p → τ[0]? = some (some s) → s.isOwn = true → σ[0]? = some (some (.ref p))
end
/-- what was not owned stands as it was, and is not owned -/
def Le (H : Hp) (O : List Addr) (H' : Hp) (O' : List Addr) : Prop := GrowW (cut H O) (cut H' O')
theorem Le.refl (H : Hp) (O : List Addr) : Le H O H O := GrowW.refl _
theorem Le.trans {H H1 H2 : Hp} {O O1 O2 : List Addr} (a : Le H O H1 O1) (b : Le H1 O1 H2 O2) : Le H O H2 O2 := GrowW.trans a b
theorem Rep.le {K : PySem.W.Frag} {mg : Str → Option Value} {H H' : Hp} {O O' : List Addr} {v : V} {d : D} (l : Le H O H' O') (r : Rep K mg (cut H O) v d) : Rep K mg (cut H' O') v d := Rep.growW l r
theorem RepL.le {K : PySem.W.Frag} {mg : Str → Option Value} {H H' : Hp} {O O' : List Addr} {v : List V} {d : List D} (l : Le H O H' O') (r : RepL K mg (cut H O) v d) : RepL K mg (cut H' O') v d := RepL.growW l r
theorem Live.ne {H : Hp} {O : List Addr} (l : Live H O) {p : Addr} (h : H p = none) : p ∉ O := fun z => by
  rcases l p z with ⟨xs, e⟩ | ⟨C, dx, fs, e⟩ <;> (rw [h] at e; cases e)
theorem Live.grow {H H' : Hp} {O : List Addr} (l : Live H O) (g : Grow H H') : Live H' O := fun p z => by
  rcases l p z with ⟨xs, e⟩ | ⟨C, dx, fs, e⟩
  · exact .inl ⟨xs, g _ _ e⟩
  · exact .inr ⟨C, dx, fs, g _ _ e⟩
theorem Live.nil (H : Hp) : Live H [] := fun _ z => absurd z (by simp)

section
variable {K : PySem.W.Frag} {mg : Str → Option Value} {G : Gx} {H H' : Hp} {O O' : List Addr} {σ : St} {τ : Sd}
theorem SlOk.grow {v : V} {s : Sl} (h : SlOk K mg G H O v s) (g : Grow H H') : SlOk K mg G H' O v s := by
  cases s with
  | val d => exact Rep.grow (g.cut O) h
  | own l =>
    obtain ⟨p, xs, e, h1, h2, h3, h4, h5⟩ := h
    exact ⟨p, xs, e, h1, h2, h3, g _ _ h4, RepL.grow (g.cut O) h5⟩
  | ob c ns ds =>
    obtain ⟨p, C, dx, xs, e, h1, h2, h3, h4, h5, h6, h7⟩ := h
    exact ⟨p, C, dx, xs, e, h1, h2, h3, h4, g _ _ h5, h6, RepL.grow (g.cut O) h7⟩
/-- the heap has grown -/
theorem SR.grow (R : SR K mg G H O σ τ) (g : Grow H H') : SR K mg G H' O σ τ :=
  ⟨R.len, fun a o h n t => g _ _ (R.keep a o h n t), R.tab.ext g, R.base, R.own0, R.live.grow g, fun i s h => let ⟨v, e, q⟩ := R.slot i s h; ⟨v, e, q.grow g⟩, R.inj, R.pin⟩
/-- what is new now was new at the entry -/
theorem SR.fresh (R : SR K mg G H O σ τ) {p : Addr} (hp : H p = none) : Fresh G p ∨ p ∈ G.W := by
  by_cases z : p ∈ G.W
  · exact .inr z
  · refine .inl fun o q => ?_
    by_cases t : G.T = [] ∨ isTbl o = false
    · rw [R.keep p o q z t] at hp; cases hp
    · simp only [not_or, Bool.not_eq_false] at t
      exact t
theorem Fresh.ne {p : Addr} (f : Fresh G p) {o : HO} (h : G.H0 p = some o) (t : G.T = [] ∨ isTbl o = false) : False := by
  obtain ⟨a, b⟩ := f o h
  rcases t with t | t
  · exact a t
  · rw [b] at t; cases t
theorem Fresh.of {p : Addr} (h : G.H0 p = none) : Fresh G p := fun o e => by rw [h] at e; cases e
/-- an object of ours is written: tables stay -/
theorem tabs_write {T : List (Addr × Str)} {p : Addr} {o o' : HO} (t : LamX.Tabs T H) (hp : H p = some o) (h : (∃ xs, o = .lst xs) ∨ ∃ C dx fs, o = .ins C dx fs) : LamX.Tabs T (upd H p o') := fun q hq => by
  obtain ⟨ps, h1, h2, h3⟩ := t q hq
  have ne : ∀ b u, H b = some u → (∀ xs, u ≠ .lst xs) → (∀ C dx fs, u ≠ .ins C dx fs) → b ≠ p := fun b u e n1 n2 z => by
    subst z
    rw [hp] at e; cases e
    rcases h with ⟨xs, z⟩ | ⟨C, dx, fs, z⟩
    · exact n1 _ z
    · exact n2 _ _ _ z
  refine ⟨ps, by rw [upd_ne (ne _ _ h1 (fun _ z => by cases z) fun _ _ _ z => by cases z)]; exact h1, h2, fun pos cv hc => ?_⟩
  obtain ⟨c, e1, e2⟩ := h3 pos cv hc
  exact ⟨c, e1, by rw [upd_ne (ne _ _ e2 (fun _ z => by unfold LamX.CodeO at z; cases z) fun _ _ _ z => by unfold LamX.CodeO at z; cases z)]; exact e2⟩
theorem Le.grow (g : Grow H H') : Le H O H' O := (g.cut O).w
theorem Le.of {O' : List Addr} (g : Grow (cut H O) (cut H' O')) : Le H O H' O' := g.w
end
end Dv
set_option Elab.async false
set_option linter.all false
set_option maxRecDepth 100000
set_option maxHeartbeats 4000000
/-! DV2: what an expression, a test, an argument list, a statement does to data; rules for the plain constructs -/
namespace Dv
open PySem L2

abbrev M (α : Type) := Sd → Option (α × Sd)
def mPure {α : Type} (a : α) : M α := fun τ => some (a, τ)
def mBind {α β : Type} (f : M α) (g : α → M β) : M β := fun τ => match f τ with
  | some (a, τ1) => g a τ1
  | none => none
/-- a partial function of data, the state as it is -/
def mLift {α : Type} (o : Option α) : M α := fun τ => match o with
  | some a => some (a, τ)
  | none => none

section
variable (K : PySem.W.Frag) (mg : Str → Option Value) (G : Gx)
def tD (f : M D) : TE := fun σ H Q => ∃ O τ d τ', SR K mg G H O σ τ ∧ f τ = some (d, τ') ∧ ∀ v H' O', Le H O H' O' → SR K mg G H' O' σ τ' → Rep K mg (cut H' O') v d → Q v H'
def tDT (f : M Bool) : TT := fun σ H Q => ∃ O τ b τ', SR K mg G H O σ τ ∧ f τ = some (b, τ') ∧ ∀ H' O', Le H O H' O' → SR K mg G H' O' σ τ' → Q b H'
def tDA (f : M (List D)) : TA := fun σ H Q => ∃ O τ ds τ', SR K mg G H O σ τ ∧ f τ = some (ds, τ') ∧ ∀ vs H' O', Le H O H' O' → SR K mg G H' O' σ τ' → RepL K mg (cut H' O') vs ds → Q vs H'
/-- a new list -/
def tDF (f : M (List D)) : TE := fun σ H Q => ∃ O τ l τ', SR K mg G H O σ τ ∧ f τ = some (l, τ') ∧
  ∀ p xs H1 O', H1 p = none → Le H O H1 O' → SR K mg G H1 O' σ τ' → RepL K mg (cut H1 O') xs l → Q (.ref p) (upd H1 p (.lst xs))
end
def DE (X : Cx) (G : Gx) (e : Expr) (f : M D) : Prop := PE X e (tD X.K X.mg G f)
def DT (X : Cx) (G : Gx) (e : Expr) (f : M Bool) : Prop := PT X e (tDT X.K X.mg G f)
def DA (X : Cx) (G : Gx) (es : List Expr) (f : M (List D)) : Prop := PA X es (tDA X.K X.mg G f)
def DF (X : Cx) (G : Gx) (e : Expr) (f : M (List D)) : Prop := PE X e (tDF X.K X.mg G f)

theorem pe_imp {X : Cx} {e : Expr} {t t' : TE} (h : PE X e t) (i : ∀ σ H Q, t' σ H Q → t σ H Q) : PE X e t' := ⟨fun pins s σ H Q I q => h.run pins s σ H Q I (i σ H Q q)⟩
theorem pt_imp {X : Cx} {e : Expr} {t t' : TT} (h : PT X e t) (i : ∀ σ H Q, t' σ H Q → t σ H Q) : PT X e t' := ⟨fun pins s σ H Q I q => h.run pins s σ H Q I (i σ H Q q)⟩
theorem pa_imp {X : Cx} {es : List Expr} {t t' : TA} (h : PA X es t) (i : ∀ σ H Q, t' σ H Q → t σ H Q) : PA X es t' := ⟨fun pos pins s σ H Q I q => h.run pos pins s σ H Q I (i σ H Q q)⟩
theorem ps_imp {X : Cx} {st : Stmt} {t t' : TS} (h : PS X st t) (i : ∀ D σ H, t' D σ H → t D σ H) : PS X st t' := ⟨fun pins s σ H D I q => h.run pins s σ H D I (i D σ H q)⟩
theorem pss_imp {X : Cx} {st : List Stmt} {t t' : TS} (h : PSs X st t) (i : ∀ D σ H, t' D σ H → t D σ H) : PSs X st t' := ⟨fun pins s σ H D I q => h.run pins s σ H D I (i D σ H q)⟩
theorem pe_both {X : Cx} {e : Expr} {t u : TE} (h : PE X e t) (h' : PE X e u) : PE X e (fun σ H Q => t σ H Q ∨ u σ H Q) := ⟨fun pins s σ H Q I q => q.elim (h.run pins s σ H Q I) (h'.run pins s σ H Q I)⟩

/-! ### values by values -/
/-- two operands: r is met wherever g gives a value -/
def V2 (X : Cx) (r : R2) (g : D → D → Option D) : Prop := ∀ H O x y a b z Q, Live H O → Rep X.K X.mg (cut H O) x a → Rep X.K X.mg (cut H O) y b → g a b = some z →
  (∀ v H', Grow H H' → Rep X.K X.mg (cut H' O) v z → Q v H') → r x y H Q
def V1 (X : Cx) (r : V → Hp → VK → Prop) (g : D → Option D) : Prop := ∀ H O x a z Q, Live H O → Rep X.K X.mg (cut H O) x a → g a = some z →
  (∀ v H', Grow H H' → Rep X.K X.mg (cut H' O) v z → Q v H') → r x H Q
def VN (X : Cx) (r : List V → Hp → VK → Prop) (g : List D → Option D) : Prop := ∀ H O xs ds z Q, Live H O → RepL X.K X.mg (cut H O) xs ds → g ds = some z →
  (∀ v H', Grow H H' → Rep X.K X.mg (cut H' O) v z → Q v H') → r xs H Q
/-- the same where a new list comes -/
def V2F (X : Cx) (r : R2) (g : D → D → Option (List D)) : Prop := ∀ H O x y a b l Q, Live H O → Rep X.K X.mg (cut H O) x a → Rep X.K X.mg (cut H O) y b → g a b = some l →
  (∀ p xs, H p = none → RepL X.K X.mg (cut H O) xs l → Q (.ref p) (upd H p (.lst xs))) → r x y H Q
def VNF (X : Cx) (r : List V → Hp → VK → Prop) (g : List D → Option (List D)) : Prop := ∀ H O xs ds l Q, Live H O → RepL X.K X.mg (cut H O) xs ds → g ds = some l →
  (∀ p ys, H p = none → RepL X.K X.mg (cut H O) ys l → Q (.ref p) (upd H p (.lst ys))) → r xs H Q

section
variable {X : Cx} {G : Gx} {H : Hp} {O : List Addr}
theorem new_list {K : PySem.W.Frag} {mg : Str → Option Value} {p : Addr} {xs : List V} {l : List D} (lv : Live H O) (h : H p = none) (r : RepL K mg (cut H O) xs l) : Rep K mg (cut (upd H p (.lst xs)) O) (.ref p) (.lst l) :=
  .lst (cut_of (lv.ne h) upd_same) (RepL.grow ((Grow.new h).cut O).w r)
theorem new_tup {K : PySem.W.Frag} {mg : Str → Option Value} {p : Addr} {xs : List V} {l : List D} (lv : Live H O) (h : H p = none) (r : RepL K mg (cut H O) xs l) : Rep K mg (cut (upd H p (.tup xs)) O) (.ref p) (.tup l) :=
  .tup (.inl (.inl (cut_of (lv.ne h) upd_same))) (RepL.grow ((Grow.new h).cut O).w r)
theorem V2F.v2 {r : R2} {g : D → D → Option (List D)} (h : V2F X r g) : V2 X r (fun a b => (g a b).map D.lst) := fun H O x y a b z Q lv ra rb e q => by
  cases e1 : g a b with
  | none => simp [e1] at e
  | some l =>
    simp [e1] at e; subst e
    exact h H O x y a b l Q lv ra rb e1 fun p xs hp rl => q _ _ (Grow.new hp) (new_list lv hp rl)
theorem VNF.vn {r : List V → Hp → VK → Prop} {g : List D → Option (List D)} (h : VNF X r g) : VN X r (fun ds => (g ds).map D.lst) := fun H O xs ds z Q lv rl e q => by
  cases e1 : g ds with
  | none => simp [e1] at e
  | some l =>
    simp [e1] at e; subst e
    exact h H O xs ds l Q lv rl e1 fun p ys hp ry => q _ _ (Grow.new hp) (new_list lv hp ry)
/-- a new list as a value -/
theorem DF.de {e : Expr} {f : M (List D)} (h : DF X G e f) : DE X G e (mBind f fun l => mPure (.lst l)) := pe_imp h fun σ H Q q => by
  obtain ⟨O, τ, d, τ', R, e1, q⟩ := q
  unfold mBind at e1
  cases e2 : f τ with
  | none => simp [e2] at e1
  | some p =>
    obtain ⟨l, τ1⟩ := p
    simp [e2, mPure] at e1
    obtain ⟨rfl, rfl⟩ := e1
    exact ⟨O, τ, l, _, R, e2, fun p xs H1 O' hp le R1 rl => q _ _ O' (le.trans (Le.grow (Grow.new hp))) (R1.grow (Grow.new hp)) (new_list R1.live hp rl)⟩

/-! ### names, constants -/
/-- a slot that no one changes -/
def vR (i : Nat) : M D := fun τ => match τ[i]? with
  | some (some (.val d)) => some (d, τ)
  | _ => none
theorem vR_some {i : Nat} {τ τ' : Sd} {d : D} (h : vR i τ = some (d, τ')) : τ' = τ ∧ τ[i]? = some (some (.val d)) := by
  unfold vR at h
  split at h
  · rename_i d' e
    cases h
    exact ⟨rfl, e⟩
  · cases h
theorem de_v {e : Expr} (i : Nat) (h : PE X e (tVar i)) : DE X G e (vR i) := pe_imp h fun σ H Q q => by
  obtain ⟨O, τ, d, τ', R, e1, q⟩ := q
  obtain ⟨rfl, e2⟩ := vR_some e1
  obtain ⟨v, ev, r⟩ := R.slot i _ e2
  exact ⟨v, ev, q v H O (Le.refl _ _) R r⟩
theorem de_c {e : Expr} {v : V} {d : D} (h : PE X e (tC v)) (r : ∀ H, Rep X.K X.mg H v d) : DE X G e (mPure d) := pe_imp h fun σ H Q q => by
  obtain ⟨O, τ, d', τ', R, e1, q⟩ := q
  unfold mPure at e1; cases e1
  exact q v H O (Le.refl _ _) R (r _)
theorem de_int {i j pos} : DE X G (.Constant (.int i) j pos) (mPure (.int i)) := de_c pe_int fun _ => .int i
theorem de_bl {b j pos} : DE X G (.Constant (.bool b) j pos) (mPure (.bl b)) := de_c pe_bl fun _ => .bl b
theorem de_non {j pos} : DE X G (.Constant .none j pos) (mPure .non) := de_c pe_non fun _ => .non
theorem de_str {x j pos} : DE X G (.Constant (.str x) j pos) (mPure (.str x)) := de_c pe_str fun _ => .str x

/-! ### operators -/
def m2 (g : D → D → Option D) (fa fb : M D) : M D := mBind fa fun a => mBind fb fun b => mLift (g a b)
theorem m2_some {g : D → D → Option D} {fa fb : M D} {τ τ' : Sd} {z : D} (h : m2 g fa fb τ = some (z, τ')) : ∃ a b τ1, fa τ = some (a, τ1) ∧ fb τ1 = some (b, τ') ∧ g a b = some z := by
  unfold m2 mBind at h
  cases e1 : fa τ with
  | none => simp [e1] at h
  | some p =>
    obtain ⟨a, τ1⟩ := p
    simp only [e1] at h
    cases e2 : fb τ1 with
    | none => simp [e2] at h
    | some p2 =>
      obtain ⟨b, τ2⟩ := p2
      simp only [e2, mLift] at h
      cases e3 : g a b with
      | none => simp [e3] at h
      | some z' =>
        simp [e3] at h
        obtain ⟨rfl, rfl⟩ := h
        exact ⟨a, b, τ1, rfl, e2, e3⟩
theorem tOp_of {r : R2} {g : D → D → Option D} {fa fb : M D} (hr : V2 X r g) : ∀ σ H Q, tD X.K X.mg G (m2 g fa fb) σ H Q → tOp r (tD X.K X.mg G fa) (tD X.K X.mg G fb) σ H Q := fun σ H Q q => by
  obtain ⟨O, τ, z, τ', R, e, q⟩ := q
  obtain ⟨a, b, τ1, e1, e2, e3⟩ := m2_some e
  refine ⟨O, τ, a, τ1, R, e1, fun x H1 O1 l1 R1 r1 => ?_⟩
  refine ⟨O1, τ1, b, τ', R1, e2, fun y H2 O2 l2 R2 r2 => ?_⟩
  refine hr H2 O2 x y a b z Q R2.live (Rep.grow l2 r1) r2 e3 fun v H' g' rz => ?_
  exact q v H' O2 ((l1.trans l2).trans (Le.grow g')) (R2.grow g') rz
theorem de_op {a b : Expr} {op : Operator} {pos : Pos} {r : R2} {g : D → D → Option D} {fa fb : M D} (ho : OpR X (binaryOp op) r) (hr : V2 X r g) (ha : DE X G a fa) (hb : DE X G b fb) : DE X G (.BinOp a op b pos) (m2 g fa fb) :=
  pe_imp (pe_op ho ha hb) (tOp_of hr)
theorem de_cmp {a b : Expr} {op : CmpOp} {pos : Pos} {r : R2} {g : D → D → Option D} {fa fb : M D} (ho : OpR X (compareOp op) r) (hr : V2 X r g) (ha : DE X G a fa) (hb : DE X G b fb) (hm : behindInMarks op b = false) : DE X G (.Compare a [op] [b] pos) (m2 g fa fb) :=
  pe_imp (pe_cmpR ho ha hb hm) (tOp_of hr)
def m1 (g : D → Option D) (fa : M D) : M D := mBind fa fun a => mLift (g a)
theorem m1_some {α : Type} {g : D → Option α} {fa : M D} {τ τ' : Sd} {z : α} (h : mBind fa (fun a => mLift (g a)) τ = some (z, τ')) : ∃ a, fa τ = some (a, τ') ∧ g a = some z := by
  unfold mBind at h
  cases e1 : fa τ with
  | none => simp [e1] at h
  | some p =>
    obtain ⟨a, τ1⟩ := p
    simp only [e1, mLift] at h
    cases e3 : g a with
    | none => simp [e3] at h
    | some z' =>
      simp [e3] at h
      obtain ⟨rfl, rfl⟩ := h
      exact ⟨a, rfl, e3⟩
theorem de_un {a : Expr} {op : UnaryOp} {pos : Pos} {r : V → Hp → VK → Prop} {g : D → Option D} {fa : M D} (ho : UnR X (unaryOp op) r) (hr : V1 X r g) (ha : DE X G a fa) : DE X G (.UnaryOp op a pos) (m1 g fa) :=
  pe_imp (pe_un ho ha) fun σ H Q q => by
    obtain ⟨O, τ, z, τ', R, e, q⟩ := q
    obtain ⟨a, e1, e2⟩ := m1_some e
    refine ⟨O, τ, a, τ', R, e1, fun x H1 O1 l1 R1 r1 => ?_⟩
    exact hr H1 O1 x a z Q R1.live r1 e2 fun v H' g' rz => q v H' O1 (l1.trans (Le.grow g')) (R1.grow g') rz

/-! ### argument lists, displays -/
def aNil : M (List D) := mPure []
def aCons (fa : M D) (fr : M (List D)) : M (List D) := mBind fa fun a => mBind fr fun r => mPure (a :: r)
theorem aCons_some {fa : M D} {fr : M (List D)} {τ τ' : Sd} {z : List D} (h : aCons fa fr τ = some (z, τ')) : ∃ a r τ1, fa τ = some (a, τ1) ∧ fr τ1 = some (r, τ') ∧ z = a :: r := by
  unfold aCons mBind at h
  cases e1 : fa τ with
  | none => simp [e1] at h
  | some p =>
    obtain ⟨a, τ1⟩ := p
    simp only [e1] at h
    cases e2 : fr τ1 with
    | none => simp [e2] at h
    | some p2 =>
      obtain ⟨b, τ2⟩ := p2
      simp only [e2, mPure] at h
      cases h
      exact ⟨a, b, τ1, rfl, e2, rfl⟩
theorem da_nil : DA X G [] aNil := pa_imp pa_nil fun σ H Q q => by
  obtain ⟨O, τ, z, τ', R, e, q⟩ := q
  unfold aNil mPure at e; cases e
  exact q [] H O (Le.refl _ _) R .nil
theorem da_cons {e : Expr} {es : List Expr} {fa : M D} {fr : M (List D)} (ha : DE X G e fa) (hr : DA X G es fr) (hs : starEach (e :: es) X.env = (false, eval e X.env) :: starEach es X.env := by rfl) : DA X G (e :: es) (aCons fa fr) :=
  pa_imp (pa_cons ha hr hs) fun σ H Q q => by
    obtain ⟨O, τ, z, τ', R, e, q⟩ := q
    obtain ⟨a, r, τ1, e1, e2, rfl⟩ := aCons_some e
    refine ⟨O, τ, a, τ1, R, e1, fun x H1 O1 l1 R1 r1 => ?_⟩
    refine ⟨O1, τ1, r, τ', R1, e2, fun xs H2 O2 l2 R2 r2 => ?_⟩
    exact q (x :: xs) H2 O2 (l1.trans l2) R2 (.cons (Rep.grow l2 r1) r2)
/-- short enough to be laid -/
def fit {α : Type} (l : List α) : Option (List α) := if l.length ≤ sizeLine then some l else none
theorem fit_some {α : Type} {l m : List α} (h : fit l = some m) : m = l ∧ l.length ≤ sizeLine := by
  unfold fit at h
  split at h
  · cases h; exact ⟨rfl, by assumption⟩
  · cases h
def mTup (f : M (List D)) : M D := mBind f fun l => mLift ((fit l).map D.tup)
def mLst (f : M (List D)) : M (List D) := mBind f fun l => mLift (fit l)
theorem mL_some {α β : Type} {f : M α} {g : α → Option β} {τ τ' : Sd} {z : β} (h : mBind f (fun a => mLift (g a)) τ = some (z, τ')) : ∃ a, f τ = some (a, τ') ∧ g a = some z := by
  unfold mBind at h
  cases e1 : f τ with
  | none => simp [e1] at h
  | some p =>
    obtain ⟨a, τ1⟩ := p
    simp only [e1, mLift] at h
    cases e3 : g a with
    | none => simp [e3] at h
    | some z' =>
      simp [e3] at h
      obtain ⟨rfl, rfl⟩ := h
      exact ⟨a, rfl, e3⟩
theorem de_tup {es : List Expr} {x1} {pos : Pos} {f : M (List D)} (h : DA X G es f) : DE X G (.Tuple es x1 pos) (mTup f) := pe_imp (pe_tup h) fun σ H Q q => by
  obtain ⟨O, τ, z, τ', R, e, q⟩ := q
  obtain ⟨l, e1, e2⟩ := mL_some e
  cases e3 : fit l with
  | none => simp [e3] at e2
  | some m =>
    obtain ⟨rfl, hl⟩ := fit_some e3
    simp [e3] at e2; subst e2
    refine ⟨O, τ, m, τ', R, e1, fun vs H1 O1 l1 R1 r1 => ⟨by rw [r1.length]; exact hl, fun p hp => ?_⟩⟩
    exact q _ _ O1 (l1.trans (Le.grow (Grow.new hp))) (R1.grow (Grow.new hp)) (new_tup R1.live hp r1)
theorem df_lst {es : List Expr} {pos : Pos} {f : M (List D)} (h : DA X G es f) : DF X G (.List es pos) (mLst f) := pe_imp (pe_lst h) fun σ H Q q => by
  obtain ⟨O, τ, z, τ', R, e, q⟩ := q
  obtain ⟨l, e1, e2⟩ := mL_some e
  obtain ⟨rfl, hl⟩ := fit_some e2
  refine ⟨O, τ, z, τ', R, e1, fun vs H1 O1 l1 R1 r1 => ⟨by rw [r1.length]; exact hl, fun p hp => ?_⟩⟩
  exact q p vs H1 O1 hp l1 R1 r1
/-- operators that make a new list -/
def m2F (g : D → D → Option (List D)) (fa fb : M D) : M (List D) := mBind fa fun a => mBind fb fun b => mLift (g a b)
theorem df_op {a b : Expr} {op : Operator} {pos : Pos} {r : R2} {g : D → D → Option (List D)} {fa fb : M D} (ho : OpR X (binaryOp op) r) (hr : V2F X r g) (ha : DE X G a fa) (hb : DE X G b fb) : DF X G (.BinOp a op b pos) (m2F g fa fb) :=
  pe_imp (pe_op ho ha hb) fun σ H Q q => by
    obtain ⟨O, τ, z, τ', R, e, q⟩ := q
    unfold m2F mBind at e
    cases e1 : fa τ with
    | none => simp [e1] at e
    | some p =>
      obtain ⟨a, τ1⟩ := p
      simp only [e1] at e
      obtain ⟨b, e2, e3⟩ := mL_some (f := fb) (g := g a) e
      refine ⟨O, τ, a, τ1, R, e1, fun x H1 O1 l1 R1 r1 => ?_⟩
      refine ⟨O1, τ1, b, τ', R1, e2, fun y H2 O2 l2 R2 r2 => ?_⟩
      exact hr H2 O2 x y a b z Q R2.live (Rep.grow l2 r1) r2 e3 fun p xs hp rl => q p xs H2 O2 hp (l1.trans l2) R2 rl

/-! ### calls of built-in functions and types -/
def mCall (g : List D → Option D) (f : M (List D)) : M D := mBind f fun l => mLift (g l)
theorem tCB_of {r : List V → Hp → VK → Prop} {g : List D → Option D} {f : M (List D)} (hr : VN X r g) : ∀ σ H Q, tD X.K X.mg G (mCall g f) σ H Q → tCB r (tDA X.K X.mg G f) σ H Q := fun σ H Q q => by
  obtain ⟨O, τ, z, τ', R, e, q⟩ := q
  obtain ⟨l, e1, e2⟩ := mL_some e
  refine ⟨O, τ, l, τ', R, e1, fun xs H1 O1 l1 R1 r1 => ?_⟩
  exact hr H1 O1 xs l z Q R1.live r1 e2 fun v H' g' rz => q v H' O1 (l1.trans (Le.grow g')) (R1.grow g') rz
theorem de_callB {x : Str} {p pos : Pos} {e : Expr} {es : List Expr} {id : String} {r : List V → Hp → VK → Prop} {g : List D → Option D} {f : M (List D)} (hc : CallR X (.builtin id) r) (hr : VN X r g) (hg : Gl X x) (hm : X.mg x = none) (hv : bootBuiltins x = some (.builtin id)) (ha : DA X G (e :: es) f) (hn : x ≠ "__name__" := by decide) (hdb : (x == ("__debug__" : Str)) = false := by decide)
    (he : starEach (e :: es) X.env = (false, eval e X.env) :: starEach es X.env := by rfl) (hpl : (backTo pos (starEach es X.env)).any (·.1) = false := by rfl) : DE X G (.Call (.Name x p) (e :: es) [] pos) (mCall g f) :=
  pe_imp (pe_callB hc hg hm hv ha hn hdb he hpl) (tCB_of hr)
theorem de_callTy {x : Str} {p pos : Pos} {e : Expr} {es : List Expr} {T : String} {r : List V → Hp → VK → Prop} {g : List D → Option D} {f : M (List D)} (hc : CallR X (.type T) r) (hr : VN X r g) (hg : Gl X x) (hm : X.mg x = none) (hv : bootBuiltins x = some (.type T)) (ha : DA X G (e :: es) f) (hn : x ≠ "__name__" := by decide) (hdb : (x == ("__debug__" : Str)) = false := by decide)
    (he : starEach (e :: es) X.env = (false, eval e X.env) :: starEach es X.env := by rfl) (hpl : (backTo pos (starEach es X.env)).any (·.1) = false := by rfl) : DE X G (.Call (.Name x p) (e :: es) [] pos) (mCall g f) :=
  pe_imp (pe_callTy hc hg hm hv ha hn hdb he hpl) (tCB_of hr)
def mCallF (g : List D → Option (List D)) (f : M (List D)) : M (List D) := mBind f fun l => mLift (g l)
theorem tCBF_of {r : List V → Hp → VK → Prop} {g : List D → Option (List D)} {f : M (List D)} (hr : VNF X r g) : ∀ σ H Q, tDF X.K X.mg G (mCallF g f) σ H Q → tCB r (tDA X.K X.mg G f) σ H Q := fun σ H Q q => by
  obtain ⟨O, τ, z, τ', R, e, q⟩ := q
  obtain ⟨l, e1, e2⟩ := mL_some e
  refine ⟨O, τ, l, τ', R, e1, fun xs H1 O1 l1 R1 r1 => ?_⟩
  exact hr H1 O1 xs l z Q R1.live r1 e2 fun p ys hp rz => q p ys H1 O1 hp l1 R1 rz
theorem df_callB {x : Str} {p pos : Pos} {e : Expr} {es : List Expr} {id : String} {r : List V → Hp → VK → Prop} {g : List D → Option (List D)} {f : M (List D)} (hc : CallR X (.builtin id) r) (hr : VNF X r g) (hg : Gl X x) (hm : X.mg x = none) (hv : bootBuiltins x = some (.builtin id)) (ha : DA X G (e :: es) f) (hn : x ≠ "__name__" := by decide) (hdb : (x == ("__debug__" : Str)) = false := by decide)
    (he : starEach (e :: es) X.env = (false, eval e X.env) :: starEach es X.env := by rfl) (hpl : (backTo pos (starEach es X.env)).any (·.1) = false := by rfl) : DF X G (.Call (.Name x p) (e :: es) [] pos) (mCallF g f) :=
  pe_imp (pe_callB hc hg hm hv ha hn hdb he hpl) (tCBF_of hr)
theorem df_callTy {x : Str} {p pos : Pos} {e : Expr} {es : List Expr} {T : String} {r : List V → Hp → VK → Prop} {g : List D → Option (List D)} {f : M (List D)} (hc : CallR X (.type T) r) (hr : VNF X r g) (hg : Gl X x) (hm : X.mg x = none) (hv : bootBuiltins x = some (.type T)) (ha : DA X G (e :: es) f) (hn : x ≠ "__name__" := by decide) (hdb : (x == ("__debug__" : Str)) = false := by decide)
    (he : starEach (e :: es) X.env = (false, eval e X.env) :: starEach es X.env := by rfl) (hpl : (backTo pos (starEach es X.env)).any (·.1) = false := by rfl) : DF X G (.Call (.Name x p) (e :: es) [] pos) (mCallF g f) :=
  pe_imp (pe_callTy hc hg hm hv ha hn hdb he hpl) (tCBF_of hr)
end
end Dv
set_option Elab.async false
set_option linter.all false
set_option maxRecDepth 100000
set_option maxHeartbeats 4000000
/-! DV3: tests, and | or, conditional expressions; statements; loops -/
namespace Dv
open PySem L2
section
variable {X : Cx} {G : Gx}

/-! ### truth -/
def truthD : D → Option Bool
  | .non => some false
  | .bl b => some b
  | .int i => some (i != 0)
  | .str x => if x.length ≤ sizeLine then some ((x.length : Int) != 0) else none
  | .tup l => some (!l.isEmpty)
  | .lst l => some (!l.isEmpty)
  | _ => none
theorem RepL.isEmpty {K : PySem.W.Frag} {mg : Str → Option Value} {H : Hp} {vs : List V} {ds : List D} (r : RepL K mg H vs ds) : vs.isEmpty = ds.isEmpty := by cases r <;> rfl
theorem truth_ok {K : PySem.W.Frag} {mg : Str → Option Value} {H : Hp} {O : List Addr} {x : V} {a : D} {b : Bool} (r : Rep K mg (cut H O) x a) (h : truthD a = some b) : TruV K x H b := by
  cases r with
  | non => simp [truthD] at h; subst h; exact rfl
  | bl c => simp [truthD] at h; subst h; exact rfl
  | int i => simp [truthD] at h; subst h; exact rfl
  | str z =>
    simp only [truthD] at h
    split at h
    · cases h; exact ⟨by assumption, rfl⟩
    · cases h
  | tup hq rl =>
    simp only [truthD] at h; cases h
    exact .inr (.inl ⟨_, SqT.grow (Grow.ofCut H O) hq, by rw [rl.isEmpty]⟩)
  | lst hq rl =>
    simp only [truthD] at h; cases h
    exact .inl ⟨_, .inl (.inl (Grow.ofCut H O _ _ hq)), by rw [rl.isEmpty]⟩
  | scr hq => simp [truthD] at h
  | obj h1 h2 h3 rl => simp [truthD] at h
  | exc h1 h2 h3 h4 rl => simp [truthD] at h
  | dic h1 h2 rl => simp [truthD] at h
  | dit h1 h2 rl => simp [truthD] at h
def mTru (f : M D) : M Bool := mBind f fun a => mLift (truthD a)
theorem dt_of {e : Expr} {f : M D} (h : DE X G e f) (he : ∀ whole, isTrue e X.env whole = (do let v ← whole; standAt e.pos; holding [v] (truthy v)) := by intro _; rfl) : DT X G e (mTru f) := pt_imp (pt_truth h he) fun σ H Q q => by
  obtain ⟨O, τ, b, τ', R, e1, q⟩ := q
  obtain ⟨a, e2, e3⟩ := mL_some e1
  exact ⟨O, τ, a, τ', R, e2, fun x H1 O1 l1 R1 r1 => ⟨b, truth_ok r1 e3, q H1 O1 l1 R1⟩⟩
/-- a comparison as a test: its answer is a truth value -/
def asB : D → Option Bool
  | .bl b => some b
  | _ => none
def mB (f : M D) : M Bool := mBind f fun a => mLift (asB a)
theorem asB_some {d : D} {b : Bool} (h : asB d = some b) : d = .bl b := by cases d <;> simp [asB] at h; subst h; rfl
theorem rep_bl {K : PySem.W.Frag} {mg : Str → Option Value} {H : Hp} {v : V} {b : Bool} (r : Rep K mg H v (.bl b)) : v = .bl b := by cases r; rfl
theorem rep_int {K : PySem.W.Frag} {mg : Str → Option Value} {H : Hp} {v : V} {i : Int} (r : Rep K mg H v (.int i)) : v = .int i := by cases r; rfl
theorem rep_str {K : PySem.W.Frag} {mg : Str → Option Value} {H : Hp} {v : V} {x : Str} (r : Rep K mg H v (.str x)) : v = .str x := by cases r; rfl
theorem dt_cmp {a b : Expr} {op : CmpOp} {pos : Pos} {r : R2} {g : D → D → Option D} {fa fb : M D} (ho : OpR X (compareOp op) r) (hr : V2 X r g) (ha : DE X G a fa) (hb : DE X G b fb) (hm : behindInMarks op b = false) : DT X G (.Compare a [op] [b] pos) (mB (m2 g fa fb)) :=
  pt_imp (pt_cmpR ho ha hb hm) fun σ H Q q => by
    obtain ⟨O, τ, b, τ', R, e1, q⟩ := q
    obtain ⟨d, e2, e3⟩ := mL_some e1
    refine tOp_of hr σ H _ ⟨O, τ, d, τ', R, e2, fun v H1 O1 l1 R1 r1 => ⟨b, ?_, q H1 O1 l1 R1⟩⟩
    have := asB_some e3; subst this
    exact rep_bl r1
def mAnd (fa fb : M Bool) : M Bool := mBind fa fun a => if a = true then fb else mPure false
def mOr (fa fb : M Bool) : M Bool := mBind fa fun a => if a = true then mPure true else fb
def mNot (fa : M Bool) : M Bool := mBind fa fun a => mPure (!a)
def DW (X : Cx) (G : Gx) (e : Expr) (f : M Bool) : Prop := PW X e (tDT X.K X.mg G f)
theorem DW.dt {e : Expr} {f : M Bool} (h : DW X G e f) : DT X G e f := PW.pt h
theorem pw_imp {e : Expr} {t t' : TT} (h : PW X e t) (i : ∀ σ H Q, t' σ H Q → t σ H Q) : PW X e t' := ⟨fun wh pins s σ H Q I q => h.run wh pins s σ H Q I (i σ H Q q)⟩
theorem dw_and1 {a : Expr} {pos : Pos} {f : M Bool} (h : DT X G a f) : DW X G (.BoolOp .And [a] pos) f := pw_and1 h
theorem dw_or1 {a : Expr} {pos : Pos} {f : M Bool} (h : DT X G a f) : DW X G (.BoolOp .Or [a] pos) f := pw_or1 h
theorem mBind_some {α β : Type} {f : M α} {g : α → M β} {τ τ' : Sd} {z : β} (h : mBind f g τ = some (z, τ')) : ∃ a τ1, f τ = some (a, τ1) ∧ g a τ1 = some (z, τ') := by
  unfold mBind at h
  cases e1 : f τ with
  | none => simp [e1] at h
  | some p =>
    obtain ⟨a, τ1⟩ := p
    simp only [e1] at h
    exact ⟨a, τ1, rfl, h⟩
theorem dw_and {a b : Expr} {rest : List Expr} {pos : Pos} {fa fb : M Bool} (ha : DT X G a fa) (hb : DW X G (.BoolOp .And (b :: rest) pos) fb) : DW X G (.BoolOp .And (a :: b :: rest) pos) (mAnd fa fb) :=
  pw_imp (pw_and ha hb) fun σ H Q q => by
    obtain ⟨O, τ, c, τ', R, e1, q⟩ := q
    obtain ⟨x, τ1, e2, e3⟩ := mBind_some e1
    refine ⟨O, τ, x, τ1, R, e2, fun H1 O1 l1 R1 => ?_⟩
    cases x with
    | true => exact ⟨O1, τ1, c, τ', R1, e3, fun H2 O2 l2 R2 => q H2 O2 (l1.trans l2) R2⟩
    | false => cases e3; exact q H1 O1 l1 R1
theorem dw_or {a b : Expr} {rest : List Expr} {pos : Pos} {fa fb : M Bool} (ha : DT X G a fa) (hb : DW X G (.BoolOp .Or (b :: rest) pos) fb) : DW X G (.BoolOp .Or (a :: b :: rest) pos) (mOr fa fb) :=
  pw_imp (pw_or ha hb) fun σ H Q q => by
    obtain ⟨O, τ, c, τ', R, e1, q⟩ := q
    obtain ⟨x, τ1, e2, e3⟩ := mBind_some e1
    refine ⟨O, τ, x, τ1, R, e2, fun H1 O1 l1 R1 => ?_⟩
    cases x with
    | false => exact ⟨O1, τ1, c, τ', R1, e3, fun H2 O2 l2 R2 => q H2 O2 (l1.trans l2) R2⟩
    | true => cases e3; exact q H1 O1 l1 R1
theorem dt_not {a : Expr} {pos : Pos} {fa : M Bool} (ha : DT X G a fa) : DT X G (.UnaryOp .Not a pos) (mNot fa) := pt_imp (pt_not ha) fun σ H Q q => by
  obtain ⟨O, τ, c, τ', R, e1, q⟩ := q
  obtain ⟨x, τ1, e2, e3⟩ := mBind_some e1
  cases e3
  exact ⟨O, τ, x, _, R, e2, q⟩
/-- and, or, not as values: by truth -/
def mAndV (fa fb : M D) : M D := mBind fa fun a => mBind (mLift (truthD a)) fun b => if b = true then fb else mPure a
def mOrV (fa fb : M D) : M D := mBind fa fun a => mBind (mLift (truthD a)) fun b => if b = true then mPure a else fb
theorem de_one {op} {a : Expr} {pos : Pos} {f : M D} (h : DE X G a f) : DE X G (.BoolOp op [a] pos) f := pe_one h
theorem de_and {a b : Expr} {rest : List Expr} {pos : Pos} {fa fb : M D} (ha : DE X G a fa) (hb : DE X G (.BoolOp .And (b :: rest) pos) fb) : DE X G (.BoolOp .And (a :: b :: rest) pos) (mAndV fa fb) :=
  pe_imp (pe_andT ha hb) fun σ H Q q => by
    obtain ⟨O, τ, c, τ', R, e1, q⟩ := q
    obtain ⟨x, τ1, e2, e3⟩ := mBind_some e1
    obtain ⟨k, τ2, e4, e5⟩ := mBind_some e3
    refine ⟨O, τ, x, τ1, R, e2, fun v H1 O1 l1 R1 r1 => ?_⟩
    unfold mLift at e4
    cases e6 : truthD x with
    | none => simp [e6] at e4
    | some k' =>
      simp [e6] at e4
      obtain ⟨rfl, rfl⟩ := e4
      refine ⟨k', truth_ok r1 e6, ?_⟩
      cases k' with
      | true => exact ⟨O1, τ1, c, τ', R1, e5, fun v H2 O2 l2 R2 r2 => q v H2 O2 (l1.trans l2) R2 r2⟩
      | false => cases e5; exact q v H1 O1 l1 R1 r1
theorem de_or {a b : Expr} {rest : List Expr} {pos : Pos} {fa fb : M D} (ha : DE X G a fa) (hb : DE X G (.BoolOp .Or (b :: rest) pos) fb) : DE X G (.BoolOp .Or (a :: b :: rest) pos) (mOrV fa fb) :=
  pe_imp (pe_orT ha hb) fun σ H Q q => by
    obtain ⟨O, τ, c, τ', R, e1, q⟩ := q
    obtain ⟨x, τ1, e2, e3⟩ := mBind_some e1
    obtain ⟨k, τ2, e4, e5⟩ := mBind_some e3
    refine ⟨O, τ, x, τ1, R, e2, fun v H1 O1 l1 R1 r1 => ?_⟩
    unfold mLift at e4
    cases e6 : truthD x with
    | none => simp [e6] at e4
    | some k' =>
      simp [e6] at e4
      obtain ⟨rfl, rfl⟩ := e4
      refine ⟨k', truth_ok r1 e6, ?_⟩
      cases k' with
      | false => exact ⟨O1, τ1, c, τ', R1, e5, fun v H2 O2 l2 R2 r2 => q v H2 O2 (l1.trans l2) R2 r2⟩
      | true => cases e5; exact q v H1 O1 l1 R1 r1
def mNotV (fa : M D) : M D := mBind fa fun a => mLift ((truthD a).map fun b => .bl (!b))
theorem de_not {a : Expr} {pos : Pos} {fa : M D} (ha : DE X G a fa) : DE X G (.UnaryOp .Not a pos) (mNotV fa) := pe_imp (pe_notT ha) fun σ H Q q => by
  obtain ⟨O, τ, c, τ', R, e1, q⟩ := q
  obtain ⟨x, e2, e3⟩ := mL_some e1
  cases e6 : truthD x with
  | none => simp [e6] at e3
  | some k =>
    simp [e6] at e3; subst e3
    exact ⟨O, τ, x, τ', R, e2, fun v H1 O1 l1 R1 r1 => ⟨k, truth_ok r1 e6, q _ H1 O1 l1 R1 (.bl _)⟩⟩
def mIf {α : Type} (t : M Bool) (fa fb : M α) : M α := mBind t fun c => if c = true then fa else fb
theorem de_if {c a b : Expr} {pos : Pos} {t : M Bool} {fa fb : M D} (hc : DT X G c t) (ha : DE X G a fa) (hb : DE X G b fb) : DE X G (.IfExp c a b pos) (mIf t fa fb) := pe_imp (pe_ifExp hc ha hb) fun σ H Q q => by
  obtain ⟨O, τ, d, τ', R, e1, q⟩ := q
  obtain ⟨x, τ1, e2, e3⟩ := mBind_some e1
  refine ⟨O, τ, x, τ1, R, e2, fun H1 O1 l1 R1 => ?_⟩
  cases x with
  | true => exact ⟨O1, τ1, d, τ', R1, e3, fun v H2 O2 l2 R2 r2 => q v H2 O2 (l1.trans l2) R2 r2⟩
  | false => exact ⟨O1, τ1, d, τ', R1, e3, fun v H2 O2 l2 R2 r2 => q v H2 O2 (l1.trans l2) R2 r2⟩
theorem df_if {c a b : Expr} {pos : Pos} {t : M Bool} {fa fb : M (List D)} (hc : DT X G c t) (ha : DF X G a fa) (hb : DF X G b fb) : DF X G (.IfExp c a b pos) (mIf t fa fb) := pe_imp (pe_ifExp hc ha hb) fun σ H Q q => by
  obtain ⟨O, τ, d, τ', R, e1, q⟩ := q
  obtain ⟨x, τ1, e2, e3⟩ := mBind_some e1
  refine ⟨O, τ, x, τ1, R, e2, fun H1 O1 l1 R1 => ?_⟩
  cases x with
  | true => exact ⟨O1, τ1, d, τ', R1, e3, fun p xs H2 O2 hp l2 R2 r2 => q p xs H2 O2 hp (l1.trans l2) R2 r2⟩
  | false => exact ⟨O1, τ1, d, τ', R1, e3, fun p xs H2 O2 hp l2 R2 r2 => q p xs H2 O2 hp (l1.trans l2) R2 r2⟩
/-- a < b < c: one chain -/
def mCh (g g' : D → D → Option D) (fa fb fc : M D) : M D := mBind fa fun a => mBind fb fun b => mBind (mLift ((g a b).bind asB)) fun k => if k = true then mBind fc fun c => mLift (g' b c) else mPure (.bl false)
theorem tChain_of {r r' : R2} {g g' : D → D → Option D} {fa fb fc : M D} (hr : V2 X r g) (hr' : V2 X r' g') : ∀ σ H Q, tD X.K X.mg G (mCh g g' fa fb fc) σ H Q → tChain r r' (tD X.K X.mg G fa) (tD X.K X.mg G fb) (tD X.K X.mg G fc) σ H Q := fun σ H Q q => by
  obtain ⟨O, τ, z, τ', R, e, q⟩ := q
  obtain ⟨a, τ1, e1, e⟩ := mBind_some e
  obtain ⟨b, τ2, e2, e⟩ := mBind_some e
  obtain ⟨k, τ3, e3, e⟩ := mBind_some e
  unfold mLift at e3
  cases e4 : (g a b).bind asB with
  | none => simp [e4] at e3
  | some k' =>
    simp only [e4] at e3
    cases e3
    obtain ⟨d, e5, e6⟩ := Option.bind_eq_some_iff.mp e4
    have := asB_some e6; subst this
    refine ⟨O, τ, a, τ1, R, e1, fun x H1 O1 l1 R1 r1 => ?_⟩
    refine ⟨O1, τ1, b, τ2, R1, e2, fun y H2 O2 l2 R2 r2 => ?_⟩
    refine hr H2 O2 x y a b _ _ R2.live (Rep.grow l2 r1) r2 e5 fun v H3 g3 r3 => ⟨k, rep_bl r3, ?_⟩
    cases k with
    | true =>
      rw [if_pos rfl]
      rw [if_pos rfl] at e
      obtain ⟨c, e7, e8⟩ := mL_some e
      refine ⟨O2, τ2, c, τ', R2.grow g3, e7, fun w H4 O4 l4 R4 r4 => ?_⟩
      refine hr' H4 O4 y w b c z Q R4.live (Rep.grow l4 (Rep.grow (g3.cut O2) r2)) r4 e8 fun v' H5 g5 r5 => ?_
      exact q v' H5 O4 ((((l1.trans l2).trans (Le.grow g3)).trans l4).trans (Le.grow g5)) (R4.grow g5) r5
    | false =>
      rw [if_neg Bool.false_ne_true]
      rw [if_neg Bool.false_ne_true] at e
      cases e
      exact q _ H3 O2 ((l1.trans l2).trans (Le.grow g3)) (R2.grow g3) (.bl false)
theorem de_chain {op op' : CmpOp} {a b c : Expr} {pos : Pos} {r r' : R2} {g g' : D → D → Option D} {fa fb fc : M D} (ho : OpR X (compareOp op) r) (hr : V2 X r g) (ho' : OpR X (compareOp op') r') (hr' : V2 X r' g') (ha : DE X G a fa) (hb : DE X G b fb) (hc : DE X G c fc)
    (hm : lastMarks [op, op'] [b, c] = false := by with_unfolding_all rfl) : DE X G (.Compare a [op, op'] [b, c] pos) (mCh g g' fa fb fc) := pe_imp (pe_chain ho ho' ha hb hc hm) (tChain_of hr hr')
theorem dt_chain {op op' : CmpOp} {a b c : Expr} {pos : Pos} {r r' : R2} {g g' : D → D → Option D} {fa fb fc : M D} (ho : OpR X (compareOp op) r) (hr : V2 X r g) (ho' : OpR X (compareOp op') r') (hr' : V2 X r' g') (ha : DE X G a fa) (hb : DE X G b fb) (hc : DE X G c fc)
    (hm : lastMarks [op, op'] [b, c] = false := by with_unfolding_all rfl) : DT X G (.Compare a [op, op'] [b, c] pos) (mB (mCh g g' fa fb fc)) := pt_imp (pt_chain ho ho' ha hb hc hm) fun σ H Q q => by
  obtain ⟨O, τ, b, τ', R, e1, q⟩ := q
  obtain ⟨d, e2, e3⟩ := mL_some e1
  refine tChain_of hr hr' σ H _ ⟨O, τ, d, τ', R, e2, fun v H1 O1 l1 R1 r1 => ⟨b, ?_, q H1 O1 l1 R1⟩⟩
  have := asB_some e3; subst this
  exact rep_bl r1

/-! ### statements -/
inductive Fl where
  | nx | rt (d : D) | bk | ct
  /-- a new list is handed back -/
  | rf (l : List D)
  /-- an exception of the class c, its attributes -/
  | xc (c : Nat) (ds : List D)
end
section
variable (K : PySem.W.Frag) (mg : Str → Option Value) (G : Gx)
/-- an exception in flight bears data -/
def RepX (H : Hp) (cls : Value) (d : Option Addr) (c : Nat) (ds : List D) : Prop := ∃ C xs, cls = .ref C ∧ mg (clsName c) = some (.ref C) ∧ XFl H ((clsFlds c).zip xs) d ∧ (clsFlds c).length = xs.length ∧ RepL K mg H xs ds
/-- what is wanted behind a statement, of data -/
def FlOk (N : Ends) (H : Hp) (O : List Addr) (τ' : Sd) : Fl → Prop
  | .nx => ∀ σ' H' O', Le H O H' O' → SR K mg G H' O' σ' τ' → N.nx σ' H'
  | .bk => ∀ σ' H' O', Le H O H' O' → SR K mg G H' O' σ' τ' → N.bk σ' H'
  | .ct => ∀ σ' H' O', Le H O H' O' → SR K mg G H' O' σ' τ' → N.ct σ' H'
  | .rt d => ∀ v σ' H' O', Le H O H' O' → SR K mg G H' O' σ' τ' → Rep K mg (cut H' O') v d → N.rt v H'
  | .rf l => ∀ p xs σ' H1 O', Le H O H1 O' → H1 p = none → SR K mg G H1 O' σ' τ' → RepL K mg (cut H1 O') xs l → N.rt (.ref p) (upd H1 p (.lst xs))
  | .xc c ds => ∀ cls d σ' H' O', Le H O H' O' → SR K mg G H' O' σ' τ' → RepX K mg (cut H' O') cls d c ds → G.wx cls d σ' H'
def tDS (f : M Fl) : TS := fun N σ H => ∃ O τ fl τ', SR K mg G H O σ τ ∧ f τ = some (fl, τ') ∧ FlOk K mg G N H O τ' fl
end
def DS (X : Cx) (G : Gx) (st : Stmt) (f : M Fl) : Prop := PS X st (tDS X.K X.mg G f)
def DSs (X : Cx) (G : Gx) (st : List Stmt) (f : M Fl) : Prop := PSs X st (tDS X.K X.mg G f)
section
variable {X : Cx} {G : Gx}
def sNil : M Fl := mPure .nx
def sSeq (f g : M Fl) : M Fl := mBind f fun fl => match fl with
  | .nx => g
  | fl => mPure fl
theorem dss_nil : DSs X G [] sNil := pss_imp pss_nil fun N σ H q => by
  obtain ⟨O, τ, fl, τ', R, e, q⟩ := q
  cases e
  exact q σ H O (Le.refl _ _) R
theorem FlOk.le {K : PySem.W.Frag} {mg : Str → Option Value} {N : Ends} {H H1 : Hp} {O O1 : List Addr} {τ' : Sd} {fl : Fl} (l : Le H O H1 O1) (q : FlOk K mg G N H O τ' fl) : FlOk K mg G N H1 O1 τ' fl := by
  cases fl with
  | nx => exact fun σ' H' O' l' => q σ' H' O' (l.trans l')
  | bk => exact fun σ' H' O' l' => q σ' H' O' (l.trans l')
  | ct => exact fun σ' H' O' l' => q σ' H' O' (l.trans l')
  | rt d => exact fun v σ' H' O' l' => q v σ' H' O' (l.trans l')
  | rf d => exact fun p xs σ' H' O' l' => q p xs σ' H' O' (l.trans l')
  | xc c ds => exact fun cls d σ' H' O' l' => q cls d σ' H' O' (l.trans l')
theorem dss_cons {st : Stmt} {rest : List Stmt} {f g : M Fl} (h1 : DS X G st f) (h2 : DSs X G rest g) : DSs X G (st :: rest) (sSeq f g) := pss_imp (pss_cons h1 h2) fun N σ H q => by
  obtain ⟨O, τ, fl, τ', R, e, q⟩ := q
  obtain ⟨fl1, τ1, e1, e2⟩ := mBind_some e
  refine ⟨O, τ, fl1, τ1, R, e1, ?_⟩
  cases fl1 with
  | nx => exact fun σ' H' O' l' R' => ⟨O', τ1, fl, τ', R', e2, q.le l'⟩
  | bk => cases e2; exact q
  | ct => cases e2; exact q
  | rt d => cases e2; exact q
  | rf d => cases e2; exact q
  | xc c ds => cases e2; exact q
theorem dss_one {st : Stmt} {f : M Fl} (h1 : DS X G st f) : DSs X G [st] f := pss_one h1
theorem ds_pass {pos : Pos} : DS X G (.Pass pos) sNil := ps_imp ps_pass fun N σ H q => by
  obtain ⟨O, τ, fl, τ', R, e, q⟩ := q
  cases e
  exact q σ H O (Le.refl _ _) R
def sBrk : M Fl := mPure .bk
def sCnt : M Fl := mPure .ct
theorem ds_break {pos : Pos} : DS X G (.Break pos) sBrk := ps_imp ps_break fun N σ H q => by
  obtain ⟨O, τ, fl, τ', R, e, q⟩ := q
  cases e
  exact q σ H O (Le.refl _ _) R
theorem ds_continue {pos : Pos} : DS X G (.Continue pos) sCnt := ps_imp ps_continue fun N σ H q => by
  obtain ⟨O, τ, fl, τ', R, e, q⟩ := q
  cases e
  exact q σ H O (Le.refl _ _) R
/-- not asked: a raise, a statement that is never come to -/
def sNo : M Fl := fun _ => none
theorem ds_no {st : Stmt} : DS X G st sNo := ps_imp ps_never fun N σ H q => by
  obtain ⟨O, τ, fl, τ', R, e, q⟩ := q
  cases e
theorem dss_no {st : List Stmt} : DSs X G st sNo := pss_imp pss_never fun N σ H q => by
  obtain ⟨O, τ, fl, τ', R, e, q⟩ := q
  cases e
def sRet (f : M D) : M Fl := mBind f fun d => mPure (.rt d)
theorem ds_ret {e : Expr} {pos : Pos} {f : M D} (h : DE X G e f) : DS X G (.Return (some e) pos) (sRet f) := ps_imp (ps_ret h) fun N σ H q => by
  obtain ⟨O, τ, fl, τ', R, e, q⟩ := q
  obtain ⟨d, τ1, e1, e2⟩ := mBind_some e
  cases e2
  exact ⟨O, τ, d, _, R, e1, fun v H' O' l R' r => q v σ H' O' l R' r⟩
def sRetF (f : M (List D)) : M Fl := mBind f fun d => mPure (.rf d)
theorem ds_retF {e : Expr} {pos : Pos} {f : M (List D)} (h : DF X G e f) : DS X G (.Return (some e) pos) (sRetF f) := ps_imp (ps_ret h) fun N σ H q => by
  obtain ⟨O, τ, fl, τ', R, e, q⟩ := q
  obtain ⟨d, τ1, e1, e2⟩ := mBind_some e
  cases e2
  exact ⟨O, τ, d, _, R, e1, fun p xs H' O' hp l R' r => q p xs σ H' O' l hp R' r⟩
theorem ds_retN {pos : Pos} : DS X G (.Return none pos) (mPure (.rt .non)) := ps_imp ps_retN fun N σ H q => by
  obtain ⟨O, τ, fl, τ', R, e, q⟩ := q
  cases e
  exact q .non σ H O (Le.refl _ _) R .non
def sExpr {α : Type} (f : M α) : M Fl := mBind f fun _ => mPure .nx
theorem ds_expr {e : Expr} {pos : Pos} {f : M D} (h : DE X G e f) (hs : swapsWith e none pos.line X.env = pure false := by rfl) : DS X G (.Expr e pos) (sExpr f) := ps_imp (ps_expr h hs) fun N σ H q => by
  obtain ⟨O, τ, fl, τ', R, e, q⟩ := q
  obtain ⟨d, τ1, e1, e2⟩ := mBind_some e
  cases e2
  exact ⟨O, τ, d, _, R, e1, fun v H' O' l R' r => q σ H' O' l R'⟩
def sIf (t : M Bool) (f g : M Fl) : M Fl := mIf t f g
theorem ds_if {c : Expr} {a b : List Stmt} {pos : Pos} {t : M Bool} {f g : M Fl} (hc : DT X G c t) (ha : DSs X G a f) (hb : DSs X G b g) : DS X G (.If c a b pos) (sIf t f g) := ps_imp (ps_if hc ha hb) fun N σ H q => by
  obtain ⟨O, τ, fl, τ', R, e, q⟩ := q
  obtain ⟨x, τ1, e1, e2⟩ := mBind_some e
  refine ⟨O, τ, x, τ1, R, e1, fun H1 O1 l1 R1 => ?_⟩
  cases x with
  | true => exact ⟨O1, τ1, fl, τ', R1, e2, q.le l1⟩
  | false => exact ⟨O1, τ1, fl, τ', R1, e2, q.le l1⟩

/-! ### stores -/
/-- a slot is given data -/
theorem SR.setV {K : PySem.W.Frag} {mg : Str → Option Value} {H : Hp} {O : List Addr} {σ : St} {τ : Sd} {i : Nat} {v : V} {d : D} (R : SR K mg G H O σ τ) (r : Rep K mg (cut H O) v d) : SR K mg G H O (σ.set i (some v)) (τ.set i (some (.val d))) where
  len := by simp [R.len]
  keep := R.keep
  tab := R.tab
  base := R.base
  own0 := R.own0
  live := R.live
  slot := fun j s h => by
    by_cases e : i = j
    · subst e
      have hl : i < τ.length := by
        by_cases q : i < τ.length
        · exact q
        · rw [List.getElem?_eq_none (by simpa using q)] at h; cases h
      rw [List.getElem?_set_self hl] at h
      cases h
      exact ⟨v, List.getElem?_set_self (by rw [R.len]; exact hl), r⟩
    · rw [List.getElem?_set_ne e] at h
      obtain ⟨w, e1, e2⟩ := R.slot j s h
      exact ⟨w, by rw [List.getElem?_set_ne e]; exact e1, e2⟩
  inj := fun j k s t w h1 o1 h2 o2 e1 e2 => by
    have nj : ∀ {j : Nat} {s : Sl}, (τ.set i (some (Sl.val d)))[j]? = some (some s) → s.isOwn = true → i ≠ j := fun {j s} h o e => by
      subst e
      by_cases q : i < τ.length
      · rw [List.getElem?_set_self q] at h; cases h; cases o
      · rw [List.getElem?_eq_none (by simpa using q)] at h; cases h
    have a := nj h1 o1
    have b := nj h2 o2
    rw [List.getElem?_set_ne a] at h1 e1
    rw [List.getElem?_set_ne b] at h2 e2
    exact R.inj j k s t w h1 o1 h2 o2 e1 e2
  pin := fun p s hp h o => by
    by_cases e : i = 0
    · subst e
      by_cases q : 0 < τ.length
      · rw [List.getElem?_set_self q] at h; cases h; cases o
      · rw [List.getElem?_eq_none (by simpa using q)] at h; cases h
    · rw [List.getElem?_set_ne e] at h ⊢
      exact R.pin p s hp h o
/-- a slot is forgotten -/
theorem SR.setN {K : PySem.W.Frag} {mg : Str → Option Value} {H : Hp} {O : List Addr} {σ : St} {τ : Sd} {i : Nat} {w : Option V} (R : SR K mg G H O σ τ) : SR K mg G H O (σ.set i w) (τ.set i none) where
  len := by simp [R.len]
  keep := R.keep
  tab := R.tab
  base := R.base
  own0 := R.own0
  live := R.live
  slot := fun j s h => by
    by_cases e : i = j
    · subst e
      by_cases q : i < τ.length
      · rw [List.getElem?_set_self q] at h; cases h
      · rw [List.getElem?_eq_none (by simpa using q)] at h; cases h
    · rw [List.getElem?_set_ne e] at h ⊢
      exact R.slot j s h
  inj := fun j k s t w h1 o1 h2 o2 e1 e2 => by
    have nj : ∀ {j : Nat} {s : Sl}, (τ.set i none)[j]? = some (some s) → i ≠ j := fun {j s} h e => by
      subst e
      by_cases q : i < τ.length
      · rw [List.getElem?_set_self q] at h; cases h
      · rw [List.getElem?_eq_none (by simpa using q)] at h; cases h
    have a := nj h1
    have b := nj h2
    rw [List.getElem?_set_ne a] at h1 e1
    rw [List.getElem?_set_ne b] at h2 e2
    exact R.inj j k s t w h1 o1 h2 o2 e1 e2
  pin := fun p s hp h o => by
    by_cases e : i = 0
    · subst e
      by_cases q : 0 < τ.length
      · rw [List.getElem?_set_self q] at h; cases h
      · rw [List.getElem?_eq_none (by simpa using q)] at h; cases h
    · rw [List.getElem?_set_ne e] at h ⊢
      exact R.pin p s hp h o
/-- a new list of this def's own is laid and kept in a slot -/
theorem SR.setO {K : PySem.W.Frag} {mg : Str → Option Value} {H : Hp} {O : List Addr} {σ : St} {τ : Sd} {i : Nat} {p : Addr} {xs : List V} {l : List D} (R : SR K mg G H O σ τ) (hp : H p = none) (r : RepL K mg (cut H O) xs l) (hi0 : i ≠ 0) :
    SR K mg G (upd H p (.lst xs)) (p :: O) (σ.set i (some (.ref p))) (τ.set i (some (.own l))) ∧ Le H O (upd H p (.lst xs)) (p :: O) := by
  have ec : Grow (cut H O) (cut (upd H p (.lst xs)) (p :: O)) := fun a o h => by
    obtain ⟨n, e⟩ := cut_some h
    have na : a ≠ p := ne_of_none e hp
    exact cut_of (by simp [na, n]) (by rw [upd_ne na]; exact e)
  have h0 : Fresh G p ∨ p ∈ G.W := R.fresh hp
  have gr : Grow H (upd H p (.lst xs)) := Grow.new hp
  have nb : p ∉ G.B := fun z => R.live.ne hp (R.base p z)
  have old : ∀ {v : V} {s : Sl}, SlOk K mg G H O v s → SlOk K mg G (upd H p (.lst xs)) (p :: O) v s := fun {v s} h => by
    cases s with
    | val d => exact Rep.grow ec h
    | own l' =>
      obtain ⟨q, ys, e, h1, h2, h3, h4, h5⟩ := h
      exact ⟨q, ys, e, List.mem_cons_of_mem _ h1, h2, h3, gr _ _ h4, RepL.grow ec h5⟩
    | ob c ns ds =>
      obtain ⟨q, C, dx, ys, e, h1, h2, h3, h4, h5, h6, h7⟩ := h
      exact ⟨q, C, dx, ys, e, List.mem_cons_of_mem _ h1, h2, h3, h4, gr _ _ h5, h6, RepL.grow ec h7⟩
  have ownp : ∀ {v : V} {s : Sl}, s.isOwn = true → SlOk K mg G H O v s → v ≠ .ref p := fun {v s} o h z => by
    subst z
    cases s with
    | val d => cases o
    | own l' => obtain ⟨q, ys, e, h1, h2, h3, h4, h5⟩ := h; cases e; rw [hp] at h4; cases h4
    | ob c ns ds => obtain ⟨q, C, dx, ys, e, h1, h2, h3, h4, h5, h6, h7⟩ := h; cases e; rw [hp] at h5; cases h5
  refine ⟨⟨by simp [R.len], fun a o h n t => gr _ _ (R.keep a o h n t), R.tab.ext gr, fun q z => List.mem_cons_of_mem _ (R.base q z), fun q z => ?_, fun q z => ?_, fun j s h => ?_, fun j k s t w h1 o1 h2 o2 e1 e2 => ?_, fun q s hq h o => ?_⟩, ec.w⟩
  · rcases List.mem_cons.mp z with z | z
    · subst z; exact .inr h0
    · exact R.own0 q z
  · rcases List.mem_cons.mp z with z | z
    · subst z; exact .inl ⟨xs, upd_same⟩
    · exact R.live.grow gr q z
  · by_cases e : i = j
    · subst e
      have hl : i < τ.length := by
        by_cases q : i < τ.length
        · exact q
        · rw [List.getElem?_eq_none (by simpa using q)] at h; cases h
      rw [List.getElem?_set_self hl] at h
      cases h
      exact ⟨.ref p, List.getElem?_set_self (by rw [R.len]; exact hl), p, xs, rfl, List.mem_cons_self, nb, h0, upd_same, RepL.grow ec r⟩
    · rw [List.getElem?_set_ne e] at h
      obtain ⟨w, e1, e2⟩ := R.slot j s h
      exact ⟨w, by rw [List.getElem?_set_ne e]; exact e1, old e2⟩
  · have at_ : ∀ {j : Nat} {s : Sl} {w : V}, (τ.set i (some (Sl.own l)))[j]? = some (some s) → s.isOwn = true → (σ.set i (some (V.ref p)))[j]? = some (some w) → (i = j ∧ w = .ref p) ∨ (i ≠ j ∧ τ[j]? = some (some s) ∧ σ[j]? = some (some w) ∧ w ≠ .ref p) := fun {j s w} h o e => by
      by_cases q : i = j
      · subst q
        have hl : i < τ.length := by
          by_cases q : i < τ.length
          · exact q
          · rw [List.getElem?_eq_none (by simpa using q)] at h; cases h
        rw [List.getElem?_set_self (by rw [R.len]; exact hl)] at e
        cases e
        exact .inl ⟨rfl, rfl⟩
      · rw [List.getElem?_set_ne q] at h e
        obtain ⟨w', e1, e2⟩ := R.slot j s h
        rw [e] at e1; cases e1
        exact .inr ⟨q, h, e, ownp o e2⟩
    rcases at_ h1 o1 e1 with ⟨a1, a2⟩ | ⟨a1, a2, a3, a4⟩
    · rcases at_ h2 o2 e2 with ⟨b1, b2⟩ | ⟨b1, b2, b3, b4⟩
      · exact a1.symm.trans b1
      · exact absurd a2 b4
    · rcases at_ h2 o2 e2 with ⟨b1, b2⟩ | ⟨b1, b2, b3, b4⟩
      · exact absurd b2 a4
      · exact R.inj j k s t w a2 o1 b2 o2 a3 b3
  · rw [List.getElem?_set_ne hi0] at h ⊢
    exact R.pin q s hq h o
def sSet (i : Nat) (f : M D) : M Fl := mBind f fun d => fun τ => some (.nx, τ.set i (some (.val d)))
def sOwn (i : Nat) (f : M (List D)) : M Fl := mBind f fun l => fun τ => some (.nx, τ.set i (some (.own l)))
theorem ds_set {x : Str} {e : Expr} {pos pos' : Pos} {f : M D} (i : Nat) (hN : X.N.Nodup) (hi : X.N[i]? = some x) (hx : Loc X.env.scope x) (h : DE X G e f) (hs : swapsWith e (some (.Name x pos')) pos.line X.env = pure false := by rfl) (hf : X.fn x = true ∨ X.env.scope.names.lookup x = some .local := by first | exact .inl rfl | exact .inr rfl) :
    DS X G (.Assign [.Name x pos'] e pos) (sSet i f) := ps_imp (ps_set hN hi hx h hs hf) fun N σ H q => by
  obtain ⟨O, τ, fl, τ', R, e, q⟩ := q
  obtain ⟨d, τ1, e1, e2⟩ := mBind_some e
  cases e2
  exact ⟨O, τ, d, τ1, R, e1, fun v H' O' l R' r => q _ H' O' l (R'.setV r)⟩
theorem ds_own {x : Str} {e : Expr} {pos pos' : Pos} {f : M (List D)} (i : Nat) (hi0 : i ≠ 0) (hN : X.N.Nodup) (hi : X.N[i]? = some x) (hx : Loc X.env.scope x) (h : DF X G e f) (hs : swapsWith e (some (.Name x pos')) pos.line X.env = pure false := by rfl) (hf : X.fn x = true ∨ X.env.scope.names.lookup x = some .local := by first | exact .inl rfl | exact .inr rfl) :
    DS X G (.Assign [.Name x pos'] e pos) (sOwn i f) := ps_imp (ps_set hN hi hx h hs hf) fun N σ H q => by
  obtain ⟨O, τ, fl, τ', R, e, q⟩ := q
  obtain ⟨d, τ1, e1, e2⟩ := mBind_some e
  cases e2
  refine ⟨O, τ, d, τ1, R, e1, fun p xs H1 O' hp l R' r => ?_⟩
  obtain ⟨R2, l2⟩ := R'.setO (i := i) hp r hi0
  exact q _ _ _ (l.trans l2) R2
end
end Dv
set_option Elab.async false
set_option linter.all false
set_option maxRecDepth 100000
set_option maxHeartbeats 4000000
/-! DV4: lists of a def's own: looked at, given up, written; targets; loops; comprehensions -/
namespace Dv
open PySem L2
section
variable {K : PySem.W.Frag} {mg : Str → Option Value} {G : Gx} {H H' : Hp} {O O' : List Addr} {σ : St} {τ τ' : Sd}

theorem getElem?_lt {α : Type} {l : List α} {i : Nat} {x : α} (h : l[i]? = some x) : i < l.length := (List.getElem?_eq_some_iff.mp h).1

/-! ### data in which no list stands -/
mutual
def LF : D → Bool
  | .non => true
  | .bl _ => true
  | .int _ => true
  | .str _ => true
  | .tup l => LFs l
  | _ => false
def LFs : List D → Bool
  | [] => true
  | d :: ds => LF d && LFs ds
end
mutual
theorem LF.ok (lv : Live H O) : ∀ {v : V} {d : D}, LF d = true → Rep K mg H v d → Rep K mg (cut H O) v d
  | _, _, _, .non => .non
  | _, _, _, .bl b => .bl b
  | _, _, _, .int i => .int i
  | _, _, _, .str x => .str x
  | _, _, h, .tup q r => by
    refine .tup ?_ (LFs.ok lv (by simpa [LF] using h) r)
    rcases q with (q | ⟨o, q⟩) | q
    · exact .inl (.inl (cut_of (fun z => by rcases lv _ z with ⟨xs, e⟩ | ⟨C, dx, fs, e⟩ <;> (rw [q] at e; cases e)) q))
    · exact .inl (.inr ⟨o, cut_of (fun z => by rcases lv _ z with ⟨xs, e⟩ | ⟨C, dx, fs, e⟩ <;> (rw [q] at e; cases e)) q⟩)
    · exact .inr q
  | _, _, h, .lst _ _ => by simp [LF] at h
  | _, _, h, .scr _ => by simp [LF] at h
  | _, _, h, .obj _ _ _ _ => by simp [LF] at h
  | _, _, h, .exc _ _ _ _ _ => by simp [LF] at h
  | _, _, h, .dic _ _ _ => by simp [LF] at h
  | _, _, h, .dit _ _ _ => by simp [LF] at h
theorem LFs.ok (lv : Live H O) : ∀ {vs : List V} {ds : List D}, LFs ds = true → RepL K mg H vs ds → RepL K mg (cut H O) vs ds
  | _, _, _, .nil => .nil
  | _, _, h, .cons r t => by
    simp [LFs] at h
    exact .cons (LF.ok lv h.1 r) (LFs.ok lv h.2 t)
end

/-! ### a look at the lists of one's own: nothing is written meanwhile -/
def viewS : Sl → Option Sl
  | .val d => some (.val d)
  | .own l => some (.val (.lst l))
  | .ob c ns ds => if ns = clsFlds c then some (.val (.obj c ds)) else none
def view (τ : Sd) : Sd := τ.map fun s => s.bind viewS
theorem view_get {i : Nat} {s : Sl} (h : (view τ)[i]? = some (some s)) : ∃ s0, τ[i]? = some (some s0) ∧ viewS s0 = some s := by
  unfold view at h
  rw [List.getElem?_map] at h
  cases e : τ[i]? with
  | none => rw [e] at h; cases h
  | some o =>
    rw [e] at h
    cases o with
    | none => cases h
    | some s0 => exact ⟨s0, rfl, by simpa using h⟩
theorem SR.view (R : SR K mg G H O σ τ) : SR K mg (gx H [] G.B none) H G.B σ (view τ) where
  len := by unfold Dv.view; simp [R.len]
  keep := fun a o h _ _ => h
  tab := fun _ z => absurd z (by simp)
  base := fun _ z => z
  own0 := fun _ z => .inl z
  live := fun p z => R.live p (R.base p z)
  slot := fun i s h => by
    obtain ⟨s0, e, hv⟩ := view_get h
    obtain ⟨v, ev, ok⟩ := R.slot i s0 e
    have g : Grow (cut H O) (cut H G.B) := Grow.less R.base
    refine ⟨v, ev, ?_⟩
    cases s0 with
    | val d => cases hv; exact Rep.grow g ok
    | own l =>
      cases hv
      obtain ⟨p, xs, rfl, h1, h2, h3, h4, h5⟩ := ok
      exact .lst (cut_of h2 h4) (RepL.grow g h5)
    | ob c ns ds =>
      simp only [viewS] at hv
      split at hv
      · rename_i en
        cases hv
        obtain ⟨p, C, dx, xs, rfl, h1, h2, h3, h4, h5, h6, h7⟩ := ok
        subst en
        exact .obj h4 (cut_of h2 h5) h6 (RepL.grow g h7)
      · cases hv
  inj := fun i j s t v h1 o1 _ _ _ _ => by
    obtain ⟨s0, e, hv⟩ := view_get h1
    cases s0 with
    | val d => cases hv; cases o1
    | own l => cases hv; cases o1
    | ob c ns ds =>
      simp only [viewS] at hv
      split at hv
      · cases hv; cases o1
      · cases hv
  pin := fun p s hp => by cases hp
def bor (f : M D) : M D := fun τ => match f (view τ) with
  | some (d, _) => if LF d = true then some (d, τ) else none
  | none => none
theorem de_bor {X : Cx} {e : Expr} {f : M D} (h : ∀ G, DE X G e f) : DE X G e (bor f) := ⟨fun pins s σ H Q I q => by
  obtain ⟨O, τ, d, τ', R, e1, q⟩ := q
  unfold bor at e1
  cases e2 : f (Dv.view τ) with
  | none => simp [e2] at e1
  | some p =>
    obtain ⟨d', τ2⟩ := p
    simp only [e2] at e1
    split at e1
    · cases e1
      rename_i lf
      refine (h (gx H [] G.B none)).run pins s σ H Q I ⟨G.B, Dv.view τ, d, τ2, R.view, e2, fun v H' O' l R' r => ?_⟩
      have g : Grow H H' := fun a o ha => R'.keep a o ha (by simp) (.inl rfl)
      exact q v H' O (Le.grow g) (R.grow g) (LF.ok (R.live.grow g) lf (Rep.grow (Grow.ofCut H' O') r))
    · cases e1⟩
def borT (f : M Bool) : M Bool := fun τ => match f (view τ) with
  | some (b, _) => some (b, τ)
  | none => none
theorem dt_bor {X : Cx} {e : Expr} {f : M Bool} (h : ∀ G, DT X G e f) : DT X G e (borT f) := ⟨fun pins s σ H Q I q => by
  obtain ⟨O, τ, d, τ', R, e1, q⟩ := q
  unfold borT at e1
  cases e2 : f (Dv.view τ) with
  | none => simp [e2] at e1
  | some p =>
    obtain ⟨d', τ2⟩ := p
    simp only [e2] at e1
    cases e1
    refine (h (gx H [] G.B none)).run pins s σ H Q I ⟨G.B, Dv.view τ, d, τ2, R.view, e2, fun H' O' l R' => ?_⟩
    have g : Grow H H' := fun a o ha => R'.keep a o ha (by simp) (.inl rfl)
    exact q H' O (Le.grow g) (R.grow g)⟩

/-! ### a list of one's own is given up: from then on it is data -/
def froze (i : Nat) (τ : Sd) : Sd := match τ[i]? with
  | some (some (.own l)) => τ.set i (some (.val (.lst l)))
  | _ => τ
theorem SR.froze (i : Nat) (R : SR K mg G H O σ τ) : ∃ O', SR K mg G H O' σ (froze i τ) ∧ Le H O H O' := by
  unfold Dv.froze
  split
  · rename_i l e
    obtain ⟨v, ev, p, xs, rfl, h1, h2, h3, h4, h5⟩ := R.slot i _ e
    have sub : ∀ a ∈ O.filter (· ≠ p), a ∈ O := fun a z => (List.mem_filter.mp z).1
    have g : Grow (cut H O) (cut H (O.filter (· ≠ p))) := Grow.less sub
    have np : p ∉ O.filter (· ≠ p) := fun z => by simpa using (List.mem_filter.mp z).2
    refine ⟨O.filter (· ≠ p), ⟨by simp [R.len], R.keep, R.tab, fun q z => ?_, fun q z => R.own0 q (sub q z), fun q z => R.live q (sub q z), fun j s h => ?_, fun j k s t w h1' o1 h2' o2 e1 e2 => ?_, fun q s hq h o => ?_⟩, g.w⟩
    · exact List.mem_filter.mpr ⟨R.base q z, by simp; intro e'; subst e'; exact h2 z⟩
    · by_cases ej : i = j
      · subst ej
        rw [List.getElem?_set_self (getElem?_lt e)] at h
        cases h
        exact ⟨_, ev, .lst (cut_of np h4) (RepL.grow g h5)⟩
      · rw [List.getElem?_set_ne ej] at h
        obtain ⟨w, ew, ok⟩ := R.slot j s h
        refine ⟨w, ew, ?_⟩
        cases s with
        | val d => exact Rep.grow g ok
        | own l' =>
          obtain ⟨q, ys, rfl, k1, k2, k3, k4, k5⟩ := ok
          refine ⟨q, ys, rfl, List.mem_filter.mpr ⟨k1, ?_⟩, k2, k3, k4, RepL.grow g k5⟩
          simp only [ne_eq, decide_not, Bool.not_eq_eq_eq_not, Bool.not_true, decide_eq_false_iff_not]
          intro eq; subst eq
          exact ej (R.inj i j _ _ _ e rfl h rfl ev ew)
        | ob c ns ds =>
          obtain ⟨q, C, dx, ys, rfl, k1, k2, k3, k4, k5, k6, k7⟩ := ok
          refine ⟨q, C, dx, ys, rfl, List.mem_filter.mpr ⟨k1, ?_⟩, k2, k3, k4, k5, k6, RepL.grow g k7⟩
          simp only [ne_eq, decide_not, Bool.not_eq_eq_eq_not, Bool.not_true, decide_eq_false_iff_not]
          intro eq; subst eq
          exact ej (R.inj i j _ _ _ e rfl h rfl ev ew)
    · have nj : ∀ {j : Nat} {s : Sl}, (τ.set i (some (Sl.val (.lst l))))[j]? = some (some s) → s.isOwn = true → i ≠ j := fun {j s} h o e' => by
        subst e'
        rw [List.getElem?_set_self (getElem?_lt e)] at h; cases h; cases o
      have a := nj h1' o1
      have b := nj h2' o2
      rw [List.getElem?_set_ne a] at h1'
      rw [List.getElem?_set_ne b] at h2'
      exact R.inj j k s t w h1' o1 h2' o2 e1 e2
    · by_cases ei : i = 0
      · subst ei
        rw [List.getElem?_set_self (getElem?_lt e)] at h; cases h; cases o
      · rw [List.getElem?_set_ne ei] at h
        exact R.pin q s hq h o
  · exact ⟨O, R, Le.refl _ _⟩
def frz {α : Type} (i : Nat) (f : M α) : M α := fun τ => f (froze i τ)
theorem de_frz {X : Cx} {e : Expr} {f : M D} (i : Nat) (h : DE X G e f) : DE X G e (frz i f) := pe_imp h fun σ H Q q => by
  obtain ⟨O, τ, d, τ', R, e1, q⟩ := q
  obtain ⟨O1, R1, l1⟩ := R.froze i
  exact ⟨O1, froze i τ, d, τ', R1, e1, fun v H' O' l => q v H' O' (l1.trans l)⟩
theorem ds_frz {X : Cx} {st : Stmt} {f : M Fl} (i : Nat) (h : DS X G st f) : DS X G st (frz i f) := ps_imp h fun N σ H q => by
  obtain ⟨O, τ, fl, τ', R, e1, q⟩ := q
  obtain ⟨O1, R1, l1⟩ := R.froze i
  exact ⟨O1, froze i τ, fl, τ', R1, e1, q.le l1⟩

/-! ### a list of one's own is written -/
theorem SR.write {i : Nat} {p : Addr} {l l' : List D} {xs xs' : List V} (R : SR K mg G H O σ τ) (e : τ[i]? = some (some (.own l))) (ev : σ[i]? = some (some (.ref p))) (hp : H p = some (.lst xs)) (hO : p ∈ O) (r : RepL K mg (cut H O) xs' l') :
    SR K mg G (upd H p (.lst xs')) O σ (τ.set i (some (.own l'))) ∧ Le H O (upd H p (.lst xs')) O := by
  have ec : cut (upd H p (.lst xs')) O = cut H O := by
    funext a
    unfold cut
    by_cases z : a ∈ O
    · rw [if_pos z, if_pos z]
    · rw [if_neg z, if_neg z, upd_ne (fun q => by subst q; exact z hO)]
  obtain ⟨v, ev', p', ys, rfl, h1, h2, h3, h4, h5⟩ := R.slot i _ e
  rw [ev] at ev'; cases ev'
  refine ⟨⟨by simp [R.len], fun a o h n t => ?_, tabs_write R.tab hp (.inl ⟨_, rfl⟩), R.base, R.own0, fun q z => ?_, fun j s h => ?_, fun j k s t w h1' o1 h2' o2 e1 e2 => ?_, fun q s hq h o => ?_⟩, by unfold Le; rw [ec]; exact GrowW.refl _⟩
  · have : a ≠ p := fun q => by
      subst q
      rcases h3 with z | z
      · exact z.ne h t
      · exact n z
    rw [upd_ne this]; exact R.keep a o h n t
  · by_cases eq : q = p
    · subst eq; exact .inl ⟨xs', upd_same⟩
    · rcases R.live q z with ⟨ys, e'⟩ | ⟨C, dx, fs, e'⟩
      · exact .inl ⟨ys, by rw [upd_ne eq]; exact e'⟩
      · exact .inr ⟨C, dx, fs, by rw [upd_ne eq]; exact e'⟩
  · by_cases ej : i = j
    · subst ej
      rw [List.getElem?_set_self (getElem?_lt e)] at h
      cases h
      exact ⟨_, ev, p, xs', rfl, hO, h2, h3, upd_same, by rw [ec]; exact r⟩
    · rw [List.getElem?_set_ne ej] at h
      obtain ⟨w, ew, ok⟩ := R.slot j s h
      refine ⟨w, ew, ?_⟩
      cases s with
      | val d => show Rep K mg (cut _ O) w d; rw [ec]; exact ok
      | own l'' =>
        obtain ⟨q, ys', rfl, k1, k2, k3, k4, k5⟩ := ok
        have nq : q ≠ p := fun eq => by subst eq; exact ej (R.inj i j _ _ _ e rfl h rfl ev ew)
        exact ⟨q, ys', rfl, k1, k2, k3, by rw [upd_ne nq]; exact k4, by rw [ec]; exact k5⟩
      | ob c ns ds =>
        obtain ⟨q, C, dx, ys', rfl, k1, k2, k3, k4, k5, k6, k7⟩ := ok
        have nq : q ≠ p := fun eq => by subst eq; exact ej (R.inj i j _ _ _ e rfl h rfl ev ew)
        exact ⟨q, C, dx, ys', rfl, k1, k2, k3, k4, by rw [upd_ne nq]; exact k5, k6, by rw [ec]; exact k7⟩
  · have at_ : ∀ {j : Nat} {s : Sl}, (τ.set i (some (Sl.own l')))[j]? = some (some s) → s.isOwn = true → ∃ s', τ[j]? = some (some s') ∧ s'.isOwn = true := fun {j s} h o => by
      by_cases q : i = j
      · subst q; exact ⟨_, e, rfl⟩
      · rw [List.getElem?_set_ne q] at h; exact ⟨s, h, o⟩
    obtain ⟨s', a1, a2⟩ := at_ h1' o1
    obtain ⟨t', b1, b2⟩ := at_ h2' o2
    exact R.inj j k s' t' w a1 a2 b1 b2 e1 e2
  · by_cases ei : i = 0
    · subst ei
      exact R.pin q _ hq e rfl
    · rw [List.getElem?_set_ne ei] at h
      exact R.pin q s hq h o
/-- where an own slot stands -/
theorem SR.ownAt {i : Nat} {l : List D} (R : SR K mg G H O σ τ) (e : τ[i]? = some (some (.own l))) : ∃ p xs, σ[i]? = some (some (.ref p)) ∧ p ∈ O ∧ H p = some (.lst xs) ∧ RepL K mg (cut H O) xs l := by
  obtain ⟨v, ev, p, xs, rfl, h1, h2, h3, h4, h5⟩ := R.slot i _ e
  exact ⟨p, xs, ev, h1, h4, h5⟩
/-- the list of one's own in a slot -/
def ownOf (i : Nat) (τ : Sd) : Option (List D) := match τ[i]? with
  | some (some (.own l)) => some l
  | _ => none
theorem ownOf_some {i : Nat} {l : List D} (h : ownOf i τ = some l) : τ[i]? = some (some (.own l)) := by
  unfold ownOf at h
  split at h
  · cases h; assumption
  · cases h
def setAt (l : List D) (i d : D) : Option (List D) := match i with
  | .int k => (ixN l.length k).map fun j => l.set j d
  | _ => none
def sSetItem (i : Nat) (fi fv : M D) : M Fl := mBind fv fun d => fun τ1 => match ownOf i τ1 with
  | none => none
  | some _ => mBind fi (fun k => fun τ => match (ownOf i τ).bind fun l => setAt l k d with
    | some l' => some (.nx, τ.set i (some (.own l')))
    | none => none) τ1
theorem ds_setItem {X : Cx} {o k e : Expr} {pos p2 : Pos} {fi fv : M D} (i : Nat) (ho : PE X o (tVar i)) (hi : DE X G k fi) (he : DE X G e fv) (ha : ∀ v, assign (.Subscript o k p2) X.env v = (do
      let ov ← holding [v] (eval o X.env)
      let iv ← holding [v, ov] (eval k X.env)
      standAt p2
      holding [v, ov, iv] (setItem ov iv v)
      release [v, ov, iv] []) := by intro _; rfl) (hs : swapsWithSole [.Subscript o k p2] e pos.line X.env = pure false := by rfl) (hw : swappedStores [.Subscript o k p2] e X.env = pure none := by rfl)
    (h1 : (assignEach [.Subscript o k p2] X.env).map (·.2) = [assign (.Subscript o k p2) X.env] := by rfl) : DS X G (.Assign [.Subscript o k p2] e pos) (sSetItem i fi fv) :=
  ps_imp (ps_asg he (pg_sub ho hi set_list ha) hs hw h1) fun N σ H q => by
    obtain ⟨O, τ, fl, τ', R, e1, q⟩ := q
    obtain ⟨d, τ1, e2, e1⟩ := mBind_some e1
    cases e0 : ownOf i τ1 with
    | none => simp [e0] at e1
    | some l0 =>
      simp only [e0] at e1
      obtain ⟨kd, τ2, e3, e1⟩ := mBind_some e1
      cases e4 : (ownOf i τ2).bind fun l => setAt l kd d with
      | none => simp [e4] at e1
      | some l' =>
        simp only [e4] at e1
        cases e1
        obtain ⟨l, e5, e6⟩ := Option.bind_eq_some_iff.mp e4
        have e7 := ownOf_some e5
        refine ⟨O, τ, d, τ1, R, e2, fun v H1 O1 l1 R1 r1 => ?_⟩
        obtain ⟨p0, xs0, ep0, _⟩ := R1.ownAt (ownOf_some e0)
        refine ⟨.ref p0, ep0, O1, τ1, kd, τ2, R1, e3, fun w H2 O2 l2 R2 r2 => ?_⟩
        obtain ⟨p, xs, ep, hO, hp, rl⟩ := R2.ownAt e7
        rw [ep] at ep0; cases ep0
        cases kd with
        | int k =>
          simp only [setAt] at e6
          cases e8 : ixN l.length k with
          | none => simp [e8] at e6
          | some j =>
            simp [e8] at e6; subst e6
            cases rep_int r2
            refine ⟨p0, xs, k, j, rfl, rfl, hp, by rw [rl.length]; exact e8, ?_⟩
            obtain ⟨R3, l3⟩ := R2.write e7 ep hp hO (RepL.set (Rep.grow l2 r1) j rl)
            exact q _ _ _ ((l1.trans l2).trans l3) R3
        | _ => simp [setAt] at e6
def sAppend (i : Nat) (fv : M D) : M Fl := fun τ0 => match ownOf i τ0 with
  | none => none
  | some _ => mBind fv (fun d => fun τ => match ownOf i τ with
    | some l => if l.length < sizeLine then some (.nx, τ.set i (some (.own (l ++ [d])))) else none
    | none => none) τ0
theorem ds_append {X : Cx} {o e : Expr} {apos cpos pos : Pos} {fv : M D} (i : Nat) (ho : PE X o (tVar i)) (he : DE X G e fv) (hs : swapsWith (.Call (.Attribute o "append" apos) [e] [] cpos) none pos.line X.env = pure false := by rfl)
    (hq : PE X (.Call (.Attribute o "append" apos) [e] [] cpos) (tBM X.K "list" rAppend (tVar i) (tDA X.K X.mg G (aCons fv aNil)))) : DS X G (.Expr (.Call (.Attribute o "append" apos) [e] [] cpos) pos) (sAppend i fv) :=
  ps_imp (ps_expr hq hs) fun N σ H q => by
    obtain ⟨O, τ, fl, τ', R, e1, q⟩ := q
    unfold sAppend at e1
    cases e0 : ownOf i τ with
    | none => simp [e0] at e1
    | some l0 =>
      simp only [e0] at e1
      obtain ⟨d, τ1, e2, e1⟩ := mBind_some e1
      cases e4 : ownOf i τ1 with
      | none => simp [e4] at e1
      | some l =>
        simp only [e4] at e1
        split at e1
        · rename_i hl
          cases e1
          obtain ⟨p0, xs0, ep0, hO0, hp0, rl0⟩ := R.ownAt (ownOf_some e0)
          have e7 := ownOf_some e4
          refine ⟨.ref p0, ep0, .inl ⟨rfl, _, SqL.of hp0⟩, O, τ, [d], τ1, R, ?_, fun vs H1 O1 l1 R1 r1 => ?_⟩
          · unfold aCons aNil mBind mPure; simp [e2]
          · obtain ⟨p, xs, ep, hO, hp, rl⟩ := R1.ownAt e7
            rw [ep] at ep0; cases ep0
            cases r1 with
            | cons ra rr =>
              cases rr
              refine ⟨p0, xs, _, rfl, rfl, hp, by rw [rl.length]; exact hl, ?_⟩
              obtain ⟨R3, l3⟩ := R1.write e7 ep hp hO (RepL.append rl (.cons ra .nil))
              exact q _ _ _ (l1.trans l3) R3
        · cases e1

/-! ### targets -/
/-- the slots outside is stay as they are -/
def SameBut (is : List Nat) (σ σ' : St) : Prop := σ'.length = σ.length ∧ ∀ j, j ∉ is → σ'[j]? = σ[j]?
end
section
variable (K : PySem.W.Frag) (mg : Str → Option Value) (G : Gx)
def tDG (is : List Nat) (g : D → Sd → Option Sd) : TG := fun v σ H Q => ∃ O τ d τ', SR K mg G H O σ τ ∧ Rep K mg (cut H O) v d ∧ g d τ = some τ' ∧ ∀ σ' H' O', SameBut is σ σ' → Le H O H' O' → SR K mg G H' O' σ' τ' → Q σ' H'
def tDGs (is : List Nat) (g : List D → Sd → Option Sd) : TGs := fun vs σ H Q => ∃ O τ ds τ', SR K mg G H O σ τ ∧ RepL K mg (cut H O) vs ds ∧ g ds τ = some τ' ∧ ∀ σ' H' O', SameBut is σ σ' → Le H O H' O' → SR K mg G H' O' σ' τ' → Q σ' H'
end
def DG (X : Cx) (G : Gx) (tg : Expr) (is : List Nat) (g : D → Sd → Option Sd) : Prop := PG X tg (tDG X.K X.mg G is g)
def DGs (X : Cx) (G : Gx) (tg : List Expr) (is : List Nat) (g : List D → Sd → Option Sd) : Prop := PGs X tg (tDGs X.K X.mg G is g)
section
variable {X : Cx} {G : Gx}
theorem pg_imp {tg : Expr} {t t' : TG} (h : PG X tg t) (i : ∀ v σ H Q, t' v σ H Q → t v σ H Q) : PG X tg t' := ⟨fun pins s σ H v u Q I r q => h.run pins s σ H v u Q I r (i v σ H Q q)⟩
theorem pgs_imp {tg : List Expr} {t t' : TGs} (h : PGs X tg t) (i : ∀ v σ H Q, t' v σ H Q → t v σ H Q) : PGs X tg t' := ⟨fun pins s σ H v u Q I r q => h.run pins s σ H v u Q I r (i v σ H Q q)⟩
def gN (i : Nat) : D → Sd → Option Sd := fun d τ => some (τ.set i (some (.val d)))
theorem dg_name {x : Str} {pos : Pos} (i : Nat) (hN : X.N.Nodup) (hi : X.N[i]? = some x) (hx : Loc X.env.scope x) (hf : X.fn x = true ∨ X.env.scope.names.lookup x = some .local := by first | exact .inl rfl | exact .inr rfl) : DG X G (.Name x pos) [i] (gN i) :=
  pg_imp (pg_name hN hi hx hf) fun v σ H Q q => by
    obtain ⟨O, τ, d, τ', R, r, e, q⟩ := q
    cases e
    exact q _ H O ⟨by simp, fun j hj => List.getElem?_set_ne (by simpa [eq_comm] using hj)⟩ (Le.refl _ _) (R.setV r)
def gsNil : List D → Sd → Option Sd := fun ds τ => match ds with
  | [] => some τ
  | _ => none
def gsCons (g : D → Sd → Option Sd) (h : List D → Sd → Option Sd) : List D → Sd → Option Sd := fun ds τ => match ds with
  | d :: r => (g d τ).bind (h r)
  | [] => none
theorem dgs_nil : DGs X G [] [] gsNil := pgs_imp pgs_nil fun vs σ H Q q => by
  obtain ⟨O, τ, ds, τ', R, r, e, q⟩ := q
  cases r with
  | nil => cases e; exact ⟨rfl, q σ H O ⟨rfl, fun _ _ => rfl⟩ (Le.refl _ _) R⟩
  | cons a b => cases e
theorem dgs_cons {e : Expr} {es : List Expr} {i1 i2 : List Nat} {g : D → Sd → Option Sd} {h : List D → Sd → Option Sd} (h1 : DG X G e i1 g) (h2 : DGs X G es i2 h) (hs : (assignEach (e :: es) X.env).map (·.2) = assign e X.env :: (assignEach es X.env).map (·.2) := by rfl) : DGs X G (e :: es) (i1 ++ i2) (gsCons g h) :=
  pgs_imp (pgs_cons h1 h2 hs) fun vs σ H Q q => by
    obtain ⟨O, τ, ds, τ', R, r, e, q⟩ := q
    cases r with
    | nil => cases e
    | @cons v d vs ds ra rr =>
      simp only [gsCons] at e
      obtain ⟨τ1, e1, e2⟩ := Option.bind_eq_some_iff.mp e
      refine ⟨v, vs, rfl, O, τ, d, τ1, R, ra, e1, fun σ1 H1 O1 sb l1 R1 => ?_⟩
      refine ⟨O1, τ1, ds, τ', R1, RepL.grow l1 rr, e2, fun σ2 H2 O2 sb2 l2 R2 => ?_⟩
      refine q σ2 H2 O2 ⟨sb2.1.trans sb.1, fun j hj => ?_⟩ (l1.trans l2) R2
      simp only [List.mem_append, not_or] at hj
      rw [sb2.2 j hj.2, sb.2 j hj.1]
def gT (n : Nat) (h : List D → Sd → Option Sd) : D → Sd → Option Sd := fun d τ => match d with
  | .tup l => if l.length = n then h l τ else none
  | _ => none
theorem dg_tup {es : List Expr} {k : Nat} {pos : Pos} {is : List Nat} {h : List D → Sd → Option Sd} {n : Nat} (hc : X.calm = true) (hh : DGs X G es is h) (hn : (assignEach es X.env).length = n := by rfl) (hst : (assignEach es X.env).findIdx? (·.1) = none := by rfl) : DG X G (.Tuple es k pos) is (gT n h) :=
  pg_imp (pg_tup hc hh hn hst) fun v σ H Q q => by
    obtain ⟨O, τ, d, τ', R, r, e, q⟩ := q
    cases r with
    | @tup a xs ds hq rl =>
      simp only [gT] at e
      split at e
      · rename_i hl
        exact ⟨a, xs, rfl, SqT.grow (Grow.ofCut H O) hq, by rw [rl.length]; exact hl, O, τ, ds, τ', R, rl, e, q⟩
      · cases e
    | _ => simp [gT] at e
/-- target = value -/
def sAsg (f : M D) (g : D → Sd → Option Sd) : M Fl := mBind f fun d => fun τ => (g d τ).map fun τ' => (.nx, τ')
theorem ds_asg {tg e : Expr} {pos : Pos} {is : List Nat} {f : M D} {g : D → Sd → Option Sd} (he : DE X G e f) (hg : DG X G tg is g) (hs : swapsWithSole [tg] e pos.line X.env = pure false := by rfl) (hw : swappedStores [tg] e X.env = pure none := by rfl)
    (h1 : (assignEach [tg] X.env).map (·.2) = [assign tg X.env] := by rfl) : DS X G (.Assign [tg] e pos) (sAsg f g) := ps_imp (ps_asg he hg hs hw h1) fun N σ H q => by
  obtain ⟨O, τ, fl, τ', R, e1, q⟩ := q
  obtain ⟨d, τ1, e2, e1⟩ := mBind_some e1
  cases e3 : g d τ1 with
  | none => simp [e3] at e1
  | some τ2 =>
    simp [e3] at e1
    obtain ⟨rfl, rfl⟩ := e1
    exact ⟨O, τ, d, τ1, R, e2, fun v H' O' l R' r => ⟨O', τ1, d, τ2, R', r, e3, fun σ2 H2 O2 _ l2 R2 => q σ2 H2 O2 (l.trans l2) R2⟩⟩
/-- a, b = x, y -/
def sPar (i j : Nat) (f : M (List D)) : M Fl := mBind f fun ds => fun τ => match ds with
  | [a, b] => some (.nx, (τ.set i (some (.val a))).set j (some (.val b)))
  | _ => none
theorem ds_par {x y : Str} {a b : Expr} {px py pt pos : Pos} {kt k2 pt2} {f : M (List D)} (i j : Nat) (hc : X.calm = true) (hN : X.N.Nodup) (hi : X.N[i]? = some x) (hj : X.N[j]? = some y) (hij : i ≠ j)
    (hx : X.env.scope.names.lookup x = some .local) (hy : X.env.scope.names.lookup y = some .local) (ha : DA X G [a, b] f)
    (hw : swappedStores [.Tuple [.Name x px, .Name y py] kt pt] (.Tuple [a, b] k2 pt2) X.env = pure (some [x, y]))
    (hs : swapsWithSole [.Tuple [.Name x px, .Name y py] kt pt] (.Tuple [a, b] k2 pt2) pos.line X.env = pure false := by rfl) :
    DS X G (.Assign [.Tuple [.Name x px, .Name y py] kt pt] (.Tuple [a, b] k2 pt2) pos) (sPar i j f) := ps_imp (ps_par hc hN hi hj hij hx hy ha hw hs) fun N σ H q => by
  obtain ⟨O, τ, fl, τ', R, e1, q⟩ := q
  obtain ⟨ds, τ1, e2, e1⟩ := mBind_some e1
  refine ⟨O, τ, ds, τ1, R, e2, fun vs H' O' l R' r => ?_⟩
  match ds, e1, r with
  | [a, b], e1, .cons ra (.cons rb .nil) =>
    cases e1
    exact ⟨_, _, rfl, q _ H' O' l ((R'.setV ra).setV rb)⟩
end
end Dv
set_option Elab.async false
set_option linter.all false
set_option maxRecDepth 100000
set_option maxHeartbeats 4000000
/-! DV5: what is walked; for, while, list comprehensions -/
namespace Dv
open PySem L2
/-- the iterator J hands out the items, while Bs stands -/
structure Wk (K : PySem.W.Frag) (mg : Str → Option Value) (J : It) (items : List D) (Bs : Hp → List Addr → Prop) : Prop where
  mono : ∀ H O H' O', Bs H O → Le H O H' O' → Bs H' O'
  go : ∀ (i : Nat) d H O, Live H O → Bs H O → items[i]? = some d → J.go i H ∧ ∀ x H', J.yld i H x H' → Grow H H' ∧ Rep K mg (cut H' O) x d
  stop : ∀ H O, Bs H O → J.stop items.length H
section
variable (K : PySem.W.Frag) (mg : Str → Option Value) (G : Gx)
def tDI (f : M (List D)) : TI := fun σ H R => ∃ O τ items τ', SR K mg G H O σ τ ∧ f τ = some (items, τ') ∧
  ∀ J H' O' Bs, Le H O H' O' → SR K mg G H' O' σ τ' → Wk K mg J items Bs → Bs H' O' → R J H'
end
def DI (X : Cx) (G : Gx) (tg iter : Expr) (f : M (List D)) : Prop := PI X tg iter (tDI X.K X.mg G f)
section
variable {X : Cx} {G : Gx} {tg : Expr}
theorem pi_imp {iter : Expr} {t t' : TI} (h : PI X tg iter t) (i : ∀ σ H Q, t' σ H Q → t σ H Q) : PI X tg iter t' := ⟨fun pins s σ H R I q => h.run pins s σ H R I (i σ H R q)⟩
theorem pi_both {iter : Expr} {t u : TI} (h : PI X tg iter t) (h' : PI X tg iter u) : PI X tg iter (fun σ H R => t σ H R ∨ u σ H R) := ⟨fun pins s σ H R I q => q.elim (h.run pins s σ H R I) (h'.run pins s σ H R I)⟩
theorem wk_list {K : PySem.W.Frag} {mg : Str → Option Value} (a : Addr) (ds : List D) : Wk K mg (Itl K a) ds fun H O => ∃ xs, cut H O a = some (.lst xs) ∧ RepL K mg (cut H O) xs ds where
  mono := fun H O H' O' ⟨xs, h, r⟩ l => ⟨xs, l _ _ h rfl, RepL.grow l r⟩
  go := fun i d H O lv ⟨xs, h, r⟩ e => by
    obtain ⟨v, e1, r1⟩ := r.get e
    refine ⟨⟨xs, v, SqL.of (cut_some h).2, e1⟩, fun x H' y => ?_⟩
    obtain ⟨rfl, y⟩ := y
    have e2 := y xs (SqL.of (cut_some h).2)
    rw [e1] at e2; cases e2
    exact ⟨Grow.refl _, r1⟩
  stop := fun H O ⟨xs, h, r⟩ => ⟨xs, SqL.of (cut_some h).2, Nat.le_of_eq r.length⟩
theorem wk_tup {K : PySem.W.Frag} {mg : Str → Option Value} (a : Addr) (ds : List D) : Wk K mg (Itt K a) ds fun H O => ∃ xs, SqT K (cut H O) a xs ∧ RepL K mg (cut H O) xs ds where
  mono := fun H O H' O' ⟨xs, h, r⟩ l => ⟨xs, SqT.growW l h, RepL.grow l r⟩
  go := fun i d H O lv ⟨xs, h, r⟩ e => by
    have h' := SqT.grow (Grow.ofCut H O) h
    obtain ⟨v, e1, r1⟩ := r.get e
    refine ⟨⟨xs, v, h', e1⟩, fun x H' y => ?_⟩
    obtain ⟨rfl, y⟩ := y
    have e2 := y xs h'
    rw [e1] at e2; cases e2
    exact ⟨Grow.refl _, r1⟩
  stop := fun H O ⟨xs, h, r⟩ => ⟨xs, SqT.grow (Grow.ofCut H O) h, Nat.le_of_eq r.length⟩
theorem wk_scr {K : PySem.W.Frag} {mg : Str → Option Value} (a : Addr) (ns : List Int) : Wk K mg (Itl K a) (ns.map D.int) fun H O => SqL K (cut H O) a (ns.map V.int) where
  mono := fun H O H' O' h l => SqL.growW l h
  go := fun i d H O lv h e => by
    have h' := SqL.grow (Grow.ofCut H O) h
    rw [List.getElem?_map] at e
    cases e1 : ns[i]? with
    | none => rw [e1] at e; cases e
    | some n =>
      rw [e1] at e; cases e
      have e2 : (ns.map V.int)[i]? = some (V.int n) := by rw [List.getElem?_map, e1]; rfl
      refine ⟨⟨_, _, h', e2⟩, fun x H' y => ?_⟩
      obtain ⟨rfl, y⟩ := y
      have e3 := y _ h'
      rw [e2] at e3; cases e3
      exact ⟨Grow.refl _, .int n⟩
  stop := fun H O h => ⟨_, SqL.grow (Grow.ofCut H O) h, by simp⟩
/-- the items of a list, a tuple, the script -/
def itemsD : D → Option (List D)
  | .lst l => some l
  | .tup l => some l
  | .scr ns => some (ns.map D.int)
  | _ => none
theorem di_seq {e : Expr} {f : M D} (h : DE X G e f) : DI X G tg e (mBind f fun d => mLift (itemsD d)) := pi_imp (pi_both (pi_list h) (pi_tup h)) fun σ H R q => by
  obtain ⟨O, τ, items, τ', SRr, e1, q⟩ := q
  obtain ⟨d, e2, e3⟩ := mL_some e1
  cases d with
  | lst l =>
    cases e3
    refine .inl ⟨O, τ, _, τ', SRr, e2, fun v H' O' l' R' r => ?_⟩
    cases r with
    | @lst a xs _ hq rl => exact ⟨a, rfl, ⟨xs, SqL.of (cut_some hq).2⟩, q _ H' O' _ l' R' (wk_list a items) ⟨xs, hq, rl⟩⟩
  | tup l =>
    cases e3
    refine .inr ⟨O, τ, _, τ', SRr, e2, fun v H' O' l' R' r => ?_⟩
    cases r with
    | @tup a xs _ hq rl => exact ⟨a, rfl, ⟨xs, SqT.grow (Grow.ofCut H' O') hq⟩, q _ H' O' _ l' R' (wk_tup a items) ⟨xs, hq, rl⟩⟩
  | scr ns =>
    cases e3
    refine .inl ⟨O, τ, _, τ', SRr, e2, fun v H' O' l' R' r => ?_⟩
    cases r with
    | @scr a _ hq => exact ⟨a, rfl, ⟨_, SqL.grow (Grow.ofCut H' O') hq⟩, q _ H' O' _ l' R' (wk_scr a ns) hq⟩
  | _ => cases e3
/-! ### ranges -/
def rangeD (lo : Int) (n : Nat) (c : Int) : List D := (List.range n).map fun (i : Nat) => D.int (lo + (i : Int) * c)
theorem wk_range {K : PySem.W.Frag} {mg : Str → Option Value} (lo : Int) (n : Nat) : Wk K mg (Itr lo n) (rangeD lo n 1) fun _ _ => True where
  mono := fun _ _ _ _ _ _ => trivial
  go := fun i d H O lv _ e => by
    unfold rangeD at e
    rw [List.getElem?_map] at e
    by_cases h : i < n
    · rw [List.getElem?_range h] at e
      cases e
      refine ⟨h, fun x H' y => ?_⟩
      obtain ⟨rfl, rfl⟩ := y
      refine ⟨Grow.refl _, ?_⟩
      show Rep K mg _ (V.int _) (D.int (lo + (i : Int) * 1))
      rw [Int.mul_one]
      exact .int _
    · rw [List.getElem?_eq_none (by simpa using h)] at e; cases e
  stop := fun H O _ => by unfold rangeD; simp; exact Nat.le_refl _
def rng1 : List D → Option (List D)
  | [.int j] => if -(2 ^ 62) ≤ j ∧ j < 2 ^ 62 then some (rangeD 0 j.toNat 1) else none
  | _ => none
def rng2 : List D → Option (List D)
  | [.int i, .int j] => if -(2 ^ 62) ≤ i ∧ i < 2 ^ 62 ∧ -(2 ^ 62) ≤ j ∧ j < 2 ^ 62 then some (rangeD i (j - i).toNat 1) else none
  | _ => none
theorem di_range1 {a : Expr} {p pos : Pos} {f : M (List D)} (hg : Gl X "range") (hm : X.mg "range" = none) (ha : DA X G [a] f) (hs : starEach [a] X.env = [(false, eval a X.env)] := by rfl) : DI X G tg (.Call (.Name "range" p) [a] [] pos) (mBind f fun l => mLift (rng1 l)) :=
  pi_imp (pi_range1 hg hm ha hs) fun σ H R q => by
    obtain ⟨O, τ, items, τ', SRr, e1, q⟩ := q
    obtain ⟨d, e2, e3⟩ := mL_some e1
    refine ⟨O, τ, d, τ', SRr, e2, fun vs H' O' l' R' r => ?_⟩
    match d, e3, r with
    | [.int j], e3, .cons (.int _) .nil =>
      simp only [rng1] at e3
      split at e3
      · rename_i hb
        cases e3
        exact ⟨j, rfl, hb.1, hb.2, q _ H' O' _ l' R' (wk_range 0 j.toNat) trivial⟩
      · cases e3
theorem di_range2 {a b : Expr} {p pos : Pos} {f : M (List D)} (hg : Gl X "range") (hm : X.mg "range" = none) (ha : DA X G [a, b] f) (hs : starEach [a, b] X.env = [(false, eval a X.env), (false, eval b X.env)] := by rfl) (hs2 : starEach [b] X.env = [(false, eval b X.env)] := by rfl) :
    DI X G tg (.Call (.Name "range" p) [a, b] [] pos) (mBind f fun l => mLift (rng2 l)) :=
  pi_imp (pi_range2 hg hm ha hs hs2) fun σ H R q => by
    obtain ⟨O, τ, items, τ', SRr, e1, q⟩ := q
    obtain ⟨d, e2, e3⟩ := mL_some e1
    refine ⟨O, τ, d, τ', SRr, e2, fun vs H' O' l' R' r => ?_⟩
    match d, e3, r with
    | [.int i, .int j], e3, .cons (.int _) (.cons (.int _) .nil) =>
      simp only [rng2] at e3
      split at e3
      · rename_i hb
        cases e3
        exact ⟨i, j, rfl, hb, q _ H' O' _ l' R' (wk_range i (j - i).toNat) trivial⟩
      · cases e3
/-- how many turns range(i, j, c) has -/
def rgN (i j c : Int) : Nat := if 0 < c then ((j - i + c - 1) / c).toNat else ((i - j - c - 1) / (-c)).toNat
def RgOk3 (i j c : Int) : Prop := c ≠ 0 ∧ c.natAbs < 1073741824 ∧ Builtin.Range.small i j c = true ∧ 0 ≤ Builtin.Range.rangeSize i j c
instance (i j c : Int) : Decidable (RgOk3 i j c) := by unfold RgOk3; infer_instance
theorem wk_rangeC {K : PySem.W.Frag} {mg : Str → Option Value} (lo c : Int) (n : Nat) : Wk K mg (Itc lo c n) (rangeD lo n c) fun _ _ => True where
  mono := fun _ _ _ _ _ _ => trivial
  go := fun i d H O lv _ e => by
    unfold rangeD at e
    rw [List.getElem?_map] at e
    by_cases h : i < n
    · rw [List.getElem?_range h] at e
      cases e
      refine ⟨h, fun x H' y => ?_⟩
      obtain ⟨rfl, rfl⟩ := y
      exact ⟨Grow.refl _, .int _⟩
    · rw [List.getElem?_eq_none (by simpa using h)] at e; cases e
  stop := fun H O _ => by unfold rangeD; simp; exact Nat.le_refl _
def rng3 : List D → Option (List D)
  | [.int i, .int j, .int c] => if RgOk3 i j c then some (rangeD i (Builtin.Range.rangeSize i j c).toNat c) else none
  | _ => none
theorem di_range3 {a b c : Expr} {p pos : Pos} {f : M (List D)} (hg : Gl X "range") (hm : X.mg "range" = none) (ha : DA X G [a, b, c] f)
    (hs : starEach [a, b, c] X.env = (false, eval a X.env) :: starEach [b, c] X.env := by rfl) (hpl : (backTo pos (starEach [b, c] X.env)).any (·.1) = false := by rfl) : DI X G tg (.Call (.Name "range" p) [a, b, c] [] pos) (mBind f fun l => mLift (rng3 l)) :=
  pi_imp (pi_range3 hg hm ha hs hpl) fun σ H R q => by
    obtain ⟨O, τ, items, τ', SRr, e1, q⟩ := q
    obtain ⟨d, e2, e3⟩ := mL_some e1
    refine ⟨O, τ, d, τ', SRr, e2, fun vs H' O' l' R' r => ?_⟩
    match d, e3, r with
    | [.int i, .int j, .int c], e3, .cons (.int _) (.cons (.int _) (.cons (.int _) .nil)) =>
      simp only [rng3] at e3
      split at e3
      · rename_i hb
        cases e3
        exact ⟨i, j, c, _, rfl, ⟨hb.1, hb.2.1, hb.2.2.1, (Int.toNat_of_nonneg hb.2.2.2).symm⟩, q _ H' O' _ l' R' (wk_rangeC i c _) trivial⟩
      · cases e3

/-! ### for -/
def forL (g : D → Sd → Option Sd) (b : M Fl) : List D → M Fl
  | [] => mPure .nx
  | d :: ds => fun τ => match g d τ with
    | none => none
    | some τ1 => match b τ1 with
      | some (.nx, τ2) => forL g b ds τ2
      | some (.ct, τ2) => forL g b ds τ2
      | some (.bk, τ2) => some (.nx, τ2)
      | some (.rt d, τ2) => some (.rt d, τ2)
      | some (.rf d, τ2) => some (.rf d, τ2)
      | some (.xc c d, τ2) => some (.xc c d, τ2)
      | none => none
def sFor (f : M (List D)) (g : D → Sd → Option Sd) (b : M Fl) : M Fl := mBind f fun items => forL g b items
theorem ds_for {iter : Expr} {body : List Stmt} {pos : Pos} {is : List Nat} {f : M (List D)} {g : D → Sd → Option Sd} {b : M Fl} (hp : PassesOwn (model X.prog X.w) X.A X.env X.xe) (hc : X.calm = true) (hi : DI X G tg iter f) (hg : DG X G tg is g) (hb : DSs X G body b)
    (hs : ∀ x, foldedSetIterable iter X.env x = pure x := by intro _; rfl) : DS X G (.For tg iter body [] pos) (sFor f g b) := ps_imp (ps_for hp hc hi hg hb hs) fun N σ H q => by
  obtain ⟨O, τ, fl, τ', R, e1, q⟩ := q
  obtain ⟨items, τ1, e2, e1⟩ := mBind_some e1
  refine ⟨O, τ, items, τ1, R, e2, fun J H1 O1 Bs l1 R1 wk bs => ?_⟩
  have q1 := q.le l1
  refine ⟨fun i m σ H => m = items.length - i ∧ i ≤ items.length ∧ ∃ Oi τi, SR X.K X.mg G H Oi σ τi ∧ Le H1 O1 H Oi ∧ Bs H Oi ∧ forL g b (items.drop i) τi = some (fl, τ'), ⟨items.length, by simp, Nat.zero_le _, O1, τ1, R1, Le.refl _ _, bs, by simpa using e1⟩, ?_⟩
  rintro i m σ2 H2 ⟨rfl, hi', O2, τ2, R2, l2, bs2, e3⟩
  by_cases hlt : i < items.length
  · have ed : items.drop i = items[i] :: items.drop (i + 1) := List.drop_eq_getElem_cons hlt
    rw [ed] at e3
    simp only [forL] at e3
    obtain ⟨hgo, hy⟩ := wk.go i items[i] H2 O2 R2.live bs2 (List.getElem?_eq_getElem hlt)
    refine .inr ⟨hgo, fun σ' H' => ∃ Oi τi, SR X.K X.mg G H' Oi σ' τi ∧ Le H1 O1 H' Oi ∧ Bs H' Oi ∧ forL g b (items.drop (i + 1)) τi = some (fl, τ'), fun σ' H' ⟨Oi, τi, a1, a2, a3, a4⟩ => ⟨items.length - (i + 1), by omega, rfl, hlt, Oi, τi, a1, a2, a3, a4⟩, fun x H3 y3 => ?_⟩
    obtain ⟨g3, r3⟩ := hy x H3 y3
    have l3 : Le H2 O2 H3 O2 := Le.grow g3
    cases e4 : g items[i] τ2 with
    | none => simp [e4] at e3
    | some τ3 =>
      simp only [e4] at e3
      refine ⟨O2, τ2, items[i], τ3, R2.grow g3, r3, e4, fun σ4 H4 O4 _ l4 R4 => ?_⟩
      have l04 := ((l2.trans l3).trans l4)
      have bs4 := wk.mono _ _ _ _ bs2 (l3.trans l4)
      cases e5 : b τ3 with
      | none => simp [e5] at e3
      | some pr =>
        obtain ⟨fl5, τ5⟩ := pr
        simp only [e5] at e3
        refine ⟨O4, τ3, fl5, τ5, R4, e5, ?_⟩
        cases fl5 with
        | nx => exact fun σ6 H6 O6 l6 R6 => ⟨O6, τ5, R6, l04.trans l6, wk.mono _ _ _ _ bs4 l6, e3⟩
        | ct => exact fun σ6 H6 O6 l6 R6 => ⟨O6, τ5, R6, l04.trans l6, wk.mono _ _ _ _ bs4 l6, e3⟩
        | bk => cases e3; exact fun σ6 H6 O6 l6 R6 => q1 σ6 H6 O6 (l04.trans l6) R6
        | rt d => cases e3; exact fun v σ6 H6 O6 l6 R6 r6 => q1 v σ6 H6 O6 (l04.trans l6) R6 r6
        | rf d => cases e3; exact fun p xs σ6 H6 O6 l6 => q1 p xs σ6 H6 O6 (l04.trans l6)
        | xc c d => cases e3; exact fun cls d σ6 H6 O6 l6 => q1 cls d σ6 H6 O6 (l04.trans l6)
  · have e : i = items.length := by omega
    subst e
    rw [List.drop_length] at e3
    cases e3
    exact .inl ⟨wk.stop H2 O2 bs2, q1 σ2 H2 O2 l2 R2⟩

/-! ### while -/
def whF (t : M Bool) (b : M Fl) : Nat → M Fl
  | 0 => fun _ => none
  | n + 1 => fun τ => match t τ with
    | none => none
    | some (false, τ1) => some (.nx, τ1)
    | some (true, τ1) => match b τ1 with
      | some (.nx, τ2) => whF t b n τ2
      | some (.ct, τ2) => whF t b n τ2
      | some (.bk, τ2) => some (.nx, τ2)
      | some (.rt d, τ2) => some (.rt d, τ2)
      | some (.rf d, τ2) => some (.rf d, τ2)
      | some (.xc c d, τ2) => some (.xc c d, τ2)
      | none => none
theorem whF_succ {t : M Bool} {b : M Fl} : ∀ {n : Nat} {τ : Sd} {r : Fl × Sd}, whF t b n τ = some r → whF t b (n + 1) τ = some r
  | 0, _, _, h => by cases h
  | n + 1, τ, r, h => by
    unfold whF at h ⊢
    cases e1 : t τ with
    | none => simp [e1] at h
    | some p =>
      obtain ⟨c, τ1⟩ := p
      simp only [e1] at h ⊢
      cases c with
      | false => exact h
      | true =>
        simp only at h ⊢
        cases e2 : b τ1 with
        | none => simp [e2] at h
        | some p2 =>
          obtain ⟨fl, τ2⟩ := p2
          simp only [e2] at h ⊢
          cases fl with
          | nx => exact whF_succ h
          | ct => exact whF_succ h
          | bk => exact h
          | rt d => exact h
          | rf d => exact h
          | xc c d => exact h
theorem whF_le {t : M Bool} {b : M Fl} {n m : Nat} {τ : Sd} {r : Fl × Sd} (hnm : n ≤ m) (h : whF t b n τ = some r) : whF t b m τ = some r := by
  induction hnm with
  | refl => exact h
  | step _ ih => exact whF_succ ih
open Classical in
noncomputable def sWhile (t : M Bool) (b : M Fl) : M Fl := fun τ => if h : ∃ n r, whF t b n τ = some r then some h.choose_spec.choose else none
theorem sWhile_of {t : M Bool} {b : M Fl} {n : Nat} {τ : Sd} {r : Fl × Sd} (h : whF t b n τ = some r) : sWhile t b τ = some r := by
  unfold sWhile
  have hx : ∃ n r, whF t b n τ = some r := ⟨n, r, h⟩
  rw [dif_pos hx]
  have h2 := hx.choose_spec.choose_spec
  have a := whF_le (Nat.le_max_left n hx.choose) h
  have b := whF_le (Nat.le_max_right n hx.choose) h2
  rw [a] at b
  exact b.symm
theorem sWhile_some {t : M Bool} {b : M Fl} {τ : Sd} {r : Fl × Sd} (h : sWhile t b τ = some r) : ∃ n, whF t b n τ = some r := by
  unfold sWhile at h
  split at h
  · rename_i hx
    cases h
    exact ⟨hx.choose, hx.choose_spec.choose_spec⟩
  · cases h
theorem ds_while {c : Expr} {body : List Stmt} {pos : Pos} {t : M Bool} {b : M Fl} (hp : PassesOwn (model X.prog X.w) X.A X.env X.xe) (hc : DT X G c t) (hb : DSs X G body b) : DS X G (.While c body [] pos) (sWhile t b) := ps_imp (ps_while hp hc hb) fun N σ H q => by
  obtain ⟨O, τ, fl, τ', R, e1, q⟩ := q
  obtain ⟨n, e1⟩ := sWhile_some e1
  refine ⟨fun m σ2 H2 => ∃ O2 τ2, SR X.K X.mg G H2 O2 σ2 τ2 ∧ Le H O H2 O2 ∧ whF t b m τ2 = some (fl, τ'), ⟨n, O, τ, R, Le.refl _ _, e1⟩, ?_⟩
  rintro m σ2 H2 ⟨O2, τ2, R2, l2, e2⟩
  cases m with
  | zero => cases e2
  | succ m =>
    unfold whF at e2
    cases e3 : t τ2 with
    | none => simp [e3] at e2
    | some pr =>
      obtain ⟨k, τ3⟩ := pr
      simp only [e3] at e2
      refine ⟨O2, τ2, k, τ3, R2, e3, fun H3 O3 l3 R3 => ?_⟩
      cases k with
      | false => cases e2; exact q σ2 H3 O3 (l2.trans l3) R3
      | true =>
        rw [if_pos rfl]
        refine ⟨fun σ' H' => ∃ O4 τ4, SR X.K X.mg G H' O4 σ' τ4 ∧ Le H O H' O4 ∧ whF t b m τ4 = some (fl, τ'), fun σ' H' h => ⟨m, Nat.lt_succ_self _, h⟩, ?_⟩
        simp only at e2
        cases e5 : b τ3 with
        | none => simp [e5] at e2
        | some p5 =>
          obtain ⟨fl5, τ5⟩ := p5
          simp only [e5] at e2
          refine ⟨O3, τ3, fl5, τ5, R3, e5, ?_⟩
          have l03 := l2.trans l3
          cases fl5 with
          | nx => exact fun σ6 H6 O6 l6 R6 => ⟨O6, τ5, R6, l03.trans l6, e2⟩
          | ct => exact fun σ6 H6 O6 l6 R6 => ⟨O6, τ5, R6, l03.trans l6, e2⟩
          | bk => cases e2; exact fun σ6 H6 O6 l6 R6 => q σ6 H6 O6 (l03.trans l6) R6
          | rt d => cases e2; exact fun v σ6 H6 O6 l6 R6 r6 => q v σ6 H6 O6 (l03.trans l6) R6 r6
          | rf d => cases e2; exact fun p xs σ6 H6 O6 l6 => q p xs σ6 H6 O6 (l03.trans l6)
          | xc c d => cases e2; exact fun cls d σ6 H6 O6 l6 => q cls d σ6 H6 O6 (l03.trans l6)
end
end Dv
set_option Elab.async false
set_option linter.all false
set_option maxRecDepth 100000
set_option maxHeartbeats 4000000
/-! DV6: list comprehensions -/
namespace Dv
open PySem L2
/-- the heap without one address -/
def hid (H : Hp) (p : Addr) : Hp := fun a => if a = p then none else H a
theorem hid_some {H : Hp} {p a : Addr} {o : HO} (h : hid H p a = some o) : a ≠ p ∧ H a = some o := by
  unfold hid at h
  by_cases q : a = p
  · rw [if_pos q] at h; cases h
  · rw [if_neg q] at h; exact ⟨q, h⟩
theorem hid_of {H : Hp} {p a : Addr} {o : HO} (n : a ≠ p) (h : H a = some o) : hid H p a = some o := by unfold hid; rw [if_neg n]; exact h
theorem hid_self (H : Hp) (p : Addr) : hid H p p = none := by unfold hid; rw [if_pos rfl]
theorem hid_upd (H : Hp) (p : Addr) (o : HO) : hid (upd H p o) p = hid H p := by
  funext a; unfold hid
  by_cases q : a = p
  · rw [if_pos q, if_pos q]
  · rw [if_neg q, if_neg q, upd_ne q]
theorem upd_hid {H : Hp} {p : Addr} {o : HO} (h : H p = some o) : upd (hid H p) p o = H := by
  funext a
  by_cases q : a = p
  · subst q; rw [upd_same, h]
  · rw [upd_ne q]; unfold hid; rw [if_neg q]
theorem hid_new {H : Hp} {p : Addr} {o : HO} (h : H p = none) : hid (upd H p o) p = H := by
  rw [hid_upd]; funext a; unfold hid
  by_cases q : a = p
  · subst q; rw [if_pos rfl, h]
  · rw [if_neg q]
theorem cut_hid (H : Hp) (p : Addr) (O : List Addr) : cut H (p :: O) = cut (hid H p) O := by
  funext a; unfold cut hid
  by_cases q : a = p
  · subst q; simp
  · by_cases z : a ∈ O
    · simp [z]
    · simp [q, z]
theorem cut_hid' {H : Hp} {p : Addr} {O : List Addr} (h : p ∈ O) : cut (hid H p) (O.filter (· ≠ p)) = cut H O := by
  funext a; unfold cut hid
  by_cases q : a = p
  · subst q; simp [h]
  · by_cases z : a ∈ O
    · simp [z, q]
    · simp [q, z]
section
variable {K : PySem.W.Frag} {mg : Str → Option Value} {G : Gx} {H H' : Hp} {O O' : List Addr} {σ : St} {τ τ' : Sd} {p : Addr} {o : HO}
/-- the ground of what runs while an object at p is held by no slot -/
def within (G : Gx) (H : Hp) (O : List Addr) (p : Addr) : Gx := ⟨H, O.filter (· ∉ G.B), p :: G.B, G.pin, G.T, G.wx⟩
theorem SR.into (R : SR K mg G (hid H p) O σ τ) (hp : Live H [p]) : SR K mg (within G H O p) H (p :: O) σ τ where
  len := R.len
  keep := fun a o h _ _ => h
  tab := R.tab.ext fun a o h => (hid_some h).2
  base := fun q z => by
    rcases List.mem_cons.mp z with z | z
    · subst z; exact List.mem_cons_self
    · exact List.mem_cons_of_mem _ (R.base q z)
  own0 := fun q z => by
    rcases List.mem_cons.mp z with z | z
    · subst z; exact .inl List.mem_cons_self
    · by_cases hb : q ∈ G.B
      · exact .inl (List.mem_cons_of_mem _ hb)
      · exact .inr (.inr (List.mem_filter.mpr ⟨z, by simpa using hb⟩))
  live := fun q z => by
    rcases List.mem_cons.mp z with z | z
    · subst z; exact hp q List.mem_cons_self
    · rcases R.live q z with ⟨xs, e⟩ | ⟨C, dx, fs, e⟩
      · exact .inl ⟨xs, (hid_some e).2⟩
      · exact .inr ⟨C, dx, fs, (hid_some e).2⟩
  slot := fun i s h => by
    obtain ⟨v, ev, ok⟩ := R.slot i s h
    refine ⟨v, ev, ?_⟩
    cases s with
    | val d => show Rep K mg (cut H (p :: O)) v d; rw [cut_hid]; exact ok
    | own l =>
      obtain ⟨q, xs, rfl, h1, h2, h3, h4, h5⟩ := ok
      obtain ⟨n, h4⟩ := hid_some h4
      exact ⟨q, xs, rfl, List.mem_cons_of_mem _ h1, by show q ∉ p :: G.B; simp [n, h2], .inr (List.mem_filter.mpr ⟨h1, by simpa using h2⟩), h4, by rw [cut_hid]; exact h5⟩
    | ob c ns ds =>
      obtain ⟨q, C, dx, xs, rfl, h1, h2, h3, h4, h5, h6, h7⟩ := ok
      obtain ⟨n, h5⟩ := hid_some h5
      exact ⟨q, C, dx, xs, rfl, List.mem_cons_of_mem _ h1, by show q ∉ p :: G.B; simp [n, h2], .inr (List.mem_filter.mpr ⟨h1, by simpa using h2⟩), h4, h5, h6, by rw [cut_hid]; exact h7⟩
  inj := R.inj
  pin := R.pin
theorem tabs_hid {T : List (Addr × Str)} {H : Hp} {p : Addr} {xs : List V} (t : LamX.Tabs T H) (hp : H p = some (.lst xs)) : LamX.Tabs T (hid H p) := fun q hq => by
  obtain ⟨ps, h1, h2, h3⟩ := t q hq
  have ne : ∀ b u, H b = some u → (∀ xs, u ≠ .lst xs) → b ≠ p := fun b u e n z => by
    subst z
    rw [hp] at e; cases e
    exact n _ rfl
  refine ⟨ps, hid_of (ne _ _ h1 fun _ z => by cases z) h1, h2, fun pos cv hc => ?_⟩
  obtain ⟨c, e1, e2⟩ := h3 pos cv hc
  exact ⟨c, e1, hid_of (ne _ _ e2 fun _ z => by unfold LamX.CodeO at z; cases z) e2⟩
theorem SR.out {σ' : St} (R : SR K mg G (hid H p) O σ τ) (R' : SR K mg (within G H O p) H' O' σ' τ') (hp : H p = some o) (ho : ∃ xs, o = .lst xs := by exact ⟨_, rfl⟩) : H' p = some o ∧ SR K mg G (hid H' p) (O'.filter (· ≠ p)) σ' τ' ∧ cut (hid H' p) (O'.filter (· ≠ p)) = cut H' O' := by
  have hpO : p ∈ O' := R'.base p List.mem_cons_self
  have npW : p ∉ O := fun z => by
    rcases R.live p z with ⟨xs, e⟩ | ⟨C, dx, fs, e⟩ <;> exact (hid_some e).1 rfl
  have nW : ∀ a, (a ∉ O ∨ a ∈ G.B) → a ∉ O.filter (· ∉ G.B) := fun a z w => by
    obtain ⟨w1, w2⟩ := List.mem_filter.mp w
    rcases z with z | z
    · exact z w1
    · have w3 : a ∉ G.B := by simpa using w2
      exact w3 z
  have kp : ∀ a u, H a = some u → (a ∉ O ∨ a ∈ G.B) → (G.T = [] ∨ isTbl u = false) → H' a = some u := fun a u h z c => R'.keep a u h (nW a z) c
  have inO : ∀ a u, G.H0 a = some u → a ∉ G.W → (G.T = [] ∨ isTbl u = false) → a ∉ O ∨ a ∈ G.B := fun a u h n c => by
    by_cases z : a ∈ O
    · rcases R.own0 a z with b | b | b
      · exact .inr b
      · exact (b.ne h c).elim
      · exact absurd b n
    · exact .inl z
  have hp' : H' p = some o := kp p o hp (.inl npW) (.inr (by obtain ⟨xs, rfl⟩ := ho; rfl))
  have ec := cut_hid' (H := H') hpO
  have sl : ∀ q, Fresh (within G H O p) q ∨ q ∈ O.filter (· ∉ G.B) → q ≠ p → Fresh G q ∨ q ∈ G.W := fun q h n => by
    rcases h with h | h
    · by_cases w : q ∈ G.W
      · exact .inr w
      · refine .inl fun u e => ?_
        by_cases c : G.T = [] ∨ isTbl u = false
        · exact (h.ne (hid_some (R.keep q u e w c)).2 c).elim
        · simp only [not_or, Bool.not_eq_false] at c
          exact c
    · obtain ⟨w1, w2⟩ := List.mem_filter.mp h
      rcases R.own0 q w1 with z | z
      · exact absurd z (by simpa using w2)
      · exact z
  refine ⟨hp', ⟨R'.len, fun a u h n c => ?_, ?_, fun q z => ?_, fun q z => ?_, fun q z => ?_, fun i s h => ?_, R'.inj, R'.pin⟩, ec⟩
  · obtain ⟨na, e⟩ := hid_some (R.keep a u h n c)
    exact hid_of na (kp a u e (inO a u h n c) c)
  · obtain ⟨xs, rfl⟩ := ho
    exact tabs_hid R'.tab hp'
  · have nq : q ≠ p := fun e => by subst e; exact npW (R.base q z)
    exact List.mem_filter.mpr ⟨R'.base q (List.mem_cons_of_mem _ z), by simpa using nq⟩
  · obtain ⟨z1, z2⟩ := List.mem_filter.mp z
    have nq : q ≠ p := by simpa using z2
    rcases R'.own0 q z1 with b | b
    · rcases List.mem_cons.mp b with b | b
      · exact absurd b nq
      · exact .inl b
    · exact .inr (sl q b nq)
  · obtain ⟨z1, z2⟩ := List.mem_filter.mp z
    have nq : q ≠ p := by simpa using z2
    rcases R'.live q z1 with ⟨xs, e⟩ | ⟨C, dx, fs, e⟩
    · exact .inl ⟨xs, hid_of nq e⟩
    · exact .inr ⟨C, dx, fs, hid_of nq e⟩
  · obtain ⟨v, ev, ok⟩ := R'.slot i s h
    refine ⟨v, ev, ?_⟩
    cases s with
    | val d => show Rep K mg (cut _ _) v d; rw [ec]; exact ok
    | own l =>
      obtain ⟨q, xs, rfl, h1, h2, h3, h4, h5⟩ := ok
      have h2' : q ∉ p :: G.B := h2
      simp only [List.mem_cons, not_or] at h2'
      exact ⟨q, xs, rfl, List.mem_filter.mpr ⟨h1, by simpa using h2'.1⟩, h2'.2, sl q h3 h2'.1, hid_of h2'.1 h4, by rw [ec]; exact h5⟩
    | ob c ns ds =>
      obtain ⟨q, C, dx, xs, rfl, h1, h2, h3, h4, h5, h6, h7⟩ := ok
      have h2' : q ∉ p :: G.B := h2
      simp only [List.mem_cons, not_or] at h2'
      exact ⟨q, C, dx, xs, rfl, List.mem_filter.mpr ⟨h1, by simpa using h2'.1⟩, h2'.2, sl q h3 h2'.1, h4, hid_of h2'.1 h5, h6, by rw [ec]; exact h7⟩

/-! ### slots forgotten -/
def wipeD (τ : Sd) : List Nat → Sd
  | [] => τ
  | v :: vs => (wipeD τ vs).set v none
theorem SR.wipe (R : SR K mg G H O σ τ) : ∀ vs : List Nat, SR K mg G H O (L2.wipe σ vs) (wipeD τ vs)
  | [] => R
  | _ :: vs => (SR.wipe R vs).setN
theorem wipeD_some {i : Nat} {s : Sl} : ∀ {vs : List Nat}, (wipeD τ vs)[i]? = some (some s) → τ[i]? = some (some s) ∧ i ∉ vs
  | [], h => ⟨h, by simp⟩
  | v :: vs, h => by
    unfold wipeD at h
    by_cases hi : v = i
    · subst hi
      by_cases hv : v < (wipeD τ vs).length
      · rw [List.getElem?_set_self hv] at h; cases h
      · rw [List.getElem?_eq_none (by simpa using hv)] at h; cases h
    · rw [List.getElem?_set_ne hi] at h
      obtain ⟨h1, h2⟩ := wipeD_some h
      exact ⟨h1, by simp only [List.mem_cons, not_or]; exact ⟨fun e => hi e.symm, h2⟩⟩
theorem wipe_get {i : Nat} : ∀ {vs : List Nat}, i ∉ vs → (L2.wipe σ vs)[i]? = σ[i]?
  | [], _ => rfl
  | v :: vs, h => by
    simp only [List.mem_cons, not_or] at h
    unfold L2.wipe
    rw [List.getElem?_set_ne (Ne.symm h.1), wipe_get h.2]
theorem SR.unwipe {vs : List Nat} (R : SR K mg G H O (L2.wipe σ vs) (wipeD τ vs)) : SR K mg G H O σ (wipeD τ vs) where
  len := by rw [← R.len, wipe_length]
  keep := R.keep
  tab := R.tab
  base := R.base
  own0 := R.own0
  live := R.live
  slot := fun i s h => by
    obtain ⟨v, e, ok⟩ := R.slot i s h
    rw [wipe_get (wipeD_some h).2] at e
    exact ⟨v, e, ok⟩
  inj := fun i j s t v h1 o1 h2 o2 e1 e2 => R.inj i j s t v h1 o1 h2 o2 (by rw [wipe_get (wipeD_some h1).2]; exact e1) (by rw [wipe_get (wipeD_some h2).2]; exact e2)
  pin := fun p s hp h o => by
    have := R.pin p s hp h o
    rw [wipe_get (wipeD_some h).2] at this
    exact this
theorem wipe_same {is vs : List Nat} {σ σ' : St} (hs : ∀ i ∈ is, i ∈ vs) (sb : SameBut is (L2.wipe σ vs) σ') : L2.wipe σ' vs = L2.wipe σ vs := by
  apply List.ext_getElem?
  intro i
  by_cases hi : i ∈ vs
  · have none_at : ∀ (l : St) (vs : List Nat), i ∈ vs → i < l.length → (L2.wipe l vs)[i]? = some none := fun l vs => by
      induction vs with
      | nil => intro h; simp at h
      | cons v vs ih =>
        intro h hl
        unfold L2.wipe
        by_cases e : v = i
        · subst e; rw [List.getElem?_set_self (by rw [wipe_length]; exact hl)]
        · rw [List.getElem?_set_ne e]
          rcases List.mem_cons.mp h with h | h
          · exact absurd h.symm e
          · exact ih h hl
    have ln : σ'.length = σ.length := by rw [sb.1, wipe_length]
    by_cases hl : i < σ.length
    · rw [none_at σ vs hi hl, none_at σ' vs hi (by rw [ln]; exact hl)]
    · rw [List.getElem?_eq_none (by rw [wipe_length, ln]; omega), List.getElem?_eq_none (by rw [wipe_length]; omega)]
  · rw [wipe_get hi, wipe_get hi, sb.2 i (fun z => hi (hs i z)), wipe_get hi]
end

def lcL (g : D → Sd → Option Sd) (tt : M Bool) (te : M D) (vs : List Nat) : List D → M (List D)
  | [] => mPure []
  | d :: ds => fun τ => match g d τ with
    | none => none
    | some τ1 => match tt τ1 with
      | none => none
      | some (false, τ2) => lcL g tt te vs ds (wipeD τ2 vs)
      | some (true, τ2) => match te τ2 with
        | none => none
        | some (y, τ3) => match lcL g tt te vs ds (wipeD τ3 vs) with
          | none => none
          | some (ys, τ4) => some (y :: ys, τ4)
def mLc (f : M (List D)) (g : D → Sd → Option Sd) (tt : M Bool) (te : M D) (vs : List Nat) : M (List D) := mBind f fun items => fun τ => if items.length ≤ sizeLine then lcL g tt te vs items (wipeD τ vs) else none
theorem lcL_wiped {g : D → Sd → Option Sd} {tt : M Bool} {te : M D} {vs : List Nat} : ∀ {ds : List D} {τ : Sd} {ys : List D} {τ' : Sd}, lcL g tt te vs ds (wipeD τ vs) = some (ys, τ') → ∃ τ'', τ' = wipeD τ'' vs
  | [], τ, _, _, h => by cases h; exact ⟨τ, rfl⟩
  | d :: ds, τ, ys, τ', h => by
    simp only [lcL] at h
    split at h
    · cases h
    · split at h
      · cases h
      · exact lcL_wiped h
      · split at h
        · cases h
        · split at h
          · cases h
          · rename_i h5
            cases h
            exact lcL_wiped h5
section
variable {X : Cx} {G : Gx} {tg : Expr}
/-- the tests of a comprehension's clause -/
def DTs (X : Cx) (G : Gx) (ifs : List Expr) (f : M Bool) : Prop := PTs X ifs (tDT X.K X.mg G f)
theorem dts_nil : DTs X G [] (mPure true) := ⟨fun pins s σ H Q I q => pts_nil.run pins s σ H Q I (by
  obtain ⟨O, τ, b, τ', R, e, q⟩ := q
  cases e
  exact q H O (Le.refl _ _) R)⟩
theorem dts_one {c : Expr} {f : M Bool} (h : DT X G c f) : DTs X G [c] f := pts_one h
/-- what a comprehension's parts are read as, whatever the ground -/
def tAnyG (K : PySem.W.Frag) (mg : Str → Option Value) (is : List Nat) (g : D → Sd → Option Sd) : TG := fun v σ H Q => ∃ G, tDG K mg G is g v σ H Q
def tAnyT (K : PySem.W.Frag) (mg : Str → Option Value) (tt : M Bool) : TT := fun σ H Q => ∃ G, tDT K mg G tt σ H Q
def tAnyE (K : PySem.W.Frag) (mg : Str → Option Value) (te : M D) : TE := fun σ H Q => ∃ G, tD K mg G te σ H Q
theorem lc_of {vs is : List Nat} {f : M (List D)} {g : D → Sd → Option Sd} {tt : M Bool} {te : M D} (his : ∀ i ∈ is, i ∈ vs) (σ : St) (H : Hp) (Q : VK) (q : tDF X.K X.mg G (mLc f g tt te vs) σ H Q) :
    tLc (tDI X.K X.mg G f) (tAnyG X.K X.mg is g) (tAnyT X.K X.mg tt) (tAnyE X.K X.mg te) vs σ H Q := by
  obtain ⟨O, τ, l, τ', R, e1, q⟩ := q
  obtain ⟨items, τ1, e2, e1⟩ := mBind_some e1
  split at e1
  · rename_i hlen
    refine ⟨O, τ, items, τ1, R, e2, fun J H1 O1 Bs l1 R1 wk bs p hp => ?_⟩
    refine ⟨fun i m Hc => m = items.length - i ∧ i ≤ items.length ∧ ∃ acc ya Oi τi rest, Hc p = some (.lst acc) ∧ SR X.K X.mg G (hid Hc p) Oi (L2.wipe σ vs) (wipeD τi vs) ∧ Le H1 O1 (hid Hc p) Oi ∧ Bs (hid Hc p) Oi ∧ RepL X.K X.mg (cut (hid Hc p) Oi) acc ya ∧ acc.length ≤ i ∧ lcL g tt te vs (items.drop i) (wipeD τi vs) = some (rest, τ') ∧ l = ya ++ rest,
      ⟨items.length, by simp, Nat.zero_le _, [], [], O1, τ1, l, upd_same, ?_, ?_, ?_, ?_, Nat.le_refl _, by simpa using e1, rfl⟩, ?_⟩
    · rw [hid_new hp]; exact R1.wipe vs
    · rw [hid_new hp]; exact Le.refl _ _
    · rw [hid_new hp]; exact bs
    · exact .nil
    · rintro i m Hc ⟨rfl, hi', acc, ya, Oi, τi, rest, hacc, Ri, li, bsi, racc, hal, e3, el⟩
      by_cases hlt : i < items.length
      · have ed : items.drop i = items[i] :: items.drop (i + 1) := List.drop_eq_getElem_cons hlt
        rw [ed] at e3
        simp only [lcL] at e3
        have Rin := Ri.into (fun q z => by
          have : q = p := by simpa using z
          subst this; exact .inl ⟨acc, hacc⟩)
        have lin : Le (hid Hc p) Oi Hc (p :: Oi) := by unfold Le; rw [cut_hid]; exact GrowW.refl _
        have bsin : Bs Hc (p :: Oi) := wk.mono _ _ _ _ bsi lin
        obtain ⟨hgo, hy⟩ := wk.go i items[i] Hc (p :: Oi) Rin.live bsin (List.getElem?_eq_getElem hlt)
        refine .inr ⟨hgo, fun H' => i + 1 ≤ items.length ∧ ∃ acc ya Oi τi rest, H' p = some (.lst acc) ∧ SR X.K X.mg G (hid H' p) Oi (L2.wipe σ vs) (wipeD τi vs) ∧ Le H1 O1 (hid H' p) Oi ∧ Bs (hid H' p) Oi ∧ RepL X.K X.mg (cut (hid H' p) Oi) acc ya ∧ acc.length ≤ i + 1 ∧ lcL g tt te vs (items.drop (i + 1)) (wipeD τi vs) = some (rest, τ') ∧ l = ya ++ rest, fun H' ⟨h0, a, b, c, d, e, h1⟩ => ⟨items.length - (i + 1), by omega, rfl, h0, a, b, c, d, e, h1⟩, fun x H3 y3 => ?_⟩
        obtain ⟨g3, r3⟩ := hy x H3 y3
        cases e4 : g items[i] (wipeD τi vs) with
        | none => simp [e4] at e3
        | some τ3 =>
          simp only [e4] at e3
          refine ⟨within G Hc Oi p, p :: Oi, wipeD τi vs, items[i], τ3, Rin.grow g3, r3, e4, fun σ4 H4 O4 sb l4 R4 => ⟨wipe_same his sb, ?_⟩⟩
          cases e5 : tt τ3 with
          | none => simp [e5] at e3
          | some pr =>
            obtain ⟨k, τ5⟩ := pr
            simp only [e5] at e3
            refine ⟨within G Hc Oi p, O4, τ3, k, τ5, R4, e5, fun H5 O5 l5 R5 => ?_⟩
            have l05 : Le Hc (p :: Oi) H5 O5 := ((Le.grow g3).trans l4).trans l5
            cases k with
            | false =>
              refine iteF ?_
              obtain ⟨hp5, R5', ec5⟩ := Ri.out R5 hacc
              have lw : Le (hid Hc p) Oi (hid H5 p) (O5.filter (· ≠ p)) := by
                have := lin.trans l05
                unfold Le at this ⊢
                rw [ec5]; exact this
              refine ⟨hlt, acc, ya, O5.filter (· ≠ p), τ5, rest, hp5, ?_, li.trans lw, wk.mono _ _ _ _ bsi lw, RepL.grow lw racc, Nat.le_succ_of_le hal, e3, el⟩
              have := R5'.wipe vs
              rw [wipe_same his sb] at this
              exact this
            | true =>
              refine iteT ?_
              simp only at e3
              cases e6 : te τ5 with
              | none => simp [e6] at e3
              | some p6 =>
                obtain ⟨y, τ6⟩ := p6
                simp only [e6] at e3
                cases e7 : lcL g tt te vs (items.drop (i + 1)) (wipeD τ6 vs) with
                | none => simp [e7] at e3
                | some p7 =>
                  obtain ⟨ys, τ7⟩ := p7
                  simp only [e7] at e3
                  cases e3
                  refine ⟨within G Hc Oi p, O5, τ5, y, τ6, R5, e6, fun v H6 O6 l6 R6 r6 => ?_⟩
                  obtain ⟨hp6, R6', ec6⟩ := Ri.out R6 hacc
                  have lw : Le (hid Hc p) Oi (hid H6 p) (O6.filter (· ≠ p)) := by
                    have := (lin.trans l05).trans l6
                    unfold Le at this ⊢
                    rw [ec6]; exact this
                  refine ⟨acc, hp6, by omega, hlt, acc ++ [v], ya ++ [y], O6.filter (· ≠ p), τ6, ys, upd_same, ?_, ?_, ?_, ?_, by simp; omega, e7, by simp [el]⟩
                  · rw [hid_upd]
                    have := R6'.wipe vs
                    rw [wipe_same his sb] at this
                    exact this
                  · rw [hid_upd]; exact li.trans lw
                  · rw [hid_upd]; exact wk.mono _ _ _ _ bsi lw
                  · rw [hid_upd]
                    refine RepL.append (RepL.grow lw racc) (.cons ?_ .nil)
                    rw [ec6]; exact r6
      · have e : i = items.length := by omega
        subst e
        rw [List.drop_length] at e3
        have e3' : (([] : List D), wipeD τi vs) = (rest, τ') := by simpa [lcL, mPure] using e3
        cases e3'
        have lin : Le (hid Hc p) Oi Hc (p :: Oi) := by unfold Le; rw [cut_hid]; exact GrowW.refl _
        refine .inl ⟨wk.stop Hc (p :: Oi) (wk.mono _ _ _ _ bsi lin), ?_⟩
        have := q p acc (hid Hc p) Oi (hid_self _ _) (l1.trans li) Ri.unwipe (by rw [el, List.append_nil]; exact racc)
        rw [upd_hid hacc] at this
        exact this
  · cases e1
section
variable {elt iter : Expr} {ifs : List Expr} {scope : Scope} {pos : Pos} {own : List (Str × Nat)} {is : List Nat} {f : M (List D)} {g : D → Sd → Option Sd} {tt : M Bool} {te : M D}
/-- the parts of a comprehension in its block, whatever the ground -/
abbrev BlkG (X : Cx) (scope : Scope) (tg : Expr) (is : List Nat) (g : D → Sd → Option Sd) : Prop := ∀ (s : Shared) (H : Hp) (C : Addr) (cl : List (Str × Addr)) (fp : List Addr) (G : Gx), DG (X.blk s H scope (compEnvC scope cl C X.env) fp) G tg is g
abbrev BlkT (X : Cx) (scope : Scope) (ifs : List Expr) (tt : M Bool) : Prop := ∀ (s : Shared) (H : Hp) (C : Addr) (cl : List (Str × Addr)) (fp : List Addr) (G : Gx), DTs (X.blk s H scope (compEnvC scope cl C X.env) fp) G ifs tt
abbrev BlkE (X : Cx) (scope : Scope) (elt : Expr) (te : M D) : Prop := ∀ (s : Shared) (H : Hp) (C : Addr) (cl : List (Str × Addr)) (fp : List Addr) (G : Gx), DE (X.blk s H scope (compEnvC scope cl C X.env) fp) G elt te
theorem df_lc (hc : X.calm = true) (hN : X.N.Nodup) (hi : DI X G tg iter f) (ok : BlkOk X.N X.env.scope scope own) (his : ∀ i ∈ is, i ∈ own.map (·.2)) (hg : BlkG X scope tg is g) (ht : BlkT X scope ifs tt) (he : BlkE X scope elt te) (hs : ∀ x, foldedSetIterable iter X.env x = pure x := by intro _; rfl) :
    DF X G (.ListComp elt [⟨tg, iter, ifs, 0⟩] scope pos) (mLc f g tt te (own.map (·.2))) :=
  pe_imp (pe_lc (g := tAnyG X.K X.mg is g) (tt := tAnyT X.K X.mg tt) (te := tAnyE X.K X.mg te) hc hN hi ok
    (fun s H C cl fp => ⟨fun pins s' σ H' v u Q I r ⟨G, q⟩ => (hg s H C cl fp G).run pins s' σ H' v u Q I r q⟩)
    (fun s H C cl fp => ⟨fun pins s' σ H' Q I ⟨G, q⟩ => (ht s H C cl fp G).run pins s' σ H' Q I q⟩)
    (fun s H C cl fp => ⟨fun pins s' σ H' Q I ⟨G, q⟩ => (he s H C cl fp G).run pins s' σ H' Q I q⟩) hs) (lc_of his)
theorem ds_lcAny {y : Str} {py spos : Pos} (i : Nat) (hc : X.calm = true) (hN : X.N.Nodup) (hy : X.N[i]? = some y) (hyl : X.env.scope.names.lookup y = some .local)
    (hsw : swapsWith (.ListComp elt [⟨tg, iter, ifs, 0⟩] scope pos) (some (.Name y py)) spos.line X.env = pure true) (hi : DI X G tg iter f) (ok : BlkOk X.N X.env.scope scope own) (his : ∀ i ∈ is, i ∈ own.map (·.2)) (hg : BlkG X scope tg is g) (ht : BlkT X scope ifs tt) (he : BlkE X scope elt te) (hs : ∀ x, foldedSetIterable iter X.env x = pure x := by intro _; rfl) :
    PS X (.Assign [.Name y py] (.ListComp elt [⟨tg, iter, ifs, 0⟩] scope pos) spos) (tAsg (tDF X.K X.mg G (mLc f g tt te (own.map (·.2)))) (gName i)) :=
  ps_imp (ps_setLc (g := tAnyG X.K X.mg is g) (tt := tAnyT X.K X.mg tt) (te := tAnyE X.K X.mg te) hc hN hy hyl hsw hi ok
    (fun s H C cl fp => ⟨fun pins s' σ H' v u Q I r ⟨G, q⟩ => (hg s H C cl fp G).run pins s' σ H' v u Q I r q⟩)
    (fun s H C cl fp => ⟨fun pins s' σ H' Q I ⟨G, q⟩ => (ht s H C cl fp G).run pins s' σ H' Q I q⟩)
    (fun s H C cl fp => ⟨fun pins s' σ H' Q I ⟨G, q⟩ => (he s H C cl fp G).run pins s' σ H' Q I q⟩) hs) fun N σ H q => lc_of his σ H _ q
theorem ds_ownLc {y : Str} {py spos : Pos} (i : Nat) (hi0 : i ≠ 0) (hc : X.calm = true) (hN : X.N.Nodup) (hy : X.N[i]? = some y) (hyl : X.env.scope.names.lookup y = some .local)
    (hsw : swapsWith (.ListComp elt [⟨tg, iter, ifs, 0⟩] scope pos) (some (.Name y py)) spos.line X.env = pure true) (hi : DI X G tg iter f) (ok : BlkOk X.N X.env.scope scope own) (his : ∀ i ∈ is, i ∈ own.map (·.2)) (hg : BlkG X scope tg is g) (ht : BlkT X scope ifs tt) (he : BlkE X scope elt te) (hs : ∀ x, foldedSetIterable iter X.env x = pure x := by intro _; rfl) :
    DS X G (.Assign [.Name y py] (.ListComp elt [⟨tg, iter, ifs, 0⟩] scope pos) spos) (sOwn i (mLc f g tt te (own.map (·.2)))) :=
  ps_imp (ds_lcAny i hc hN hy hyl hsw hi ok his hg ht he hs) fun N σ H q => by
    obtain ⟨O, τ, fl, τ', R, e, q⟩ := q
    obtain ⟨d, τ1, e1, e2⟩ := mBind_some e
    cases e2
    refine ⟨O, τ, d, τ1, R, e1, fun p xs H1 O' hp l R' r => ?_⟩
    obtain ⟨R2, l2⟩ := R'.setO (i := i) hp r hi0
    exact q _ _ _ (l.trans l2) R2
/-- y = [..], a list that no one changes any more -/
def sSetL (i : Nat) (f : M (List D)) : M Fl := mBind f fun l => fun τ => some (.nx, τ.set i (some (.val (.lst l))))
theorem ds_setLc {y : Str} {py spos : Pos} (i : Nat) (hc : X.calm = true) (hN : X.N.Nodup) (hy : X.N[i]? = some y) (hyl : X.env.scope.names.lookup y = some .local)
    (hsw : swapsWith (.ListComp elt [⟨tg, iter, ifs, 0⟩] scope pos) (some (.Name y py)) spos.line X.env = pure true) (hi : DI X G tg iter f) (ok : BlkOk X.N X.env.scope scope own) (his : ∀ i ∈ is, i ∈ own.map (·.2)) (hg : BlkG X scope tg is g) (ht : BlkT X scope ifs tt) (he : BlkE X scope elt te) (hs : ∀ x, foldedSetIterable iter X.env x = pure x := by intro _; rfl) :
    DS X G (.Assign [.Name y py] (.ListComp elt [⟨tg, iter, ifs, 0⟩] scope pos) spos) (sSetL i (mLc f g tt te (own.map (·.2)))) :=
  ps_imp (ds_lcAny i hc hN hy hyl hsw hi ok his hg ht he hs) fun N σ H q => by
    obtain ⟨O, τ, fl, τ', R, e, q⟩ := q
    obtain ⟨d, τ1, e1, e2⟩ := mBind_some e
    cases e2
    refine ⟨O, τ, d, τ1, R, e1, fun p xs H1 O' hp l R' r => ?_⟩
    exact q _ _ O' (l.trans (Le.grow (Grow.new hp))) ((R'.grow (Grow.new hp)).setV (new_list R'.live hp r))
end
end
end Dv
set_option Elab.async false
set_option linter.all false
set_option maxRecDepth 100000
set_option maxHeartbeats 4000000
/-! DV7: defs: what they do to data; their calls -/
namespace Dv
open PySem L2
/-- a def keeps its promise where nothing is being shown further out -/
structure FnG (P : Program) (w : World) (K : PySem.W.Frag) (mg : Str → Option Value) (base : Heap) (k : Nat) (f : Addr) (fd : FuncData) (ps : List Str) (sp : Sp) : Prop where
  len : ∀ vs H Q E, sp vs H Q E → vs.length = ps.length
  run : ∀ (A : Around) (outer : List Env) (s : Shared) (H : Hp) (args : Args) (us : List Value) (vs : List V) (Q : VK) (E : XK), Room k A → A.guards = some [] → Env0 P w K mg base A outer s H → BindsTo s fd args (ps.zip us) → Vals vs us → sp vs H Q E →
    codeAny (model P w) A (.call (.ref f) args) (CR CX0 outer P w H s Q E) s
section
variable {P : Program} {w : World} {K : PySem.W.Frag} {mg : Str → Option Value} {base : Heap}
theorem FnG.mono {j k : Nat} {f : Addr} {fd : FuncData} {ps : List Str} {sp : Sp} (F : FnG P w K mg base j f fd ps sp) (h : j ≤ k) : FnG P w K mg base k f fd ps sp :=
  ⟨F.len, fun A outer s H args us vs Q E hr => F.run A outer s H args us vs Q E (hr.mono h)⟩
/-- from a def's body to its promise -/
theorem fnG_of {x qual : Str} {params : Arguments} {body : List Stmt} {scope : Scope} {dvs : List V} {kws : List (Str × V)} {f : Addr} {fd : FuncData} {N ps : List Str} {k : Nat} {sp : Sp} (F : FunD K x qual params body scope dvs kws f fd) (S : FnScope N ps scope)
    (len : ∀ vs H Q E, sp vs H Q E → vs.length = ps.length)
    (hb : ∀ (cdv : Value) (A : Around) (outer : List Env) (s : Shared) (H : Hp) (vs : List V) (Q : VK) (E : XK), Room k (A.deeper (PyProof.Rows.envOfC qual scope s.heap.objs.size f cdv)) → A.guards = some [] → sp vs H Q E →
      ∃ t, PSs (cxOf CX0 P w K mg base N qual scope f cdv A outer s H E).nox body t ∧ t { nx := fun _ H' => Q .non H', rt := Q } (L2.start N vs) H) : FnG P w K mg base (k + 1) f fd ps sp := by
  obtain ⟨oc, od, dV, kV, doc, pm, an, cdv, ct, osl, rfl, lk, hcd, _, _⟩ := F.ex
  refine ⟨len, ?_⟩
  intro A outer s H args us vs Q E hr hgd e0 hbd r hsp
  have hIn : K.In s.heap := e0.mod.kin.keeps fun b o e => (e0.bs b o e).1
  have hLim : s.heap.NoLimit := e0.mod.nolimit.keeps fun b o e => (e0.bs b o e).1
  refine codeAny_call_function hr.depth (hIn _ _ lk) rfl S.co S.gen rfl (PySem.W.codeRec_of hIn hcd) (hbd _ _ _ _ ?_)
  refine wpAny_newFunctionEnv_cells S.kind ?_ ?_
  · rintro ⟨n, v⟩ hy
    rcases S.par n (List.of_mem_zip hy).1 with q | q
    · exact .inl q
    · exact .inr ⟨q, PySem.W.cellsFrom_some _ _ _ (.inl q)⟩
  · rintro env rfl s1 ic
    refine ⟨hLim.keeps ic.toInCall.keep, codeAny_func ?_⟩
    obtain ⟨t, ht, hq⟩ := hb cdv A outer s H vs Q E (hr.deeper _) hgd hsp
    have inv0 := inv_start (CX := CX0) (E := E) S hr.hd e0 (len _ _ _ _ hsp) r ic
    refine wpAny_mono (ht.nox.run [] s1 (L2.start N vs) H _ inv0 hq) ?_ fun _ _ hs => hs
    intro fl s' hs
    cases fl with
    | ret u => obtain ⟨v, σ', H', J, rv, q⟩ := hs; exact ⟨v, H', J.os, J.bare, J.base, J.hok, rv, q⟩
    | next => obtain ⟨σ', H', J, q⟩ := hs; exact ⟨.non, H', J.os, J.bare, J.base, J.hok, rfl, q⟩
    | brk => obtain ⟨_, _, _, q⟩ := hs; exact q.elim
    | cont => obtain ⟨_, _, _, q⟩ := hs; exact q.elim
end

/-! ### promises of data -/
section
variable (K : PySem.W.Frag) (mg : Str → Option Value)
/-- the def's value is F of its arguments' data -/
def spD (n : Nat) (F : List D → Option D) : Sp := fun vs H Q _ => ∃ O ds d, vs.length = n ∧ Live H O ∧ RepL K mg (cut H O) vs ds ∧ F ds = some d ∧ ∀ v H', Grow H H' → Rep K mg (cut H' O) v d → Q v H'
/-- its value is a new list -/
def spF (n : Nat) (F : List D → Option (List D)) : Sp := fun vs H Q _ => ∃ O ds l, vs.length = n ∧ Live H O ∧ RepL K mg (cut H O) vs ds ∧ F ds = some l ∧ ∀ p xs H1, Grow H H1 → H1 p = none → RepL K mg (cut H1 O) xs l → Q (.ref p) (upd H1 p (.lst xs))
/-- its first argument is a list that it writes -/
def spW (n : Nat) (F : List D → List D → Option (D × List D)) : Sp := fun vs H Q _ => ∃ O p xs vs' l ds d l', vs = .ref p :: vs' ∧ vs.length = n ∧ Live H O ∧ p ∈ O ∧ H p = some (.lst xs) ∧ RepL K mg (cut H O) xs l ∧ RepL K mg (cut H O) vs' ds ∧ F l ds = some (d, l') ∧
  ∀ v H' xs', (∀ a o, a ≠ p → H a = some o → H' a = some o) → H' p = some (.lst xs') → RepL K mg (cut H' O) xs' l' → Rep K mg (cut H' O) v d → Q v H'
/-- __init__: a new instance gets its attributes -/
def spI (n : Nat) (c : Nat) (F : List D → Option (List D)) : Sp := fun vs H Q _ => ∃ O p C dx vs' ds fs, vs = .ref p :: vs' ∧ vs.length = n ∧ Live H O ∧ p ∈ O ∧ mg (clsName c) = some (.ref C) ∧ H p = some (.ins C dx []) ∧ RepL K mg (cut H O) vs' ds ∧ F ds = some fs ∧
  ∀ H' dx' xs', (∀ a o, a ≠ p → H a = some o → H' a = some o) → H' p = some (.ins C dx' ((clsFlds c).zip xs')) → (clsFlds c).length = xs'.length → RepL K mg (cut H' O) xs' fs → Q .non H'
end
/-- the slots at a def's entry -/
def start0 (n : Nat) (ds : List D) : Sd := ds.map (fun d => some (.val d)) ++ List.replicate (n - ds.length) none
def retD : Option (Fl × Sd) → Option D
  | some (.rt d, _) => some d
  | some (.rf l, _) => some (.lst l)
  | some (.nx, _) => some .non
  | _ => none
def runD (n : Nat) (f : M Fl) (ds : List D) : Option D := retD (f (start0 n ds))
def retF : Option (Fl × Sd) → Option (List D)
  | some (.rf l, _) => some l
  | _ => none
def runF (n : Nat) (f : M Fl) (ds : List D) : Option (List D) := retF (f (start0 n ds))
def retW : Option (Fl × Sd) → Option (D × List D)
  | some (.rt d, τ) => (ownOf 0 τ).map fun l => (d, l)
  | some (.rf d, τ) => (ownOf 0 τ).map fun l => (.lst d, l)
  | some (.nx, τ) => (ownOf 0 τ).map fun l => (.non, l)
  | _ => none
def runW (n : Nat) (f : M Fl) (l : List D) (ds : List D) : Option (D × List D) := retW (f (some (.own l) :: start0 (n - 1) ds))
def obOf (c : Nat) (τ : Sd) : Option (List D) := match τ[0]? with
  | some (some (Sl.ob c' ns ds)) => if c' = c ∧ ns = clsFlds c then some ds else none
  | _ => none
def retI (c : Nat) : Option (Fl × Sd) → Option (List D)
  | some (.rt .non, τ) => obOf c τ
  | some (.nx, τ) => obOf c τ
  | _ => none
def runI (n : Nat) (c : Nat) (f : M Fl) (ds : List D) : Option (List D) := retI c (f (some (.ob c [] []) :: start0 (n - 1) ds))

section
variable {K : PySem.W.Frag} {mg : Str → Option Value} {H : Hp} {O : List Addr}
theorem start0_get {n : Nat} {ds : List D} {i : Nat} {s : Sl} (h : (start0 n ds)[i]? = some (some s)) : ∃ d, ds[i]? = some d ∧ s = .val d := by
  unfold start0 at h
  by_cases hi : i < ds.length
  · rw [List.getElem?_append_left (by simpa using hi), List.getElem?_map] at h
    cases e : ds[i]? with
    | none => rw [e] at h; cases h
    | some d => rw [e] at h; cases h; exact ⟨d, rfl, rfl⟩
  · rw [List.getElem?_append_right (by simpa using hi), List.getElem?_replicate] at h
    split at h <;> cases h
theorem start_get {N : List Str} {vs : List V} {i : Nat} {v : V} (h : vs[i]? = some v) : (L2.start N vs)[i]? = some (some v) := by
  unfold L2.start
  have hi := getElem?_lt h
  rw [List.getElem?_append_left (by simpa using hi), List.getElem?_map, h]; rfl
theorem SR.start {N : List Str} {vs : List V} {ds : List D} (lv : Live H O) (r : RepL K mg (cut H O) vs ds) (hN : vs.length ≤ N.length) : SR K mg (gx H [] O none) H O (L2.start N vs) (start0 N.length ds) where
  len := by unfold L2.start start0; simp [r.length]
  keep := fun a o h _ _ => h
  tab := fun _ z => absurd z (by simp)
  base := fun _ z => z
  own0 := fun _ z => .inl z
  live := lv
  slot := fun i s h => by
    obtain ⟨d, e, rfl⟩ := start0_get h
    obtain ⟨v, e1, r1⟩ := r.get e
    exact ⟨v, start_get e1, r1⟩
  inj := fun i j s t v h1 o1 _ _ _ _ => by
    obtain ⟨d, e, rfl⟩ := start0_get h1
    cases o1
  pin := fun p s hp => by cases hp
/-- a first slot that is owned -/
theorem SR.startO {N : List Str} {p : Addr} {vs : List V} {ds : List D} {s0 : Sl} (lv : Live H O) (hp : p ∈ O) (r : RepL K mg (cut H O) vs ds) (hN : vs.length + 1 ≤ N.length) (hs : s0.isOwn = true) (ok : SlOk K mg (gx H [p] (O.filter (· ≠ p)) (some p)) H O (.ref p) s0) :
    SR K mg (gx H [p] (O.filter (· ≠ p)) (some p)) H O (L2.start N (.ref p :: vs)) (some s0 :: start0 (N.length - 1) ds) where
  len := by unfold L2.start start0; simp [r.length]; omega
  keep := fun a o h _ _ => h
  tab := fun _ z => absurd z (by simp)
  base := fun q z => (List.mem_filter.mp z).1
  own0 := fun q z => by
    by_cases e : q = p
    · subst e; exact .inr (.inr (by simp))
    · exact .inl (List.mem_filter.mpr ⟨z, by simpa using e⟩)
  live := lv
  slot := fun i s h => by
    cases i with
    | zero => simp at h; subst h; exact ⟨.ref p, start_get rfl, ok⟩
    | succ i =>
      rw [List.getElem?_cons_succ] at h
      obtain ⟨d, e, rfl⟩ := start0_get h
      obtain ⟨v, e1, r1⟩ := r.get e
      exact ⟨v, start_get (by simpa using e1), r1⟩
  inj := fun i j s t v h1 o1 h2 o2 _ _ => by
    have z : ∀ {i : Nat} {s : Sl}, (some s0 :: start0 (N.length - 1) ds)[i]? = some (some s) → s.isOwn = true → i = 0 := fun {i s} h o => by
      cases i with
      | zero => rfl
      | succ i =>
        rw [List.getElem?_cons_succ] at h
        obtain ⟨d, e, rfl⟩ := start0_get h
        cases o
    rw [z h1 o1, z h2 o2]
  pin := fun q s hq h o => by cases hq; exact start_get rfl
end
section
variable {P : Program} {w : World} {K : PySem.W.Frag} {mg : Str → Option Value} {base : Heap}
variable {x qual : Str} {params : Arguments} {body : List Stmt} {scope : Scope} {dvs : List V} {kws : List (Str × V)} {f : Addr} {fd : FuncData} {N ps : List Str} {k : Nat} {m : M Fl}
/-- the context of a def's body -/
abbrev cxD (P : Program) (w : World) (K : PySem.W.Frag) (mg : Str → Option Value) (base : Heap) (N : List Str) (qual : Str) (scope : Scope) (f : Addr) (cdv : Value) (A : Around) (outer : List Env) (s : Shared) (H : Hp) (E : XK) : Cx := (cxOf CX0 P w K mg base N qual scope f cdv A outer s H E).nox
/-- a body's reading, wherever the def is called -/
abbrev BodyD (P : Program) (w : World) (K : PySem.W.Frag) (mg : Str → Option Value) (base : Heap) (N : List Str) (qual : Str) (scope : Scope) (f : Addr) (k : Nat) (body : List Stmt) (m : M Fl) : Prop :=
  ∀ (cdv : Value) (A : Around) (outer : List Env) (s : Shared) (H : Hp) (E : XK), Room k (cxD P w K mg base N qual scope f cdv A outer s H E).A → (cxD P w K mg base N qual scope f cdv A outer s H E).A.guards = some [] → ∀ G, DSs (cxD P w K mg base N qual scope f cdv A outer s H E) G body m
theorem fnD (F : FunD K x qual params body scope dvs kws f fd) (S : FnScope N ps scope) (hb : BodyD P w K mg base N qual scope f k body m) : FnG P w K mg base (k + 1) f fd ps (spD K mg ps.length (runD N.length m)) := by
  have hpl : ps.length ≤ N.length := by have := congrArg List.length S.pre; rw [List.length_take] at this; omega
  refine fnG_of F S (fun vs H Q E h => ?_) (fun cdv A outer s H vs Q E hr hg h => ?_)
  · obtain ⟨O, ds, d, h1, _⟩ := h; exact h1
  · obtain ⟨O, ds, d, h1, lv, r, e, q⟩ := h
    refine ⟨_, hb cdv A outer s H E hr hg (gx H [] O none), ?_⟩
    have R := SR.start (N := N) lv r (by omega)
    unfold runD at e
    cases e1 : m (start0 N.length ds) with
    | none => rw [e1] at e; cases e
    | some pr =>
      obtain ⟨fl, τ'⟩ := pr
      rw [e1] at e
      refine ⟨O, start0 N.length ds, fl, τ', R, e1, ?_⟩
      have fin : ∀ {v : V} {σ' : St} {H' : Hp} {O' : List Addr} {d : D}, SR K mg (gx H [] O none) H' O' σ' τ' → Rep K mg (cut H' O') v d → (∀ v H', Grow H H' → Rep K mg (cut H' O) v d → Q v H') → Q v H' := fun {v σ' H' O' d} R' r' q' =>
        q' v H' (fun a o h => R'.keep a o h (by simp) (.inl rfl)) (Rep.grow (Grow.less R'.base).w r')
      cases fl with
      | nx => cases e; exact fun σ' H' O' l R' => fin R' .non q
      | rt d' => cases e; exact fun v σ' H' O' l R' r' => fin R' r' q
      | rf d' => cases e; exact fun p xs σ' H' O' l hp R' r' => fin (R'.grow (Grow.new hp)) (new_list R'.live hp r') q
      | bk => cases e
      | ct => cases e
      | xc c ds => cases e
theorem fnF (F : FunD K x qual params body scope dvs kws f fd) (S : FnScope N ps scope) (hb : BodyD P w K mg base N qual scope f k body m) : FnG P w K mg base (k + 1) f fd ps (spF K mg ps.length (runF N.length m)) := by
  have hpl : ps.length ≤ N.length := by have := congrArg List.length S.pre; rw [List.length_take] at this; omega
  refine fnG_of F S (fun vs H Q E h => ?_) (fun cdv A outer s H vs Q E hr hg h => ?_)
  · obtain ⟨O, ds, d, h1, _⟩ := h; exact h1
  · obtain ⟨O, ds, d, h1, lv, r, e, q⟩ := h
    refine ⟨_, hb cdv A outer s H E hr hg (gx H [] O none), ?_⟩
    have R := SR.start (N := N) lv r (by omega)
    unfold runF at e
    cases e1 : m (start0 N.length ds) with
    | none => rw [e1] at e; cases e
    | some pr =>
      obtain ⟨fl, τ'⟩ := pr
      rw [e1] at e
      refine ⟨O, start0 N.length ds, fl, τ', R, e1, ?_⟩
      cases fl with
      | rf l => cases e; exact fun p xs σ' H' O' _ hp R' r' => q p xs H' (fun a o h => R'.keep a o h (by simp) (.inl rfl)) hp (RepL.grow (Grow.less R'.base).w r')
      | _ => cases e
theorem fnW (F : FunD K x qual params body scope dvs kws f fd) (S : FnScope N ps scope) (hb : BodyD P w K mg base N qual scope f k body m) : FnG P w K mg base (k + 1) f fd ps (spW K mg ps.length (runW N.length m)) := by
  have hpl : ps.length ≤ N.length := by have := congrArg List.length S.pre; rw [List.length_take] at this; omega
  refine fnG_of F S (fun vs H Q E h => ?_) (fun cdv A outer s H vs Q E hr hg h => ?_)
  · obtain ⟨O, p, xs, vs', l, ds, d, l', _, h1, _⟩ := h; exact h1
  · obtain ⟨O, p, xs, vs', l, ds, d, l', rfl, h1, lv, hpO, hp, rx, r, e, q⟩ := h
    refine ⟨_, hb cdv A outer s H E hr hg (gx H [p] (O.filter (· ≠ p)) (some p)), ?_⟩
    have R := SR.startO (N := N) (s0 := .own l) lv hpO r (by simp at h1; omega) rfl ⟨p, xs, rfl, hpO, fun z => by simpa using (List.mem_filter.mp z).2, .inr (by simp), hp, rx⟩
    unfold runW at e
    cases e1 : m (some (.own l) :: start0 (N.length - 1) ds) with
    | none => rw [e1] at e; cases e
    | some pr =>
      obtain ⟨fl, τ'⟩ := pr
      rw [e1] at e
      refine ⟨O, _, fl, τ', R, e1, ?_⟩
      have fin : ∀ {v : V} {σ' : St} {H' : Hp} {O' : List Addr} {d' : D}, SR K mg (gx H [p] (O.filter (· ≠ p)) (some p)) H' O' σ' τ' → Rep K mg (cut H' O') v d' → (ownOf 0 τ').map (fun l => (d', l)) = some (d, l') → Q v H' := fun {v σ' H' O' d'} R' r' eo => by
        cases e2 : ownOf 0 τ' with
        | none => rw [e2] at eo; cases eo
        | some l2 =>
          rw [e2] at eo; cases eo
          obtain ⟨p', xs', ep, hO', hp', rx'⟩ := R'.ownAt (ownOf_some e2)
          have e0 := R'.pin p _ rfl (ownOf_some e2) rfl
          rw [ep] at e0; cases e0
          have sub : ∀ a ∈ O, a ∈ O' := fun a z => by
            by_cases ea : a = p
            · subst ea; exact hO'
            · exact R'.base a (List.mem_filter.mpr ⟨z, by simpa using ea⟩)
          exact q v H' xs' (fun a o na h => R'.keep a o h (by simpa using na) (.inl rfl)) hp' (RepL.grow (Grow.less sub).w rx') (Rep.grow (Grow.less sub).w r')
      cases fl with
      | nx => exact fun σ' H' O' _ R' => fin R' .non e
      | rt d' => exact fun v σ' H' O' _ R' r' => fin R' r' e
      | rf d' => exact fun p xs σ' H' O' _ hp R' r' => fin (R'.grow (Grow.new hp)) (new_list R'.live hp r') e
      | bk => cases e
      | ct => cases e
      | xc c ds => cases e
theorem fnI {c : Nat} (F : FunD K x qual params body scope dvs kws f fd) (S : FnScope N ps scope) (hb : BodyD P w K mg base N qual scope f k body m) : FnG P w K mg base (k + 1) f fd ps (spI K mg ps.length c (runI N.length c m)) := by
  have hpl : ps.length ≤ N.length := by have := congrArg List.length S.pre; rw [List.length_take] at this; omega
  refine fnG_of F S (fun vs H Q E h => ?_) (fun cdv A outer s H vs Q E hr hg h => ?_)
  · obtain ⟨O, p, C, dx, vs', ds, fs, _, h1, _⟩ := h; exact h1
  · obtain ⟨O, p, C, dx, vs', ds, fs, rfl, h1, lv, hpO, hC, hp, r, e, q⟩ := h
    refine ⟨_, hb cdv A outer s H E hr hg (gx H [p] (O.filter (· ≠ p)) (some p)), ?_⟩
    have R := SR.startO (N := N) (s0 := .ob c [] []) lv hpO r (by simp at h1; omega) rfl ⟨p, C, dx, [], rfl, hpO, fun z => by simpa using (List.mem_filter.mp z).2, .inr (by simp), hC, hp, rfl, .nil⟩
    unfold runI at e
    cases e1 : m (some (.ob c [] []) :: start0 (N.length - 1) ds) with
    | none => rw [e1] at e; cases e
    | some pr =>
      obtain ⟨fl, τ'⟩ := pr
      rw [e1] at e
      refine ⟨O, _, fl, τ', R, e1, ?_⟩
      have fin : ∀ {σ' : St} {H' : Hp} {O' : List Addr}, Le H O H' O' → SR K mg (gx H [p] (O.filter (· ≠ p)) (some p)) H' O' σ' τ' → obOf c τ' = some fs → Q .non H' := fun {σ' H' O'} le R' eo => by
        unfold obOf at eo
        split at eo
        · rename_i c' ns' ds' e2
          split at eo
          case isFalse => cases eo
          rename_i ec
          cases eo
          obtain ⟨v, ev, p', C', dx', xs', rfl, hO', k2, k3, k4, k5, k6, k7⟩ := R'.slot 0 _ e2
          have e0 := R'.pin p _ rfl e2 rfl
          rw [ev] at e0; cases e0
          have sub : ∀ a ∈ O, a ∈ O' := fun a z => by
            by_cases ea : a = p
            · subst ea; exact hO'
            · exact R'.base a (List.mem_filter.mpr ⟨z, by simpa using ea⟩)
          obtain ⟨ec, en⟩ := ec
          subst en
          rw [ec, hC] at k4
          cases k4
          exact q H' dx' xs' (fun a o na h => R'.keep a o h (by simpa using na) (.inl rfl)) k5 k6 (RepL.grow (Grow.less sub).w k7)
        · cases eo
      cases fl with
      | nx => exact fun σ' H' O' le R' => fin le R' e
      | rt d' =>
        intro v σ' H' O' le R' r'
        cases d' with
        | non => cases r'; exact fin le R' e
        | _ => cases e
      | rf d' => cases e
      | bk => cases e
      | ct => cases e
      | xc c ds => cases e
end
end Dv
set_option Elab.async false
set_option linter.all false
set_option maxRecDepth 100000
set_option maxHeartbeats 4000000
/-! DV8: calls of defs, of classes, of methods; properties -/
namespace Dv
open PySem L2
/-- how a call's values come to the parameters, of values and of data -/
structure KB (K : PySem.W.Frag) (mg : Str → Option Value) (fd : FuncData) (ps : List Str) (n : Nat) (ks : List Str) (gD : List D → List D → List D) : Prop where
  b : ∃ g gV, KBn K fd ps n ks g gV ∧ ∀ H vs zs ds es, RepL K mg H vs ds → RepL K mg H zs es → vs.length = n → zs.length = ks.length → RepL K mg H (gV vs zs) (gD ds es) ∧ (gV vs zs).length = ps.length
/-- every parameter is written, by place -/
theorem KB.all {K : PySem.W.Frag} {mg : Str → Option Value} {fd : FuncData} {ps : List Str} (h : Binds K fd ps []) : KB K mg fd ps ps.length [] fun ds _ => ds :=
  ⟨⟨fun us _ => us, fun vs _ => vs, ⟨fun s us ws X l1 l2 => by
    have := h s us X (by simpa using l1)
    simpa using this, fun r _ => r⟩, fun H vs zs ds es r _ h1 _ => ⟨r, h1⟩⟩⟩
section
variable {X : Cx} {k n : Nat} {f C : Addr} {fd : FuncData} {ps ks : List Str} {sp : Sp}
theorem run_G {pins : List (Addr × Obj)} {σ : St} {H : Hp} {s : Shared} {Q : VK} {us ws : List Value} {vs zs : List V} {g : List Value → List Value → List Value} {gV : List V → List V → List V} (F : FnG X.prog X.w X.K X.mg X.base k f fd ps sp) (hr : Room k X.A) (hgd : X.A.guards = some [])
    (hb : KBn X.K fd ps n ks g gV) (I : Inv X pins σ H s) (r : Vals vs us) (rz : Vals zs ws) (l1 : vs.length = n) (l2 : zs.length = ks.length) (h : sp (gV vs zs) H Q E0) : wpAny (model X.prog X.w) X.A (call (.ref f) us (ks.zip ws)) (EP X pins σ Q) X.xe s := by
  have r2 := hb.rel r rz
  refine wpAny_call (codeAny_mono (F.run X.A X.stack s H ⟨us, ks.zip ws⟩ (g us ws) (gV vs zs) Q E0 hr hgd I.env0 (hb.to s us ws I.kIn (r.length.symm.trans l1) (rz.length.symm.trans l2)) r2 h) ?_)
  intro res s' hq
  match res, hq with
  | .ok (.ret u), hq => exact I.after hq
/-- the same where a new instance is made -/
theorem run_mkG {pins : List (Addr × Obj)} {σ : St} {H : Hp} {s : Shared} {Q : VK} {us ws : List Value} {vs zs : List V} {g : List Value → List Value → List Value} {gV : List V → List V → List V} (Mc : Mk X.K C f) (F : FnG X.prog X.w X.K X.mg X.base k f fd ps sp) (hr : Room (k + 1) X.A) (hgd : X.A.guards = some [])
    (hb : KBn X.K fd ps (n + 1) ks g gV) (I : Inv X pins σ H s) (r : Vals vs us) (rz : Vals zs ws) (l1 : vs.length = n) (l2 : zs.length = ks.length)
    (h : ∀ x dx, H x = none → H dx = none → dx ≠ x → sp (gV (.ref x :: vs) zs) (upd (upd H dx (.own x)) x (.ins C dx [])) (fun v H2 => v = .non ∧ Q (.ref x) H2) E0) :
    wpAny (model X.prog X.w) X.A (call (.ref C) us (ks.zip ws)) (EP X pins σ Q) X.xe s := by
  have nx : s.heap.objs.size ≠ s.heap.objs.size + 1 := Nat.ne_of_lt (Nat.lt_succ_self _)
  have hq := h (s.heap.objs.size + 1) s.heap.objs.size (I.hok.fresh (Nat.le_succ _)) (I.hok.fresh (Nat.le_refl _)) nx
  have J := Inv.made (C := C) I
  have n1 : (Value.ref (s.heap.objs.size + 1) :: us).length = n + 1 := by simp [← r.length, l1]
  have r1 : Vals (V.ref (s.heap.objs.size + 1) :: vs) (Value.ref (s.heap.objs.size + 1) :: us) := .cons rfl r
  have gd : (X.A.under (.builtin "type.__call__" ⟨.ref C :: us, ks.zip ws⟩)).guards = some [] := by
    simp [Around.under, pushGuards, Code.guards, Code.isGuard, guardIds, hgd]
  refine wpAny_call (make_map (f := f) I.kIn Mc.makes Mc.init (beq_iff_eq.mp Mc.fn) (codeAny_mono (F.run _ X.stack _ _ ⟨_ :: us, ks.zip ws⟩ (g (_ :: us) ws) _ _ E0 (hr.make C us (ks.zip ws)) gd (J.env0.make C us (ks.zip ws)) (hb.to _ _ ws J.kIn n1 (rz.length.symm.trans l2)) (hb.rel r1 rz) hq) ?_))
  intro res s' hq'
  match res, hq' with
  | .ok (.ret u), hq' =>
    obtain ⟨v, H', I3, rv, ev, q3⟩ := J.after hq'
    subst ev
    exact ⟨rv, ⟨V.ref (s.heap.objs.size + 1), H', I3, rfl, q3⟩⟩
end
/-- the keywords' values as data -/
def DK (X : Cx) (G : Gx) (kws : List Keyword) (f : M (List D)) : Prop := PK X kws (tDA X.K X.mg G f)
section
variable {X : Cx} {G : Gx}
theorem pk_imp {kws : List Keyword} {t t' : TA} (h : PK X kws t) (i : ∀ σ H Q, t' σ H Q → t σ H Q) : PK X kws t' := ⟨fun pos pins s σ H Q I q => h.run pos pins s σ H Q I (i σ H Q q)⟩
theorem dk_nil : DK X G [] aNil := pk_imp pk_nil fun σ H Q q => by
  obtain ⟨O, τ, z, τ', R, e, q⟩ := q
  cases e
  exact q [] H O (Le.refl _ _) R .nil
theorem dk_cons {nm : Option Str} {e : Expr} {kpos : Pos} {kws : List Keyword} {fa : M D} {fr : M (List D)} (ha : DE X G e fa) (hr : DK X G kws fr) : DK X G (⟨nm, e, kpos⟩ :: kws) (aCons fa fr) := pk_imp (pk_cons ha hr) fun σ H Q q => by
  obtain ⟨O, τ, z, τ', R, e, q⟩ := q
  obtain ⟨a, r, τ1, e1, e2, rfl⟩ := aCons_some e
  refine ⟨O, τ, a, τ1, R, e1, fun x H1 O1 l1 R1 r1 => ?_⟩
  refine ⟨O1, τ1, r, τ', R1, e2, fun xs H2 O2 l2 R2 r2 => ?_⟩
  exact q (x :: xs) H2 O2 (l1.trans l2) R2 (.cons (Rep.grow l2 r1) r2)

/-! ### f(a, .., k = b, ..) -/
def mFn {α : Type} (n m : Nat) (gD : List D → List D → List D) (F : List D → Option α) (fa fk : M (List D)) : M α := mBind fa fun ds => mBind fk fun es => mLift (if ds.length = n ∧ es.length = m then F (gD ds es) else none)
theorem mFn_some {α : Type} {n m : Nat} {gD : List D → List D → List D} {F : List D → Option α} {fa fk : M (List D)} {τ τ' : Sd} {d : α} (h : mFn n m gD F fa fk τ = some (d, τ')) : ∃ ds es τ1, fa τ = some (ds, τ1) ∧ fk τ1 = some (es, τ') ∧ ds.length = n ∧ es.length = m ∧ F (gD ds es) = some d := by
  obtain ⟨ds, τ1, e1, e⟩ := mBind_some h
  obtain ⟨es, e2, e3⟩ := mL_some (f := fk) e
  split at e3
  · rename_i hl
    exact ⟨ds, es, τ1, e1, e2, hl.1, hl.2, e3⟩
  · cases e3
section
variable {k n : Nat} {f C : Addr} {fd : FuncData} {ps ks : List Str} {x : Str} {p pos : Pos} {e : Expr} {es : List Expr} {kws : List Keyword} {fa fk : M (List D)} {gD : List D → List D → List D} {nn : Nat}
/-- the promise's side of a call -/
theorem call_D {F : List D → Option D} {gV : List V → List V → List V} {σ : St} {H2 : Hp} {O2 : List Addr} {τ' : Sd} {vs zs : List V} {ds es : List D} {d : D} {Q : VK} {H : Hp} {O : List Addr} (hn : (gV vs zs).length = nn) (hrep : RepL X.K X.mg (cut H2 O2) (gV vs zs) (gD ds es)) (l : Le H O H2 O2) (R2 : SR X.K X.mg G H2 O2 σ τ') (e3 : F (gD ds es) = some d)
    (q : ∀ v H' O', Le H O H' O' → SR X.K X.mg G H' O' σ τ' → Rep X.K X.mg (cut H' O') v d → Q v H') : spD X.K X.mg nn F (gV vs zs) H2 Q E0 :=
  ⟨O2, gD ds es, d, hn, R2.live, hrep, e3, fun v H' g r => q v H' O2 (l.trans (Le.grow g)) (R2.grow g) r⟩
theorem de_call {F : List D → Option D} (Fn : FnG X.prog X.w X.K X.mg X.base k f fd ps (spD X.K X.mg ps.length F)) (hr : Room k X.A) (hgd : X.A.guards = some []) (hg : Gl X x) (hm : X.mg x = some (.ref f)) (hk : PySem.W.keepIn X.K (.ref f) = true) (hb : KB X.K X.mg fd ps n ks gD)
    (ha : DA X G (e :: es) fa) (hkw : DK X G kws fk) (hall : (backToKw pos (keywordEach kws X.env)).all (·.1.isSome) = true := by rfl) (hks : (backToKw pos (keywordEach kws X.env)).filterMap (·.1) = ks := by rfl)
    (hdb : (x == ("__debug__" : Str)) = false := by decide) (he : starEach (e :: es) X.env = (false, eval e X.env) :: starEach es X.env := by rfl)
    (hpl : ((backTo pos (starEach (e :: es) X.env)).any (·.1) || (backToKw pos (keywordEach kws X.env)).any (·.1.isNone)) = false := by rfl) :
    DE X G (.Call (.Name x p) (e :: es) kws pos) (mFn n ks.length gD F fa fk) := ⟨fun pins s σ H Q I q => by
  obtain ⟨O, τ, d, τ', R, e1, q⟩ := q
  obtain ⟨ds, es', τ1, e2, e3, n1, n2, e4⟩ := mFn_some e1
  obtain ⟨g, gV, kb, rep⟩ := hb.b
  refine wpAny_Call_Name_kw (ld_glob I hg hm ?_ hdb)
  refine PySem.W.callWith_KW (h₀ := X.base) I.ok.mod.kin hk hall (thn (ha.run pos pins s σ H (fun vs H1 => ∃ O1, Le H O H1 O1 ∧ SR X.K X.mg G H1 O1 σ τ1 ∧ RepL X.K X.mg (cut H1 O1) vs ds) I ⟨O, τ, ds, τ1, R, e2, fun vs H1 O1 l1 R1 r1 => ⟨O1, l1, R1, r1⟩⟩) ?_) hpl he
  rintro us s1 ⟨vs, H1, I1, r, O1, l1, R1, r1⟩
  refine thn (hkw.run pos pins s1 σ H1 (fun zs H2 => ∃ O2, Le H1 O1 H2 O2 ∧ SR X.K X.mg G H2 O2 σ τ' ∧ RepL X.K X.mg (cut H2 O2) zs es') I1 ⟨O1, τ1, es', τ', R1, e3, fun zs H2 O2 l2 R2 r2 => ⟨O2, l2, R2, r2⟩⟩) ?_
  rintro ws s2 ⟨zs, H2, I2, rz, O2, l2, R2, r2⟩
  refine ⟨I2.kIn, ?_⟩
  rw [hks]
  have m1 : vs.length = n := r1.length.trans n1
  have m2 : zs.length = ks.length := r2.length.trans n2
  obtain ⟨rg, hl⟩ := rep _ vs zs ds es' (RepL.grow l2 r1) r2 m1 m2
  exact run_G Fn hr hgd kb I2 r rz m1 m2 (call_D (gV := gV) (gD := gD) hl rg (l1.trans l2) R2 e4 q)⟩
theorem df_callF {F : List D → Option (List D)} (Fn : FnG X.prog X.w X.K X.mg X.base k f fd ps (spF X.K X.mg ps.length F)) (hr : Room k X.A) (hgd : X.A.guards = some []) (hg : Gl X x) (hm : X.mg x = some (.ref f)) (hk : PySem.W.keepIn X.K (.ref f) = true) (hb : KB X.K X.mg fd ps n ks gD)
    (ha : DA X G (e :: es) fa) (hkw : DK X G kws fk) (hall : (backToKw pos (keywordEach kws X.env)).all (·.1.isSome) = true := by rfl) (hks : (backToKw pos (keywordEach kws X.env)).filterMap (·.1) = ks := by rfl)
    (hdb : (x == ("__debug__" : Str)) = false := by decide) (he : starEach (e :: es) X.env = (false, eval e X.env) :: starEach es X.env := by rfl)
    (hpl : ((backTo pos (starEach (e :: es) X.env)).any (·.1) || (backToKw pos (keywordEach kws X.env)).any (·.1.isNone)) = false := by rfl) :
    DF X G (.Call (.Name x p) (e :: es) kws pos) (mFn n ks.length gD F fa fk) := ⟨fun pins s σ H Q I q => by
  obtain ⟨O, τ, d, τ', R, e1, q⟩ := q
  obtain ⟨ds, es', τ1, e2, e3, n1, n2, e4⟩ := mFn_some e1
  obtain ⟨g, gV, kb, rep⟩ := hb.b
  refine wpAny_Call_Name_kw (ld_glob I hg hm ?_ hdb)
  refine PySem.W.callWith_KW (h₀ := X.base) I.ok.mod.kin hk hall (thn (ha.run pos pins s σ H (fun vs H1 => ∃ O1, Le H O H1 O1 ∧ SR X.K X.mg G H1 O1 σ τ1 ∧ RepL X.K X.mg (cut H1 O1) vs ds) I ⟨O, τ, ds, τ1, R, e2, fun vs H1 O1 l1 R1 r1 => ⟨O1, l1, R1, r1⟩⟩) ?_) hpl he
  rintro us s1 ⟨vs, H1, I1, r, O1, l1, R1, r1⟩
  refine thn (hkw.run pos pins s1 σ H1 (fun zs H2 => ∃ O2, Le H1 O1 H2 O2 ∧ SR X.K X.mg G H2 O2 σ τ' ∧ RepL X.K X.mg (cut H2 O2) zs es') I1 ⟨O1, τ1, es', τ', R1, e3, fun zs H2 O2 l2 R2 r2 => ⟨O2, l2, R2, r2⟩⟩) ?_
  rintro ws s2 ⟨zs, H2, I2, rz, O2, l2, R2, r2⟩
  refine ⟨I2.kIn, ?_⟩
  rw [hks]
  have m1 : vs.length = n := r1.length.trans n1
  have m2 : zs.length = ks.length := r2.length.trans n2
  obtain ⟨rg, hl⟩ := rep _ vs zs ds es' (RepL.grow l2 r1) r2 m1 m2
  exact run_G Fn hr hgd kb I2 r rz m1 m2 ⟨O2, gD ds es', d, hl, R2.live, rg, e4, fun pp xs H3 g3 hp r3 => q pp xs H3 O2 hp ((l1.trans l2).trans (Le.grow g3)) (R2.grow g3) r3⟩⟩

/-! ### f(xs, ..) that writes the list xs of one's own -/
def mFnW (i n : Nat) (F : List D → List D → Option (D × List D)) (fa : M (List D)) : M D := fun τ0 => match ownOf i τ0 with
  | none => none
  | some _ => match fa τ0 with
    | none => none
    | some (ds, τ1) => match ownOf i τ1 with
      | none => none
      | some l => if ds.length + 1 = n then (match F l ds with
        | none => none
        | some (d, l') => some (d, τ1.set i (some (.own l')))) else none
theorem mFnW_some {i n : Nat} {F : List D → List D → Option (D × List D)} {fa : M (List D)} {τ τ' : Sd} {d : D} (h : mFnW i n F fa τ = some (d, τ')) : ∃ l0 ds τ1 l l', τ[i]? = some (some (.own l0)) ∧ fa τ = some (ds, τ1) ∧ τ1[i]? = some (some (.own l)) ∧ ds.length + 1 = n ∧ F l ds = some (d, l') ∧ τ' = τ1.set i (some (.own l')) := by
  unfold mFnW at h
  split at h
  · cases h
  · rename_i l0 e0
    split at h
    · cases h
    · rename_i ds τ1 e1
      split at h
      · cases h
      · rename_i l e2
        split at h
        · rename_i hl
          split at h
          · cases h
          · rename_i d' l' e3
            cases h
            exact ⟨l0, ds, τ1, l, l', ownOf_some e0, e1, ownOf_some e2, hl, e3, rfl⟩
        · cases h
/-- behind a call that wrote the list at p -/
theorem SR.wrote {K : PySem.W.Frag} {mg : Str → Option Value} {H H' : Hp} {O : List Addr} {σ : St} {τ : Sd} {i : Nat} {p : Addr} {l l' : List D} {xs xs' : List V} (R : SR K mg G H O σ τ) (e : τ[i]? = some (some (.own l))) (ev : σ[i]? = some (some (.ref p))) (hp : H p = some (.lst xs)) (hO : p ∈ O)
    (kp : ∀ a o, a ≠ p → H a = some o → H' a = some o) (hp' : H' p = some (.lst xs')) (r : RepL K mg (cut H' O) xs' l') : SR K mg G H' O σ (τ.set i (some (.own l'))) ∧ Le H O H' O := by
  have gw : Grow (upd H p (.lst xs')) H' := fun a o h => by
    by_cases ea : a = p
    · subst ea; rw [upd_same] at h; cases h; exact hp'
    · rw [upd_ne ea] at h; exact kp a o ea h
  have le : Le H O H' O := fun a o h _ => by
    obtain ⟨n, e'⟩ := cut_some h
    exact cut_of n (kp a o (fun q => n (q ▸ hO)) e')
  obtain ⟨R1, l1⟩ := R.write (l' := l) (xs' := xs) e ev hp hO (by
    obtain ⟨v, ev', p', ys, rfl, h1, h2, h3, h4, h5⟩ := R.slot i _ e
    rw [ev] at ev'; cases ev'
    rw [hp] at h4; cases h4
    exact h5)
  obtain ⟨v, ev', p', ys, rfl, h1, h2, h3, h4, h5⟩ := R.slot i _ e
  rw [ev] at ev'; cases ev'
  refine ⟨⟨by simp [R.len], fun a o h n t => ?_, (tabs_write (o' := .lst xs') R.tab hp (.inl ⟨_, rfl⟩)).ext gw, R.base, R.own0, fun q z => ?_, fun j s h => ?_, fun j k s t w h1' o1 h2' o2 e1 e2 => ?_, fun q s hq h o => ?_⟩, le⟩
  · have : a ≠ p := fun q => by
      subst q
      rcases h3 with z | z
      · exact z.ne h t
      · exact n z
    exact kp a o this (R.keep a o h n t)
  · by_cases eq : q = p
    · subst eq; exact .inl ⟨xs', hp'⟩
    · rcases R.live q z with ⟨ys, e'⟩ | ⟨C, dx, fs, e'⟩
      · exact .inl ⟨ys, kp _ _ eq e'⟩
      · exact .inr ⟨C, dx, fs, kp _ _ eq e'⟩
  · by_cases ej : i = j
    · subst ej
      rw [List.getElem?_set_self (getElem?_lt e)] at h
      cases h
      exact ⟨_, ev, p, xs', rfl, hO, h2, h3, hp', r⟩
    · rw [List.getElem?_set_ne ej] at h
      obtain ⟨w, ew, ok⟩ := R.slot j s h
      refine ⟨w, ew, ?_⟩
      cases s with
      | val d => exact Rep.grow le ok
      | own l'' =>
        obtain ⟨q, ys', rfl, k1, k2, k3, k4, k5⟩ := ok
        have nq : q ≠ p := fun eq => by subst eq; exact ej (R.inj i j _ _ _ e rfl h rfl ev ew)
        exact ⟨q, ys', rfl, k1, k2, k3, kp _ _ nq k4, RepL.grow le k5⟩
      | ob c ns ds =>
        obtain ⟨q, C, dx, ys', rfl, k1, k2, k3, k4, k5, k6, k7⟩ := ok
        have nq : q ≠ p := fun eq => by subst eq; exact ej (R.inj i j _ _ _ e rfl h rfl ev ew)
        exact ⟨q, C, dx, ys', rfl, k1, k2, k3, k4, kp _ _ nq k5, k6, RepL.grow le k7⟩
  · have at_ : ∀ {j : Nat} {s : Sl}, (τ.set i (some (Sl.own l')))[j]? = some (some s) → s.isOwn = true → ∃ s', τ[j]? = some (some s') ∧ s'.isOwn = true := fun {j s} h o => by
      by_cases q : i = j
      · subst q; exact ⟨_, e, rfl⟩
      · rw [List.getElem?_set_ne q] at h; exact ⟨s, h, o⟩
    obtain ⟨s', a1, a2⟩ := at_ h1' o1
    obtain ⟨t', b1, b2⟩ := at_ h2' o2
    exact R.inj j k s' t' w a1 a2 b1 b2 e1 e2
  · by_cases ei : i = 0
    · subst ei
      exact R.pin q _ hq e rfl
    · rw [List.getElem?_set_ne ei] at h
      exact R.pin q s hq h o
theorem de_callW {F : List D → List D → Option (D × List D)} {o : Expr} (i : Nat) (ho : PE X o (tVar i)) (Fn : FnG X.prog X.w X.K X.mg X.base k f fd ps (spW X.K X.mg ps.length F)) (hr : Room k X.A) (hgd : X.A.guards = some []) (hg : Gl X x) (hm : X.mg x = some (.ref f)) (hk : PySem.W.keepIn X.K (.ref f) = true) (hb : Binds X.K fd ps [])
    (ha : DA X G es fa) (hdb : (x == ("__debug__" : Str)) = false := by decide) (hst : starEach (o :: es) X.env = (false, eval o X.env) :: starEach es X.env := by rfl) (hpl : (backTo pos (starEach es X.env)).any (·.1) = false := by rfl) :
    DE X G (.Call (.Name x p) (o :: es) [] pos) (mFnW i ps.length F fa) := ⟨fun pins s σ H Q I q => by
  obtain ⟨O, τ, d, τ', R, e1, q⟩ := q
  obtain ⟨l0, ds, τ1, l, l', e2, e3, e4, n1, e5, rfl⟩ := mFnW_some e1
  obtain ⟨p0, xs0, ep0, _⟩ := R.ownAt e2
  have A1 := pa_cons ho ha hst
  refine wpAny_Call_Name_kw (ld_glob I hg hm ?_ hdb)
  refine PySem.W.callWith_K (h₀ := X.base) I.ok.mod.kin hk (thn (A1.run pos pins s σ H (fun vs H1 => ∃ vs' O1, vs = .ref p0 :: vs' ∧ Le H O H1 O1 ∧ SR X.K X.mg G H1 O1 σ τ1 ∧ RepL X.K X.mg (cut H1 O1) vs' ds) I ⟨.ref p0, ep0, O, τ, ds, τ1, R, e3, fun vs H1 O1 l1 R1 r1 => ⟨vs, O1, rfl, l1, R1, r1⟩⟩) ?_) hst hpl
  rintro us s1 ⟨vs, H1, I1, r, vs', O1, rfl, l1, R1, r1⟩
  refine ⟨I1.kIn, ?_⟩
  obtain ⟨p1, xs1, ep1, hO1, hp1, rx1⟩ := R1.ownAt e4
  rw [ep0] at ep1; cases ep1
  have hl : us.length = ps.length := by rw [← r.length, ← n1]; simp [r1.length]
  refine wpAny_call (codeAny_mono (Fn.run X.A X.stack s1 H1 ⟨us, []⟩ us (.ref p0 :: vs') Q E0 hr hgd I1.env0 (by have := hb s1 us I1.kIn (by simpa using hl); simpa using this) r ?_) ?_)
  · refine ⟨O1, p0, xs1, vs', l, ds, d, l', rfl, by simp [r1.length, n1], R1.live, hO1, hp1, rx1, r1, e5, fun v H' xs' kp hp' rx' rv => ?_⟩
    obtain ⟨R2, l2⟩ := R1.wrote e4 ep0 hp1 hO1 kp hp' rx'
    exact q v H' O1 (l1.trans l2) R2 rv
  · intro res s' hq
    match res, hq with
    | .ok (.ret u), hq => exact I1.after hq⟩

/-! ### C(a, .., k = b, ..): a new instance -/
def mMk (c n m : Nat) (gD : List D → List D → List D) (F : List D → Option (List D)) (fa fk : M (List D)) : M D := mBind (mFn n m gD F fa fk) fun ds => mPure (.obj c ds)
/-- how the values behind self come to the parameters -/
structure KI (K : PySem.W.Frag) (mg : Str → Option Value) (fd : FuncData) (ps : List Str) (n : Nat) (ks : List Str) (gD : List D → List D → List D) : Prop where
  b : ∃ (g : List Value → List Value → List Value) (gV gW : List V → List V → List V), KBn K fd ps (n + 1) ks g gV ∧ ∀ H x vs zs ds es, RepL K mg H vs ds → RepL K mg H zs es → vs.length = n → zs.length = ks.length → gV (x :: vs) zs = x :: gW vs zs ∧ RepL K mg H (gW vs zs) (gD ds es) ∧ (gW vs zs).length + 1 = ps.length
theorem mk_side {c : Nat} {F : List D → Option (List D)} {σ : St} {H2 : Hp} {O2 : List Addr} {τ' : Sd} {ws : List V} {ds fs : List D} {Q : VK} {H : Hp} {O : List Addr} (hC : X.mg (clsName c) = some (.ref C)) (hn : ws.length + 1 = nn) (rw_ : RepL X.K X.mg (cut H2 O2) ws ds) (l : Le H O H2 O2) (R2 : SR X.K X.mg G H2 O2 σ τ') (e3 : F ds = some fs)
    (q : ∀ v H' O', Le H O H' O' → SR X.K X.mg G H' O' σ τ' → Rep X.K X.mg (cut H' O') v (.obj c fs) → Q v H') (x dx : Addr) (hx : H2 x = none) (hdx : H2 dx = none) (nx : dx ≠ x) :
    spI X.K X.mg nn c F (.ref x :: ws) (upd (upd H2 dx (.own x)) x (.ins C dx [])) (fun v H3 => v = .non ∧ Q (.ref x) H3) E0 := by
  have hx1 : upd H2 dx (.own x) x = none := by rw [upd_ne (Ne.symm nx)]; exact hx
  have g2 : Grow H2 (upd (upd H2 dx (.own x)) x (.ins C dx [])) := (Grow.new hdx).trans (Grow.new hx1)
  have gc : Grow (cut H2 O2) (cut (upd (upd H2 dx (.own x)) x (.ins C dx [])) (x :: O2)) := fun a o h => by
    obtain ⟨n1, e1⟩ := cut_some h
    have na : a ≠ x := ne_of_none e1 hx
    exact cut_of (by simp [na, n1]) (g2 _ _ e1)
  refine ⟨x :: O2, x, C, dx, ws, ds, fs, rfl, by simpa using hn, ?_, List.mem_cons_self, hC, upd_same, RepL.grow gc rw_, e3, fun H' dx' xs' kp hp hl rx => ⟨rfl, ?_⟩⟩
  · intro a z
    rcases List.mem_cons.mp z with z | z
    · subst z; exact .inr ⟨C, dx, [], upd_same⟩
    · exact R2.live.grow g2 a z
  · have g3 : Grow H2 H' := fun a o h => kp a o (ne_of_none h hx) (g2 _ _ h)
    have nO : x ∉ O2 := R2.live.ne hx
    refine q (.ref x) H' O2 (l.trans (Le.grow g3)) (R2.grow g3) (.obj hC (cut_of nO hp) hl (RepL.grow (Grow.less fun a z => List.mem_cons_of_mem _ z).w rx))
theorem de_mk {c : Nat} {F : List D → Option (List D)} (Mc : Mk X.K C f) (Fn : FnG X.prog X.w X.K X.mg X.base k f fd ps (spI X.K X.mg ps.length c F)) (hr : Room (k + 1) X.A) (hgd : X.A.guards = some []) (hg : Gl X (clsName c)) (hm : X.mg (clsName c) = some (.ref C)) (hb : KI X.K X.mg fd ps n ks gD)
    (hx : x = clsName c) (ha : DA X G (e :: es) fa) (hkw : DK X G kws fk) (hall : (backToKw pos (keywordEach kws X.env)).all (·.1.isSome) = true := by rfl) (hks : (backToKw pos (keywordEach kws X.env)).filterMap (·.1) = ks := by rfl)
    (hdb : (x == ("__debug__" : Str)) = false := by decide) (he : starEach (e :: es) X.env = (false, eval e X.env) :: starEach es X.env := by rfl)
    (hpl : ((backTo pos (starEach (e :: es) X.env)).any (·.1) || (backToKw pos (keywordEach kws X.env)).any (·.1.isNone)) = false := by rfl) :
    DE X G (.Call (.Name x p) (e :: es) kws pos) (mMk c n ks.length gD F fa fk) := ⟨fun pins s σ H Q I q => by
  subst hx
  obtain ⟨O, τ, d, τ', R, e1, q⟩ := q
  obtain ⟨fs, τ0, e1, e0⟩ := mBind_some e1
  cases e0
  obtain ⟨ds, es', τ1, e2, e3, n1, n2, e4⟩ := mFn_some e1
  obtain ⟨g, gV, gW, kb, rep⟩ := hb.b
  refine wpAny_Call_Name_kw (ld_glob I hg hm ?_ hdb)
  refine PySem.W.callWith_KW (h₀ := X.base) I.ok.mod.kin Mc.kp hall (thn (ha.run pos pins s σ H (fun vs H1 => ∃ O1, Le H O H1 O1 ∧ SR X.K X.mg G H1 O1 σ τ1 ∧ RepL X.K X.mg (cut H1 O1) vs ds) I ⟨O, τ, ds, τ1, R, e2, fun vs H1 O1 l1 R1 r1 => ⟨O1, l1, R1, r1⟩⟩) ?_) hpl he
  rintro us s1 ⟨vs, H1, I1, r, O1, l1, R1, r1⟩
  refine thn (hkw.run pos pins s1 σ H1 (fun zs H2 => ∃ O2, Le H1 O1 H2 O2 ∧ SR X.K X.mg G H2 O2 σ τ' ∧ RepL X.K X.mg (cut H2 O2) zs es') I1 ⟨O1, τ1, es', τ', R1, e3, fun zs H2 O2 l2 R2 r2 => ⟨O2, l2, R2, r2⟩⟩) ?_
  rintro ws s2 ⟨zs, H2, I2, rz, O2, l2, R2, r2⟩
  refine ⟨I2.kIn, ?_⟩
  rw [hks]
  have m1 : vs.length = n := r1.length.trans n1
  have m2 : zs.length = ks.length := r2.length.trans n2
  refine run_mkG Mc Fn hr hgd kb I2 r rz m1 m2 fun xa dx hxa hdx nx => ?_
  obtain ⟨eg, rg, hl⟩ := rep _ (.ref xa) vs zs ds es' (RepL.grow l2 r1) r2 m1 m2
  rw [eg]
  exact mk_side hm hl rg (l1.trans l2) R2 e4 q xa dx hxa hdx nx⟩
/-- the same without a positional argument -/
theorem de_mk0 {c : Nat} {F : List D → Option (List D)} (Mc : Mk X.K C f) (Fn : FnG X.prog X.w X.K X.mg X.base k f fd ps (spI X.K X.mg ps.length c F)) (hr : Room (k + 1) X.A) (hgd : X.A.guards = some []) (hg : Gl X (clsName c)) (hm : X.mg (clsName c) = some (.ref C)) (hb : KI X.K X.mg fd ps 0 ks gD)
    (hx : x = clsName c) (hkw : DK X G kws fk) (hall : (backToKw pos (keywordEach kws X.env)).all (·.1.isSome) = true := by rfl) (hks : (backToKw pos (keywordEach kws X.env)).filterMap (·.1) = ks := by rfl)
    (hdb : (x == ("__debug__" : Str)) = false := by decide) (hpl : ((backTo pos (starEach [] X.env)).any (·.1) || (backToKw pos (keywordEach kws X.env)).any (·.1.isNone)) = false := by rfl) :
    DE X G (.Call (.Name x p) [] kws pos) (mMk c 0 ks.length gD F aNil fk) := ⟨fun pins s σ H Q I q => by
  subst hx
  obtain ⟨O, τ, d, τ', R, e1, q⟩ := q
  obtain ⟨fs, τ0, e1, e0⟩ := mBind_some e1
  cases e0
  obtain ⟨ds, es', τ1, e2, e3, n1, n2, e4⟩ := mFn_some e1
  cases e2
  obtain ⟨g, gV, gW, kb, rep⟩ := hb.b
  refine wpAny_Call_Name_kw (ld_glob I hg hm ?_ hdb)
  refine PySem.W.callWith_KW0 (h₀ := X.base) I.ok.mod.kin Mc.kp hall ?_ hpl
  refine thn (hkw.run pos pins s σ H (fun zs H2 => ∃ O2, Le H O H2 O2 ∧ SR X.K X.mg G H2 O2 σ τ' ∧ RepL X.K X.mg (cut H2 O2) zs es') I ⟨O, τ, es', τ', R, e3, fun zs H2 O2 l2 R2 r2 => ⟨O2, l2, R2, r2⟩⟩) ?_
  rintro ws s2 ⟨zs, H2, I2, rz, O2, l2, R2, r2⟩
  refine ⟨I2.kIn, ?_⟩
  rw [hks]
  have m2 : zs.length = ks.length := r2.length.trans n2
  refine run_mkG (us := []) (vs := []) Mc Fn hr hgd kb I2 .nil rz rfl m2 fun xa dx hxa hdx nx => ?_
  obtain ⟨eg, rg, hl⟩ := rep _ (.ref xa) [] zs [] es' .nil r2 rfl m2
  rw [eg]
  exact mk_side hm hl rg l2 R2 e4 q xa dx hxa hdx nx⟩
end
end
end Dv
set_option Elab.async false
set_option linter.all false
set_option maxRecDepth 100000
set_option maxHeartbeats 4000000
/-! DV9: attributes, methods, properties of instances -/
namespace Dv
open PySem L2
/-- the class numbered c stands at C -/
structure ClsF (K : PySem.W.Frag) (mg : Str → Option Value) (c : Nat) (C : Addr) : Prop where
  g : mg (clsName c) = some (.ref C)
  cl : Cls K C
  ca : PySem.W.findIn K (.ref C) "__class__" = some (some (.builtin "object.__class__"))
  cn : PySem.W.specialIn K (.builtin "object.__class__") "__get__" = some (some (.builtin "getset_descriptor.__get__"))
  ct : PySem.W.takesIn K (.builtin "object.__class__") = some true
  cm : PySem.W.mroIn K C (.type "object") = some true
theorem lookup_zip_none {m : Str} : ∀ {ns : List Str} {xs : List V}, m ∉ ns → (ns.zip xs).lookup m = none
  | [], _, _ => rfl
  | _ :: _, [], _ => rfl
  | n :: ns, x :: xs, h => by
    simp only [List.mem_cons, not_or] at h
    rw [List.zip_cons_cons, List.lookup_cons]
    have : (m == n) = false := by simpa using h.1
    rw [this]
    exact lookup_zip_none h.2
section
variable {X : Cx} {G : Gx} {k n : Nat} {f C : Addr} {fd : FuncData} {ps : List Str} {m x : Str} {p pos apos : Pos} {o e : Expr} {es : List Expr} {fa : M (List D)} {fo : M D} {cs : List Nat}
/-- o.f, the first attribute -/
def fldD (cs : List Nat) : D → Option D
  | .obj c ds => if c ∈ cs then ds[0]? else none
  | _ => none
theorem de_fld (ho : DE X G o fo) (hcs : ∀ c ∈ cs, ∃ C, ClsF X.K X.mg c C ∧ NoAttr X.K C m ∧ (clsFlds c)[0]? = some m) (hb : attributeBase o m X.env (eval o X.env) = eval o X.env := by rfl) : DE X G (.Attribute o m pos) (m1 (fldD cs) fo) :=
  pe_imp (pe_fld ho hb) fun σ H Q q => by
    obtain ⟨O, τ, z, τ', R, e, q⟩ := q
    obtain ⟨a, e1, e2⟩ := m1_some e
    refine ⟨O, τ, a, τ', R, e1, fun v H1 O1 l1 R1 r1 => ?_⟩
    cases r1 with
    | @obj ad C dx c xs ds h1 h2 h3 rl =>
      simp only [fldD] at e2
      split at e2
      · rename_i hc
        obtain ⟨C', hF, hn, hf⟩ := hcs c hc
        rw [hF.g] at h1; cases h1
        obtain ⟨y, ey, ry⟩ := rl.get e2
        refine ⟨ad, C, dx, _, y, rfl, (cut_some h2).2, hF.cl, hn, ?_, q y H1 O1 l1 R1 ry⟩
        cases en : clsFlds c with
        | nil => rw [en] at hf; cases hf
        | cons a as =>
          rw [en] at hf; cases hf
          cases xs with
          | nil => cases ey
          | cons b bs => cases ey; simp [List.lookup_cons]
      · cases e2
    | _ => simp [fldD] at e2
/-- self.f = e, the first attribute of an instance in the making -/
def sSetF (i : Nat) (f : Str) (fv : M D) : M Fl := mBind fv fun d => fun τ => match τ[i]? with
  | some (some (.ob c [] [])) => some (.nx, τ.set i (some (.ob c [f] [d])))
  | _ => none
theorem SR.putOb {K : PySem.W.Frag} {mg : Str → Option Value} {H : Hp} {O : List Addr} {σ : St} {τ : Sd} {i : Nat} {c : Nat} {ns : List Str} {ds : List D} {p C dx : Addr} {ns' : List Str} {ds' : List D} {xs' : List V} {fs : List (Str × V)} (R : SR K mg G H O σ τ) (e : τ[i]? = some (some (.ob c ns ds))) (ev : σ[i]? = some (some (.ref p))) (hO : p ∈ O) (hC : mg (clsName c) = some (.ref C)) (hp : H p = some (.ins C dx fs))
    (hl : ns'.length = xs'.length) (r : RepL K mg (cut H O) xs' ds') : SR K mg G (upd H p (.ins C dx (ns'.zip xs'))) O σ (τ.set i (some (.ob c ns' ds'))) ∧ Le H O (upd H p (.ins C dx (ns'.zip xs'))) O := by
  have ec : cut (upd H p (.ins C dx (ns'.zip xs'))) O = cut H O := by
    funext a
    unfold cut
    by_cases z : a ∈ O
    · rw [if_pos z, if_pos z]
    · rw [if_neg z, if_neg z, upd_ne (fun q => by subst q; exact z hO)]
  obtain ⟨v, ev', p', C', dx', ys, rfl, h1, h2, h3, h4, h5, h6, h7⟩ := R.slot i _ e
  rw [ev] at ev'; cases ev'
  refine ⟨⟨by simp [R.len], fun a o h n t => ?_, tabs_write R.tab hp (.inr ⟨_, _, _, rfl⟩), R.base, R.own0, fun q z => ?_, fun j s h => ?_, fun j k s t w h1' o1 h2' o2 e1 e2 => ?_, fun q s hq h o => ?_⟩, by unfold Le; rw [ec]; exact GrowW.refl _⟩
  · have : a ≠ p := fun q => by
      subst q
      rcases h3 with z | z
      · exact z.ne h t
      · exact n z
    rw [upd_ne this]; exact R.keep a o h n t
  · by_cases eq : q = p
    · subst eq; exact .inr ⟨C, dx, _, upd_same⟩
    · rcases R.live q z with ⟨ys, e'⟩ | ⟨C, dx, fs, e'⟩
      · exact .inl ⟨ys, by rw [upd_ne eq]; exact e'⟩
      · exact .inr ⟨C, dx, fs, by rw [upd_ne eq]; exact e'⟩
  · by_cases ej : i = j
    · subst ej
      rw [List.getElem?_set_self (getElem?_lt e)] at h
      cases h
      exact ⟨_, ev, p, C, dx, xs', rfl, hO, h2, h3, hC, upd_same, hl, by rw [ec]; exact r⟩
    · rw [List.getElem?_set_ne ej] at h
      obtain ⟨w, ew, ok⟩ := R.slot j s h
      refine ⟨w, ew, ?_⟩
      cases s with
      | val d => show Rep K mg (cut _ O) w d; rw [ec]; exact ok
      | own l'' =>
        obtain ⟨q, ys', rfl, k1, k2, k3, k4, k5⟩ := ok
        have nq : q ≠ p := fun eq => by subst eq; exact ej (R.inj i j _ _ _ e rfl h rfl ev ew)
        exact ⟨q, ys', rfl, k1, k2, k3, by rw [upd_ne nq]; exact k4, by rw [ec]; exact k5⟩
      | ob c ns ds =>
        obtain ⟨q, C, dx, ys', rfl, k1, k2, k3, k4, k5, k6, k7⟩ := ok
        have nq : q ≠ p := fun eq => by subst eq; exact ej (R.inj i j _ _ _ e rfl h rfl ev ew)
        exact ⟨q, C, dx, ys', rfl, k1, k2, k3, k4, by rw [upd_ne nq]; exact k5, k6, by rw [ec]; exact k7⟩
  · have at_ : ∀ {j : Nat} {s : Sl}, (τ.set i (some (Sl.ob c ns' ds')))[j]? = some (some s) → s.isOwn = true → ∃ s', τ[j]? = some (some s') ∧ s'.isOwn = true := fun {j s} h o => by
      by_cases q : i = j
      · subst q; exact ⟨_, e, rfl⟩
      · rw [List.getElem?_set_ne q] at h; exact ⟨s, h, o⟩
    obtain ⟨s', a1, a2⟩ := at_ h1' o1
    obtain ⟨t', b1, b2⟩ := at_ h2' o2
    exact R.inj j k s' t' w a1 a2 b1 b2 e1 e2
  · by_cases ei : i = 0
    · subst ei
      exact R.pin q _ hq e rfl
    · rw [List.getElem?_set_ne ei] at h
      exact R.pin q s hq h o
theorem ds_setF {e : Expr} {pos' : Pos} {fv : M D} (i : Nat) (ho : PE X o (tVar i)) (he : DE X G e fv) (hcs : ∀ c ∈ cs, ∃ C, ClsF X.K X.mg c C ∧ NoAttr X.K C m) (hs : swapsWith e (some (.Attribute o m pos')) pos.line X.env = pure false := by rfl) :
    DS X G (.Assign [.Attribute o m pos'] e pos) (mBind fv fun d => fun τ => match τ[i]? with
      | some (some (.ob c [] [])) => if c ∈ cs then some (.nx, τ.set i (some (.ob c [m] [d]))) else none
      | _ => none) := ps_imp (ps_fld ho he hs) fun N σ H q => by
  obtain ⟨O, τ, fl, τ', R, e1, q⟩ := q
  obtain ⟨d, τ1, e2, e1⟩ := mBind_some e1
  split at e1
  · rename_i c e3
    split at e1
    · rename_i hc
      cases e1
      refine ⟨O, τ, d, τ1, R, e2, fun v H1 O1 l1 R1 r1 => ?_⟩
      obtain ⟨w, ev, p, C, dx, xs, rfl, h1, h2, h3, h4, h5, h6, h7⟩ := R1.slot i _ e3
      obtain ⟨C', hF, hn⟩ := hcs c hc
      rw [hF.g] at h4; cases h4
      cases h7
      refine ⟨_, ev, p, C, dx, _, rfl, h5, hF.cl, hn, by decide, ?_⟩
      obtain ⟨R2, l2⟩ := R1.putOb (ns' := [m]) (ds' := [d]) (xs' := [v]) e3 ev h1 hF.g h5 rfl (.cons r1 .nil)
      exact q σ _ O1 (l1.trans l2) R2
    · cases e1
  · cases e1
/-- a def of the text called below the running body, at A -/
theorem run_at {A : Around} {E : Value → Shared → Prop} {pins : List (Addr × Obj)} {σ : St} {H : Hp} {s : Shared} {Q : VK} {us : List Value} {vs : List V} {sp : Sp} (F : FnG X.prog X.w X.K X.mg X.base k f fd ps sp) (hr : Room k A) (hgd : A.guards = some []) (e0 : Env0 X.prog X.w X.K X.mg X.base A X.stack s H) (hb : Binds X.K fd ps []) (I : Inv X pins σ H s) (r : Vals vs us) (h : sp vs H Q E0) :
    codeAny (model X.prog X.w) A (.call (.ref f) ⟨us, []⟩) (fun res s' => match res with | .ok (.ret u) => EP X pins σ Q u s' | _ => False) s := by
  have hl : us.length = ps.length := by rw [← r.length]; exact F.len _ _ _ _ h
  refine codeAny_mono (F.run A X.stack s H ⟨us, []⟩ us vs Q E0 hr hgd e0 (by have := hb s us I.kIn (by simpa using hl); simpa using this) r h) fun res s' hq => ?_
  match res, hq with
  | .ok (.ret u), hq => exact I.after hq
theorem wp_at {A : Around} {E : Value → Shared → Prop} {pins : List (Addr × Obj)} {σ : St} {H : Hp} {s : Shared} {Q : VK} {us : List Value} {vs : List V} {sp : Sp} (F : FnG X.prog X.w X.K X.mg X.base k f fd ps sp) (hr : Room k A) (hgd : A.guards = some []) (e0 : Env0 X.prog X.w X.K X.mg X.base A X.stack s H) (hb : Binds X.K fd ps []) (I : Inv X pins σ H s) (r : Vals vs us) (h : sp vs H Q E0) :
    wpAny (model X.prog X.w) A (call (.ref f) us) (EP X pins σ Q) E s := by
  refine wpAny_call (codeAny_mono (run_at (E := E) F hr hgd e0 hb I r h) fun res s' hq => ?_)
  match res, hq with
  | .ok (.ret u), hq => exact hq
/-- the data of an instance of one of these classes -/
def isOb (cs : List Nat) : D → Bool
  | .obj c _ => decide (c ∈ cs)
  | _ => false
/-! ### o.m(a, ..) -/
def mMe (n : Nat) (cs : List Nat) (F : List D → Option D) (fo : M D) (fa : M (List D)) : M D := mBind fo fun d => if isOb cs d = true then mBind fa (fun ds => mLift (if ds.length + 1 = n then F (d :: ds) else none)) else fun _ => none
theorem mMe_some {n : Nat} {F : List D → Option D} {τ τ' : Sd} {z : D} (h : mMe n cs F fo fa τ = some (z, τ')) : ∃ c fs ds τ1, fo τ = some (.obj c fs, τ1) ∧ c ∈ cs ∧ fa τ1 = some (ds, τ') ∧ ds.length + 1 = n ∧ F (.obj c fs :: ds) = some z := by
  obtain ⟨d, τ1, e1, e⟩ := mBind_some h
  split at e
  · rename_i ho
    obtain ⟨ds, e2, e3⟩ := mL_some e
    split at e3
    · rename_i hl
      cases d with
      | obj c fs => exact ⟨c, fs, ds, τ1, e1, by simpa [isOb] using ho, e2, hl, e3⟩
      | _ => simp [isOb] at ho
    · cases e3
  · cases e
theorem de_meth {F : List D → Option D} {pl : Sem Bool} (ho : DE X G o fo) (hcs : ∀ c ∈ cs, ∃ C, ClsF X.K X.mg c C ∧ Meth X.K C m f ∧ m ∉ clsFlds c) (Fn : FnG X.prog X.w X.K X.mg X.base k f fd ps (spD X.K X.mg ps.length F)) (hr : Room k X.A) (hgd : X.A.guards = some []) (hb : Binds X.K fd ps [])
    (ha : DA X G (e :: es) fa) (hst : starEach (e :: es) X.env = (false, eval e X.env) :: starEach es X.env := by rfl) (hpl : (backTo pos (starEach es X.env)).any (·.1) = false := by rfl)
    (ht : eval (.Call (.Attribute o m apos) (e :: es) [] pos) X.env = (do
      let ov ← eval o X.env
      standAt apos.atName
      let (f, first) ← holding [ov] (getMethod ov m pl)
      callWith pos f first (backTo pos (starEach (e :: es) X.env)) (backToKw pos (keywordEach [] X.env))) := by rfl) : DE X G (.Call (.Attribute o m apos) (e :: es) [] pos) (mMe ps.length cs F fo fa) := ⟨fun pins s σ H Q I q => by
  obtain ⟨O, τ, z, τ', R, e1, q⟩ := q
  obtain ⟨c, fs, ds, τ1, e2, hc, e3, n1, e4⟩ := mMe_some e1
  obtain ⟨C, hF, hm, hn⟩ := hcs c hc
  refine PySem.W.methodCall_KW (pl := pl) (thn (ho.run pins s σ H (fun v H1 => ∃ O1, Le H O H1 O1 ∧ SR X.K X.mg G H1 O1 σ τ1 ∧ Rep X.K X.mg (cut H1 O1) v (.obj c fs)) I ⟨O, τ, _, τ1, R, e2, fun v H1 O1 l1 R1 r1 => ⟨O1, l1, R1, r1⟩⟩) ?_) ht
  rintro u s1 ⟨v, H1, I1, rv, O1, l1, R1, r1⟩
  cases r1 with
  | @obj a C' dx _ xs _ h1 h2 h3 rl =>
    rw [hF.g] at h1; cases h1
    obtain rfl : u = Value.ref a := rv
    refine getmeth_ok I1 (cut_some h2).2 hF.cl hm (lookup_zip_none hn) ?_
    refine PySem.W.callWith_K (first := [.ref a]) (h₀ := X.base) I.ok.mod.kin hm.kp (thn (ha.run pos pins s1 σ H1 (fun vs H2 => ∃ O2, Le H1 O1 H2 O2 ∧ SR X.K X.mg G H2 O2 σ τ' ∧ RepL X.K X.mg (cut H2 O2) vs ds) I1 ⟨O1, τ1, ds, τ', R1, e3, fun vs H2 O2 l2 R2 r2 => ⟨O2, l2, R2, r2⟩⟩) ?_) hst hpl
    rintro us s2 ⟨vs, H2, I2, r, O2, l2, R2, r2⟩
    refine ⟨I2.kIn, ?_⟩
    exact wp_at (us := .ref a :: us) (vs := .ref a :: vs) Fn hr hgd I2.env0 hb I2 (.cons rfl r) ⟨O2, _, z, by simp [r2.length, n1], R2.live, .cons (Rep.grow l2 (.obj hF.g h2 h3 rl)) r2, e4, fun v H' g' rz => q v H' O2 ((l1.trans l2).trans (Le.grow g')) (R2.grow g') rz⟩⟩
def mMe0 (cs : List Nat) (F : List D → Option D) (fo : M D) : M D := m1 (fun d => if isOb cs d = true then F [d] else none) fo
theorem mMe0_some {F : List D → Option D} {τ τ' : Sd} {z : D} (h : mMe0 cs F fo τ = some (z, τ')) : ∃ c fs, fo τ = some (.obj c fs, τ') ∧ c ∈ cs ∧ F [.obj c fs] = some z := by
  obtain ⟨d, e1, e⟩ := m1_some h
  split at e
  · rename_i ho
    cases d with
    | obj c fs => exact ⟨c, fs, e1, by simpa [isOb] using ho, e⟩
    | _ => simp [isOb] at ho
  · cases e
theorem de_meth0 {F : List D → Option D} {pl : Sem Bool} (ho : DE X G o fo) (hcs : ∀ c ∈ cs, ∃ C, ClsF X.K X.mg c C ∧ Meth X.K C m f ∧ m ∉ clsFlds c) (Fn : FnG X.prog X.w X.K X.mg X.base k f fd ["self"] (spD X.K X.mg 1 F)) (hr : Room k X.A) (hgd : X.A.guards = some []) (hb : Binds X.K fd ["self"] [])
    (ht : eval (.Call (.Attribute o m apos) [] [] pos) X.env = (do
      let ov ← eval o X.env
      standAt apos.atName
      let (f, first) ← holding [ov] (getMethod ov m pl)
      callWith pos f first (backTo pos (starEach [] X.env)) (backToKw pos (keywordEach [] X.env))) := by rfl) : DE X G (.Call (.Attribute o m apos) [] [] pos) (mMe0 cs F fo) := ⟨fun pins s σ H Q I q => by
  obtain ⟨O, τ, z, τ', R, e1, q⟩ := q
  obtain ⟨c, fs, e2, hc, e4⟩ := mMe0_some e1
  obtain ⟨C, hF, hm, hn⟩ := hcs c hc
  refine PySem.W.methodCall_KW (pl := pl) (thn (ho.run pins s σ H (fun v H1 => ∃ O1, Le H O H1 O1 ∧ SR X.K X.mg G H1 O1 σ τ' ∧ Rep X.K X.mg (cut H1 O1) v (.obj c fs)) I ⟨O, τ, _, τ', R, e2, fun v H1 O1 l1 R1 r1 => ⟨O1, l1, R1, r1⟩⟩) ?_) ht
  rintro u s1 ⟨v, H1, I1, rv, O1, l1, R1, r1⟩
  cases r1 with
  | @obj a C' dx _ xs _ h1 h2 h3 rl =>
    rw [hF.g] at h1; cases h1
    obtain rfl : u = Value.ref a := rv
    refine getmeth_ok I1 (cut_some h2).2 hF.cl hm (lookup_zip_none hn) ?_
    exact PySem.W.callWith_K0 (first := [.ref a]) I1.kIn hm.kp (wp_at (us := [.ref a]) (vs := [.ref a]) Fn hr hgd I1.env0 hb I1 (.cons rfl .nil) ⟨O1, _, z, rfl, R1.live, .cons (.obj hF.g h2 h3 rl) .nil, e4, fun v H' g' rz => q v H' O1 (l1.trans (Le.grow g')) (R1.grow g') rz⟩)⟩
/-! ### o.f, a property -/
theorem de_prop {F : List D → Option D} {pp : Addr} (ho : DE X G o fo) (hcs : ∀ c ∈ cs, ∃ C, ClsF X.K X.mg c C ∧ PropOf X.K C m pp f) (Fn : FnG X.prog X.w X.K X.mg X.base k f fd ["self"] (spD X.K X.mg 1 F)) (hr : Room (k + 1) X.A) (hgd : X.A.guards = some []) (hb : Binds X.K fd ["self"] [])
    (hab : attributeBase o m X.env (eval o X.env) = eval o X.env := by rfl) : DE X G (.Attribute o m pos) (mMe0 cs F fo) := ⟨fun pins s σ H Q I q => by
  obtain ⟨O, τ, z, τ', R, e1, q⟩ := q
  obtain ⟨c, fs, e2, hc, e4⟩ := mMe0_some e1
  obtain ⟨C, hF, hp⟩ := hcs c hc
  refine attr_of hab (thn (ho.run pins s σ H (fun v H1 => ∃ O1, Le H O H1 O1 ∧ SR X.K X.mg G H1 O1 σ τ' ∧ Rep X.K X.mg (cut H1 O1) v (.obj c fs)) I ⟨O, τ, _, τ', R, e2, fun v H1 O1 l1 R1 r1 => ⟨O1, l1, R1, r1⟩⟩) ?_)
  rintro u s1 ⟨v, H1, I1, rv, O1, l1, R1, r1⟩
  cases r1 with
  | @obj a C' dx _ xs _ h1 h2 h3 rl =>
    rw [hF.g] at h1; cases h1
    obtain rfl : u = Value.ref a := rv
    obtain ⟨mA, Om, _, _, _, _⟩ := ins_get I1.hok (cut_some h2).2
    obtain ⟨od, J, _⟩ := Om.look
    obtain ⟨rest, hrec⟩ := hp.rec_
    have I2 := I1.tok (s1.toks + 1)
    have hcc : (PySem.W.clsIn X.K C).isSome = true := by
      obtain ⟨cd, hcd, _⟩ := PySem.W.any_some hF.cl.hd
      rw [hcd]; rfl
    refine PySem.W.get_bind I1.kIn J (PySem.W.plainGet_of (hF.cl.get m)).1 (PySem.W.findObj_data hcc hp.at_ hp.get hp.tak) (PySem.W.plainGet_of (hF.cl.get m)).2 (wpAny_call (PySem.W.prop_get (s := { s1 with toks := s1.toks + 1 }) I1.kIn hrec ?_))
    refine codeAny_mono (run_at (E := X.xe) (us := [.ref a]) (vs := [.ref a]) (Q := Q) Fn hr.in1 hgd I2.env0.in1 hb I2 (.cons rfl .nil) ⟨O1, _, z, rfl, R1.live, .cons (.obj hF.g h2 h3 rl) .nil, e4, fun v H' g' rz => q v H' O1 (l1.trans (Le.grow g')) (R1.grow g') rz⟩) fun res s' hq => ?_
    match res, hq with
    | .ok (.ret u), ⟨v, H', I3, rv, q3⟩ =>
      show wpAny _ _ (handedOut u) _ _ _
      rw [PySem.W.handedOut_of (handed_of rv)]
      exact wpAny_pure ⟨v, H', I3, rv, q3⟩⟩
end
end Dv
set_option Elab.async false
set_option linter.all false
set_option maxRecDepth 100000
set_option maxHeartbeats 4000000
/-! DV10: operators and built-in functions on data -/
namespace Dv
open PySem L2
/-- room, whatever exception is being handled -/
structure RoomN (k : Nat) (A : Around) : Prop where
  dp : A.depth + 3 * k + 5 < recursionLimit
  un : A.units + 16 * k + 200 < cLine
theorem roomN {k : Nat} {A : Around} (r : Room k A) : RoomN k A := ⟨r.dp, r.un⟩
instance {k : Nat} {A : Around} : Coe (Room k A) (RoomN k A) := ⟨roomN⟩
theorem RoomN.units {k : Nat} {A : Around} (r : RoomN k A) : A.units + 64 < cLine := by have := r.un; omega
theorem RoomN.mono {j k : Nat} {A : Around} (r : RoomN k A) (h : j ≤ k) : RoomN j A := ⟨by have := r.dp; omega, by have := r.un; omega⟩
theorem RoomN.deeper {k : Nat} {A : Around} (r : RoomN (k + 1) A) (env : Env) : RoomN k (A.deeper env) :=
  ⟨by have := r.dp; show A.depth + 1 + 3 * k + 5 < _; omega, by have := r.un; show A.units + 3 + 16 * k + 200 < _; omega⟩
theorem RoomN.depth {k : Nat} {A : Around} (r : RoomN k A) : A.depth < recursionLimit := by have := r.dp; omega

/-- an operation of two values does g to data -/
def rD2 (X : Cx) (g : D → D → Option D) : R2 := fun x y H Q => ∃ O a b z, Live H O ∧ Rep X.K X.mg (cut H O) x a ∧ Rep X.K X.mg (cut H O) y b ∧ g a b = some z ∧ ∀ v H', Grow H H' → Rep X.K X.mg (cut H' O) v z → Q v H'
def OpD (X : Cx) (f : Value → Value → Sem Value) (g : D → D → Option D) : Prop := OpR X f (rD2 X g)
def rDN (X : Cx) (g : List D → Option D) : List V → Hp → VK → Prop := fun xs H Q => ∃ O ds z, Live H O ∧ RepL X.K X.mg (cut H O) xs ds ∧ g ds = some z ∧ ∀ v H', Grow H H' → Rep X.K X.mg (cut H' O) v z → Q v H'
def CallD (X : Cx) (f : Value) (g : List D → Option D) : Prop := CallR X f (rDN X g)
section
variable {X : Cx} {G : Gx}
theorem v2_D (g : D → D → Option D) : V2 X (rD2 X g) g := fun H O x y a b z Q lv ra rb e q => ⟨O, a, b, z, lv, ra, rb, e, q⟩
theorem vn_D (g : List D → Option D) : VN X (rDN X g) g := fun H O xs ds z Q lv r e q => ⟨O, ds, z, lv, r, e, q⟩
theorem opD_of {f : Value → Value → Sem Value} {r : R2} {g : D → D → Option D} (h : OpR X f r) (hv : V2 X r g) : OpD X f g := fun pins s σ H x y v u Q I rx ry ⟨O, a, b, z, lv, ra, rb, e, q⟩ =>
  h pins s σ H x y v u Q I rx ry (hv H O x y a b z Q lv ra rb e q)
theorem callD_of {f : Value} {r : List V → Hp → VK → Prop} {g : List D → Option D} (h : CallR X f r) (hv : VN X r g) : CallD X f g := fun pins s σ H xs us Q I rx ⟨O, ds, z, lv, ra, e, q⟩ =>
  h pins s σ H xs us Q I rx (hv H O xs ds z Q lv ra e q)
theorem opD_or {f : Value → Value → Sem Value} {g g' : D → D → Option D} (h : OpD X f g) (h' : OpD X f g') : OpD X f (fun a b => (g a b).or (g' a b)) := fun pins s σ H x y v u Q I rx ry ⟨O, a, b, z, lv, ra, rb, e, q⟩ => by
  cases e1 : g a b with
  | some z' => simp only [e1, Option.some_or] at e; cases e; exact h pins s σ H x y v u Q I rx ry ⟨O, a, b, _, lv, ra, rb, e1, q⟩
  | none => simp only [e1, Option.none_or] at e; exact h' pins s σ H x y v u Q I rx ry ⟨O, a, b, z, lv, ra, rb, e, q⟩
theorem callD_or {f : Value} {g g' : List D → Option D} (h : CallD X f g) (h' : CallD X f g') : CallD X f (fun ds => (g ds).or (g' ds)) := fun pins s σ H xs us Q I rx ⟨O, ds, z, lv, ra, e, q⟩ => by
  cases e1 : g ds with
  | some z' => simp only [e1, Option.some_or] at e; cases e; exact h pins s σ H xs us Q I rx ⟨O, ds, _, lv, ra, e1, q⟩
  | none => simp only [e1, Option.none_or] at e; exact h' pins s σ H xs us Q I rx ⟨O, ds, z, lv, ra, e, q⟩
theorem opD_imp {f : Value → Value → Sem Value} {g g' : D → D → Option D} (h : OpD X f g) (i : ∀ a b z, g' a b = some z → g a b = some z) : OpD X f g' := fun pins s σ H x y v u Q I rx ry ⟨O, a, b, z, lv, ra, rb, e, q⟩ =>
  h pins s σ H x y v u Q I rx ry ⟨O, a, b, z, lv, ra, rb, i a b z e, q⟩
theorem callD_imp {f : Value} {g g' : List D → Option D} (h : CallD X f g) (i : ∀ a z, g' a = some z → g a = some z) : CallD X f g' := fun pins s σ H xs us Q I rx ⟨O, ds, z, lv, ra, e, q⟩ =>
  h pins s σ H xs us Q I rx ⟨O, ds, z, lv, ra, i ds z e, q⟩
/-- the rules for operators and calls, by data -/
theorem de_opD {a b : Expr} {op : Operator} {pos : Pos} {g : D → D → Option D} {fa fb : M D} (ho : OpD X (binaryOp op) g) (ha : DE X G a fa) (hb : DE X G b fb) : DE X G (.BinOp a op b pos) (m2 g fa fb) := de_op ho (v2_D g) ha hb
theorem de_cmpD {a b : Expr} {op : CmpOp} {pos : Pos} {g : D → D → Option D} {fa fb : M D} (ho : OpD X (compareOp op) g) (ha : DE X G a fa) (hb : DE X G b fb) (hm : behindInMarks op b = false) : DE X G (.Compare a [op] [b] pos) (m2 g fa fb) := de_cmp ho (v2_D g) ha hb hm
theorem dt_cmpD {a b : Expr} {op : CmpOp} {pos : Pos} {g : D → D → Option D} {fa fb : M D} (ho : OpD X (compareOp op) g) (ha : DE X G a fa) (hb : DE X G b fb) (hm : behindInMarks op b = false) : DT X G (.Compare a [op] [b] pos) (mB (m2 g fa fb)) := dt_cmp ho (v2_D g) ha hb hm

/-! ### the plain operators -/
def addD : D → D → Option D
  | .int i, .int j => some (.int (i + j))
  | .str x, .str y => if x.length + y.length ≤ sizeLine then some (.str (x ++ y)) else none
  | .tup x, .tup y => (fit (x ++ y)).map D.tup
  | .lst x, .lst y => (fit (x ++ y)).map D.lst
  | _, _ => none
theorem map_some {α β : Type} {o : Option α} {f : α → β} {z : β} (h : o.map f = some z) : ∃ a, o = some a ∧ f a = z := by cases o with
  | none => cases h
  | some a => cases h; exact ⟨a, rfl, rfl⟩
theorem op_addD : OpD X (binaryOp .Add) addD := fun pins s σ H x y v u Q I rx ry ⟨O, a, b, z, lv, ra, rb, e, q⟩ => by
  cases ra <;> cases rb <;> simp only [addD] at e <;> first | (cases e; done) | skip
  · cases e
    exact op_add pins s σ H _ _ v u Q I rx ry ⟨_, _, rfl, rfl, q _ H (Grow.refl _) (.int _)⟩
  · split at e
    · cases e
      exact op_add_str pins s σ H _ _ v u Q I rx ry ⟨_, _, rfl, rfl, by assumption, q _ H (Grow.refl _) (.str _)⟩
    · cases e
  · rename_i h1 r1 _ _ _ h2 r2 _
    obtain ⟨m, e1, rfl⟩ := map_some e
    obtain ⟨rfl, hl⟩ := fit_some e1
    have s1 := SqT.grow (Grow.ofCut H O) h1
    have s2 := SqT.grow (Grow.ofCut H O) h2
    refine op_catA pins s σ H _ _ v u Q I rx ry ⟨_, _, _, _, rfl, rfl, s1, s2, ?_, ?_, ?_, ?_⟩
    · rw [r1.length, r2.length]; simpa using hl
    · rintro rfl
      cases r1
      exact q _ H (Grow.refl _) (.tup h2 r2)
    · rintro _ rfl
      cases r2
      rw [List.append_nil] at q
      exact q _ H (Grow.refl _) (.tup h1 r1)
    · intro _ _ p hp
      exact q _ _ (Grow.new hp) (new_tup lv hp (r1.append r2))
  · rename_i h1 r1 _ _ _ h2 r2 _
    obtain ⟨m, e1, rfl⟩ := map_some e
    obtain ⟨rfl, hl⟩ := fit_some e1
    exact op_cat pins s σ H _ _ v u Q I rx ry ⟨_, _, _, _, rfl, rfl, (cut_some h1).2, (cut_some h2).2, by rw [r1.length, r2.length]; simpa using hl, fun p hp => q _ _ (Grow.new hp) (new_list lv hp (r1.append r2))⟩
def catF : D → D → Option (List D)
  | .lst x, .lst y => fit (x ++ y)
  | _, _ => none
theorem v2f_cat : V2F X rCat catF := fun H O x y a b l Q lv ra rb e q => by
  cases ra <;> cases rb <;> simp only [catF] at e <;> first | (cases e; done) | skip
  rename_i h1 r1 _ _ _ h2 r2
  obtain ⟨rfl, hl⟩ := fit_some e
  exact ⟨_, _, _, _, rfl, rfl, (cut_some h1).2, (cut_some h2).2, by rw [r1.length, r2.length]; simpa using hl, fun p hp => q p _ hp (r1.append r2)⟩
theorem df_cat {a b : Expr} {pos : Pos} {fa fb : M D} (ha : DE X G a fa) (hb : DE X G b fb) : DF X G (.BinOp a .Add b pos) (m2F catF fa fb) := df_op op_cat v2f_cat ha hb
/-- an operation of ints -/
def int2 (C : Int → Int → Bool) (g : Int → Int → D) : D → D → Option D
  | .int i, .int j => if C i j = true then some (g i j) else none
  | _, _ => none
theorem op_int2 {f : Value → Value → Sem Value} {C : Int → Int → Prop} {C' : Int → Int → Bool} {gv : Int → Int → V} {g : Int → Int → D} (h : OpR X f (rI C gv)) (hC : ∀ i j, C' i j = true → C i j) (hg : ∀ H i j, Rep X.K X.mg H (gv i j) (g i j)) : OpD X f (int2 C' g) :=
  fun pins s σ H x y v u Q I rx ry ⟨O, a, b, z, lv, ra, rb, e, q⟩ => by
    cases ra <;> cases rb <;> simp only [int2] at e <;> first | (cases e; done) | skip
    split at e
    · rename_i hc
      cases e
      exact h pins s σ H _ _ v u Q I rx ry ⟨_, _, rfl, rfl, hC _ _ hc, q _ H (Grow.refl _) (hg _ _ _)⟩
    · cases e
/-- an operation of ints without condition -/
def int2' (g : Int → Int → D) : D → D → Option D
  | .int i, .int j => some (g i j)
  | _, _ => none
theorem op_int2' {f : Value → Value → Sem Value} {gv : Int → Int → V} {g : Int → Int → D} (h : OpR X f (rI0 gv)) (hg : ∀ H i j, Rep X.K X.mg H (gv i j) (g i j)) : OpD X f (int2' g) :=
  fun pins s σ H x y v u Q I rx ry ⟨O, a, b, z, lv, ra, rb, e, q⟩ => by
    cases ra <;> cases rb <;> simp only [int2'] at e <;> first | (cases e; done) | skip
    cases e
    exact h pins s σ H _ _ v u Q I rx ry ⟨_, _, rfl, rfl, q _ H (Grow.refl _) (hg _ _ _)⟩
def subD : D → D → Option D := int2' fun i j => .int (i - j)
theorem op_subD : OpD X (binaryOp .Sub) subD := op_int2' op_sub fun _ _ _ => .int _
def mulOk (i j : Int) : Bool := decide (i.natAbs < 2 ^ 64 ∨ j.natAbs < 2 ^ 64)
def fdivD : D → D → Option D := int2 (fun _ j => decide (0 < j ∧ j < 1073741824)) fun i j => .int (i / j)
theorem op_fdivD : OpD X (binaryOp .FloorDiv) fdivD := op_int2 op_fdiv (fun _ _ h => by simpa [CDiv] using h) fun _ _ _ => .int _
def modD : D → D → Option D := int2 (fun _ j => decide (0 < j)) fun i j => .int (i % j)
theorem op_modD : OpD X (binaryOp .Mod) modD := op_int2 op_mod (fun _ _ h => of_decide_eq_true h) fun _ _ _ => .int _
def powD : D → D → Option D := int2 (fun i j => decide (0 ≤ j ∧ j ≤ 1000000 ∧ i.natAbs < 2 ^ 64)) fun i j => .int (i ^ j.toNat)
theorem op_powD : OpD X (binaryOp .Pow) powD := op_int2 op_pow (fun _ _ h => by unfold CPow; exact of_decide_eq_true h) fun _ _ _ => .int _
/-- the product: ints; a list so many times -/
def mulD : D → D → Option D
  | .int i, .int j => if mulOk i j = true then some (.int (i * j)) else none
  | .lst x, .int j => if decide (-(2 ^ 63) ≤ j ∧ j < 2 ^ 63 ∧ x.length * j.toNat ≤ sizeLine) = true then some (.lst (List.replicate j.toNat x).flatten) else none
  | _, _ => none
def repF : D → D → Option (List D)
  | .lst x, .int j => if decide (-(2 ^ 63) ≤ j ∧ j < 2 ^ 63 ∧ x.length * j.toNat ≤ sizeLine) = true then some (List.replicate j.toNat x).flatten else none
  | _, _ => none
theorem RepL.rep {K : PySem.W.Frag} {mg : Str → Option Value} {H : Hp} {vs : List V} {ds : List D} (r : RepL K mg H vs ds) : ∀ n : Nat, RepL K mg H (List.replicate n vs).flatten (List.replicate n ds).flatten
  | 0 => .nil
  | n + 1 => by simpa [List.replicate_succ] using r.append (RepL.rep r n)
theorem mulOk_of {i j : Int} (h : mulOk i j = true) : CMul i j := by
  have := of_decide_eq_true h
  unfold CMul
  omega
theorem op_mulD : OpD X (binaryOp .Mult) mulD := fun pins s σ H x y v u Q I rx ry ⟨O, a, b, z, lv, ra, rb, e, q⟩ => by
  cases ra <;> cases rb <;> simp only [mulD] at e <;> first | (cases e; done) | skip
  · split at e
    · rename_i hc
      cases e
      exact op_mul pins s σ H _ _ v u Q I rx ry ⟨_, _, rfl, rfl, mulOk_of hc, q _ H (Grow.refl _) (.int _)⟩
    · cases e
  · split at e
    · rename_i h1 r1 _ _ hc
      have hc := of_decide_eq_true hc
      cases e
      exact op_rep pins s σ H _ _ v u Q I rx ry ⟨_, _, _, rfl, rfl, (cut_some h1).2, hc.1, hc.2.1, by rw [r1.length]; exact hc.2.2, fun p hp => q _ _ (Grow.new hp) (new_list lv hp (r1.rep _))⟩
    · cases e
theorem df_rep {a b : Expr} {pos : Pos} {fa fb : M D} (ha : DE X G a fa) (hb : DE X G b fb) : DF X G (.BinOp a .Mult b pos) (m2F repF fa fb) := df_op op_rep (fun H O x y a b l Q lv ra rb e q => by
  cases ra <;> cases rb <;> simp only [repF] at e <;> first | (cases e; done) | skip
  split at e
  · rename_i h1 r1 _ hc
    have hc := of_decide_eq_true hc
    cases e
    exact ⟨_, _, _, rfl, rfl, (cut_some h1).2, hc.1, hc.2.1, by rw [r1.length]; exact hc.2.2, fun p hp => q p _ hp (r1.rep _)⟩
  · cases e) ha hb
/-! ### comparisons -/
def ordD (gi : Int → Int → Bool) (gs : List Nat → List Nat → Bool) : D → D → Option D
  | .int i, .int j => some (.bl (gi i j))
  | .str i, .str j => some (.bl (gs i.cps.toList j.cps.toList))
  | _, _ => none
theorem op_ordD {f : Value → Value → Sem Value} {gi : Int → Int → Bool} {gs : List Nat → List Nat → Bool} (hi : OpR X f (rI0 fun i j => .bl (gi i j))) (hs : OpR X f (fun x y H Q => ∃ i j, x = .str i ∧ y = .str j ∧ Q (.bl (gs i.cps.toList j.cps.toList)) H)) : OpD X f (ordD gi gs) :=
  fun pins s σ H x y v u Q I rx ry ⟨O, a, b, z, lv, ra, rb, e, q⟩ => by
    cases ra <;> cases rb <;> simp only [ordD] at e <;> first | (cases e; done) | skip
    · cases e
      exact hi pins s σ H _ _ v u Q I rx ry ⟨_, _, rfl, rfl, q _ H (Grow.refl _) (.bl _)⟩
    · cases e
      exact hs pins s σ H _ _ v u Q I rx ry ⟨_, _, rfl, rfl, q _ H (Grow.refl _) (.bl _)⟩
def ltD : D → D → Option D := ordD (fun i j => decide (i < j)) (fun i j => decide (i < j))
def leD : D → D → Option D := ordD (fun i j => decide (i ≤ j)) (fun i j => !decide (j < i))
def gtD : D → D → Option D := ordD (fun i j => decide (j < i)) (fun i j => decide (j < i))
def geD : D → D → Option D := ordD (fun i j => decide (j ≤ i)) (fun i j => !decide (i < j))
theorem op_ltD : OpD X (compareOp .Lt) ltD := op_ordD op_lt op_lt_str
theorem op_leD : OpD X (compareOp .LtE) leD := op_ordD op_le op_le_str
theorem op_gtD : OpD X (compareOp .Gt) gtD := op_ordD op_gt op_gt_str
theorem op_geD : OpD X (compareOp .GtE) geD := op_ordD op_ge op_ge_str
/-! ### is -/
def isD (neg : Bool) : D → D → Option D
  | .non, .non => some (.bl (!neg))
  | .bl a, .bl b => some (.bl (decide (a = b) != neg))
  | _, .non => some (.bl neg)
  | _, _ => none
theorem op_isD : OpD X (compareOp .Is) (isD false) := fun pins s σ H x y v u Q I rx ry ⟨O, a, b, z, lv, ra, rb, e, q⟩ => by
  cases rb <;> cases ra <;> simp only [isD] at e <;> first | (cases e; done) | skip
  all_goals cases e
  all_goals first
    | exact op_isN pins s σ H _ _ v u Q I rx ry ⟨rfl, q _ H (Grow.refl _) (by simp; exact .bl _)⟩
    | exact op_isBl pins s σ H _ _ v u Q I rx ry ⟨_, _, rfl, rfl, q _ H (Grow.refl _) (by simp only [Bool.bne_false]; exact .bl _)⟩
theorem op_notD : OpD X (compareOp .IsNot) (isD true) := fun pins s σ H x y v u Q I rx ry ⟨O, a, b, z, lv, ra, rb, e, q⟩ => by
  cases rb <;> cases ra <;> simp only [isD] at e <;> first | (cases e; done) | skip
  all_goals cases e
  all_goals first
    | exact op_notN pins s σ H _ _ v u Q I rx ry ⟨rfl, q _ H (Grow.refl _) (by simp; exact .bl _)⟩
    | exact op_notBl pins s σ H _ _ v u Q I rx ry ⟨_, _, rfl, rfl, q _ H (Grow.refl _) (by simp only [Bool.bne_true]; exact .bl _)⟩
end
/-! ### data as the kit has them -/
mutual
def toP : D → Option PyData
  | .non => some .none
  | .bl b => some (.bool b)
  | .int i => some (.int i)
  | .str x => some (.str x)
  | .tup l => (toPs l).map .tuple
  | .lst l => (toPs l).map .list
  | .scr ns => some (.list (ns.map .int))
  | .obj _ _ => none
  | .exc _ _ => none
  | .dic _ _ => none
def toPs : List D → Option (List PyData)
  | [] => some []
  | d :: r => (toP d).bind fun p => (toPs r).map fun q => p :: q
end
section
variable {K : PySem.W.Frag} {mg : Str → Option Value} {H : Hp} {O : List Addr}
theorem dpAll_ints (H : Hp) : ∀ ns : List Int, DpAll K H (ns.map V.int) (ns.map PyData.int)
  | [] => .nil
  | n :: ns => .cons (.int n) (dpAll_ints H ns)
mutual
theorem rep_dp : ∀ {v : V} {d : D} {p : PyData}, Rep K mg (cut H O) v d → toP d = some p → Dp K H v p
  | _, _, _, .non, e => by cases e; exact .non
  | _, _, _, .bl b, e => by cases e; exact .bl b
  | _, _, _, .int i, e => by cases e; exact .int i
  | _, _, _, .str x, e => by cases e; exact .str x
  | _, _, _, .tup h r, e => by
    obtain ⟨ps, e1, rfl⟩ := map_some e
    exact .tup (SqT.grow (Grow.ofCut H O) h) (repL_dp r e1)
  | _, _, _, .lst h r, e => by
    obtain ⟨ps, e1, rfl⟩ := map_some e
    exact .lst (SqL.of (cut_some h).2) (repL_dp r e1)
  | _, _, _, .scr h, e => by cases e; exact .lst (SqL.grow (Grow.ofCut H O) h) (dpAll_ints H _)
  | _, _, _, .obj _ _ _ _, e => by cases e
  | _, _, _, .exc _ _ _ _ _, e => by cases e
  | _, _, _, .dic _ _ _, e => by cases e
  | _, _, _, .dit _ _ _, e => by cases e
theorem repL_dp : ∀ {vs : List V} {ds : List D} {ps : List PyData}, RepL K mg (cut H O) vs ds → toPs ds = some ps → DpAll K H vs ps
  | _, _, _, .nil, e => by cases e; exact .nil
  | _, _, _, .cons r t, e => by
    simp only [toPs] at e
    obtain ⟨p, e1, e2⟩ := Option.bind_eq_some_iff.mp e
    obtain ⟨q, e3, rfl⟩ := map_some e2
    exact .cons (rep_dp r e1) (repL_dp t e3)
end
end
section
variable {X : Cx} {G : Gx}
def eqP (neg : Bool) (p q : PyData) : Option D := if (SeqAt.shaped p && SeqAt.shaped q) = true then some (.bl (PyData.eqv p q != neg)) else none
def eqN (neg : Bool) (a b : D) : Option D := (toP a).bind fun p => (toP b).bind fun q => eqP neg p q
theorem eqN_some {neg : Bool} {a b z : D} (e : eqN neg a b = some z) : ∃ p q, toP a = some p ∧ toP b = some q ∧ SeqAt.shaped p = true ∧ SeqAt.shaped q = true ∧ z = .bl (PyData.eqv p q != neg) := by
  obtain ⟨p, e1, e⟩ := Option.bind_eq_some_iff.mp e
  obtain ⟨q, e2, e⟩ := Option.bind_eq_some_iff.mp e
  unfold eqP at e
  split at e
  · rename_i h
    rw [Bool.and_eq_true] at h
    cases e
    exact ⟨p, q, e1, e2, h.1, h.2, rfl⟩
  · cases e
/-- == : texts by themselves, all other data as the kit has them -/
def eqD (neg : Bool) : D → D → Option D
  | .str x, .str y => some (.bl (decide (x = y) != neg))
  | .int x, .int y => some (.bl (decide (x = y) != neg))
  | a, b => eqN neg a b
theorem dec_V {x y : Str} : decide (V.str x = V.str y) = decide (x = y) := by simp
theorem dec_I {x y : Int} : decide (V.int x = V.int y) = decide (x = y) := by simp
theorem op_eqDD {k : Nat} (hr : RoomN k X.A) : OpD X (compareOp .Eq) (eqD false) := fun pins s σ H x y v u Q I rx ry ⟨O, a, b, z, lv, ra, rb, e, q⟩ => by
  have go : eqN false a b = some z → wpAny (model X.prog X.w) X.A (compareOp .Eq v u) (EP X pins σ Q) X.xe s := fun e => by
    obtain ⟨p, p', e1, e2, h1, h2, rfl⟩ := eqN_some e
    exact op_eqD hr.units pins s σ H x y v u Q I rx ry ⟨p, p', rep_dp ra e1, rep_dp rb e2, h1, h2, q (.bl (PyData.eqv p p')) H (Grow.refl _) (by rw [Bool.bne_false]; exact .bl _)⟩
  unfold eqD at e
  split at e
  · cases e; cases ra; cases rb
    exact op_eq pins s σ H _ _ v u Q I rx ry ⟨rfl, q _ H (Grow.refl _) (by rw [Bool.bne_false, dec_V]; exact .bl _)⟩
  · cases e; cases ra; cases rb
    exact op_eq pins s σ H _ _ v u Q I rx ry ⟨rfl, q _ H (Grow.refl _) (by rw [Bool.bne_false, dec_I]; exact .bl _)⟩
  · exact go e
theorem op_neDD {k : Nat} (hr : RoomN k X.A) : OpD X (compareOp .NotEq) (eqD true) := fun pins s σ H x y v u Q I rx ry ⟨O, a, b, z, lv, ra, rb, e, q⟩ => by
  have go : eqN true a b = some z → wpAny (model X.prog X.w) X.A (compareOp .NotEq v u) (EP X pins σ Q) X.xe s := fun e => by
    obtain ⟨p, p', e1, e2, h1, h2, rfl⟩ := eqN_some e
    exact op_neD hr.units pins s σ H x y v u Q I rx ry ⟨p, p', rep_dp ra e1, rep_dp rb e2, h1, h2, q (.bl (!PyData.eqv p p')) H (Grow.refl _) (by rw [Bool.bne_true]; exact .bl _)⟩
  unfold eqD at e
  split at e
  · cases e; cases ra; cases rb
    exact op_ne pins s σ H _ _ v u Q I rx ry ⟨rfl, q _ H (Grow.refl _) (by rw [Bool.bne_true, dec_V]; exact .bl _)⟩
  · cases e; cases ra; cases rb
    exact op_ne pins s σ H _ _ v u Q I rx ry ⟨rfl, q _ H (Grow.refl _) (by rw [Bool.bne_true, dec_I]; exact .bl _)⟩
  · exact go e
/-! ### in: a sign in a text; a plain value in a list, a tuple -/
def flatD : D → Bool
  | .non | .bl _ | .int _ | .str _ => true
  | _ => false
/-- == of plain values -/
def eqF : D → D → Bool
  | .non, .non => true
  | .bl a, .bl b => a == b
  | .bl a, .int b => (if a then 1 else 0) == b
  | .int a, .bl b => a == (if b then 1 else 0)
  | .int a, .int b => a == b
  | .str a, .str b => a == b
  | _, _ => false
def signIn (neg : Bool) (a : D) (z : Str) : Option D := match a with
  | .str t => (match t.cps.toList with
    | [c] => some (.bl (decide (c ∈ z.cps.toList) != neg))
    | _ => none)
  | _ => none
def inD (neg : Bool) (a b : D) : Option D := match b with
  | .str z => signIn neg a z
  | .lst l => if flatD a = true ∧ l.all flatD = true then some (.bl ((l.any fun y => eqF y a) != neg)) else none
  | .tup l => if flatD a = true ∧ l.all flatD = true then some (.bl ((l.any fun y => eqF y a) != neg)) else none
  | _ => none
theorem rep_flat {K : PySem.W.Frag} {mg : Str → Option Value} {H : Hp} {v : V} {d : D} (r : Rep K mg H v d) : flatV v = flatD d := by cases r <;> rfl
theorem repL_flat {K : PySem.W.Frag} {mg : Str → Option Value} {H : Hp} : ∀ {vs : List V} {ds : List D}, RepL K mg H vs ds → vs.all flatV = ds.all flatD
  | _, _, .nil => rfl
  | _, _, .cons r t => by rw [List.all_cons, List.all_cons, rep_flat r, repL_flat t]
theorem rep_eqF {K : PySem.W.Frag} {mg : Str → Option Value} {H : Hp} {v u : V} {d e : D} (r : Rep K mg H v d) (r' : Rep K mg H u e) : eqV v u = eqF d e := by cases r <;> cases r' <;> rfl
theorem repL_in {K : PySem.W.Frag} {mg : Str → Option Value} {H : Hp} {v : V} {d : D} (r : Rep K mg H v d) : ∀ {vs : List V} {ds : List D}, RepL K mg H vs ds → inV v vs = ds.any fun y => eqF y d
  | _, _, .nil => rfl
  | _, _, .cons r' t => by
    have := repL_in r t
    unfold inV at this ⊢
    rw [List.any_cons, List.any_cons, this, rep_eqF r' r]
theorem inD_core {f : Value → Value → Sem Value} {neg : Bool} (h1 : OpR X f (fun x y H Q => ∃ (c : Nat) (z : Str), x = .str ⟨#[c]⟩ ∧ y = .str z ∧ Q (.bl (decide (c ∈ z.cps.toList) != neg)) H)) (h2 : OpR X f (rIn X.K neg)) : OpD X f (inD neg) :=
  fun pins s σ H x y v u Q I rx ry ⟨O, a, b, z, lv, ra, rb, e, q⟩ => by
    cases rb with
    | str w =>
      cases ra with
      | str t =>
        obtain ⟨⟨l⟩⟩ := t
        match l, e, rx with
        | [c], e, rx =>
          cases e
          exact h1 pins s σ H _ _ v u Q I rx ry ⟨c, w, rfl, rfl, q _ H (Grow.refl _) (.bl _)⟩
        | [], e, _ => cases e
        | _ :: _ :: _, e, _ => cases e
      | _ => cases e
    | @lst _ _ l hq rl =>
      have e' : (if flatD a = true ∧ (List.all l flatD) = true then some (D.bl ((List.any l fun y => eqF y a) != neg)) else none) = some z := e
      split at e'
      · rename_i hf
        cases e'
        refine h2 pins s σ H _ _ v u Q I rx ry ⟨_, _, rfl, .inl (SqL.of (cut_some hq).2), by rw [rep_flat ra]; exact hf.1, by rw [repL_flat rl]; exact hf.2, ?_⟩
        rw [repL_in ra rl]
        refine q _ H (Grow.refl _) ?_
        cases neg
        · rw [Bool.bne_false]; exact .bl _
        · rw [Bool.bne_true]; exact .bl _
      · cases e'
    | @tup _ _ l hq rl =>
      have e' : (if flatD a = true ∧ (List.all l flatD) = true then some (D.bl ((List.any l fun y => eqF y a) != neg)) else none) = some z := e
      split at e'
      · rename_i hf
        cases e'
        refine h2 pins s σ H _ _ v u Q I rx ry ⟨_, _, rfl, .inr (SqT.grow (Grow.ofCut H O) hq), by rw [rep_flat ra]; exact hf.1, by rw [repL_flat rl]; exact hf.2, ?_⟩
        rw [repL_in ra rl]
        refine q _ H (Grow.refl _) ?_
        cases neg
        · rw [Bool.bne_false]; exact .bl _
        · rw [Bool.bne_true]; exact .bl _
      · cases e'
    | _ => cases e
theorem op_inDD : OpD X (compareOp .In) (inD false) := inD_core (fun pins s σ H x y v u Q I rx ry ⟨c, z, h1, h2, q⟩ => op_in_sign pins s σ H x y v u Q I rx ry ⟨c, z, h1, h2, by simpa using q⟩) op_in_seq
theorem op_notInDD : OpD X (compareOp .NotIn) (inD true) := inD_core (fun pins s σ H x y v u Q I rx ry ⟨c, z, h1, h2, q⟩ => op_notIn_sign pins s σ H x y v u Q I rx ry ⟨c, z, h1, h2, by simpa using q⟩) op_notIn_seq
end
end Dv
set_option Elab.async false
set_option linter.all false
set_option maxRecDepth 100000
set_option maxHeartbeats 4000000
/-! DV11: subscripts, slices, built-in functions, f-strings -/
namespace Dv
open PySem L2
section
variable {X : Cx} {G : Gx}
/-! ### a[i] -/
def ixD : D → D → Option D
  | .lst l, .int i => atI l i
  | .tup l, .int i => atI l i
  | .scr l, .int i => (atI l i).map D.int
  | .str z, .int i => if z.length ≤ sizeLine then (atI z.cps.toList i).map fun c => .str ⟨#[c]⟩ else none
  | _, _ => none
theorem RepL.at {K : PySem.W.Frag} {mg : Str → Option Value} {H : Hp} {vs : List V} {ds : List D} {i : Int} {d : D} (r : RepL K mg H vs ds) (h : atI ds i = some d) : ∃ v, atI vs i = some v ∧ Rep K mg H v d := by
  unfold atI at h ⊢
  obtain ⟨j, e1, e2⟩ := Option.bind_eq_some_iff.mp h
  obtain ⟨v, e3, r3⟩ := r.get e2
  exact ⟨v, by rw [r.length, e1]; exact e3, r3⟩
theorem atI_map {α β : Type} {f : α → β} {l : List α} {i : Int} {a : α} (h : atI l i = some a) : atI (l.map f) i = some (f a) := by
  unfold atI at h ⊢
  obtain ⟨j, e1, e2⟩ := Option.bind_eq_some_iff.mp h
  rw [List.length_map, e1]
  simp [e2]
theorem ixR_D : V2 X (rIx X.K) ixD := fun H O x y a b z Q lv ra rb e q => by
  cases rb <;> cases ra <;> simp only [ixD] at e <;> first | (cases e; done) | skip
  · split at e
    · rename_i hz
      obtain ⟨c, e1, rfl⟩ := map_some e
      exact .inr (.inr ⟨_, _, c, rfl, rfl, hz, e1, q _ H (Grow.refl _) (.str _)⟩)
    · cases e
  · rename_i hq rl
    obtain ⟨v, e1, r1⟩ := rl.at e
    exact .inr (.inl ⟨_, _, _, v, rfl, rfl, SqT.grow (Grow.ofCut H O) hq, e1, q _ H (Grow.refl _) r1⟩)
  · rename_i hq rl
    obtain ⟨v, e1, r1⟩ := rl.at e
    exact .inl ⟨_, _, _, v, rfl, rfl, SqL.of (cut_some hq).2, e1, q _ H (Grow.refl _) r1⟩
  · rename_i hq
    obtain ⟨c, e1, rfl⟩ := map_some e
    exact .inl ⟨_, _, _, .int c, rfl, rfl, SqL.grow (Grow.ofCut H O) hq, atI_map e1, q _ H (Grow.refl _) (.int c)⟩
theorem de_ix {a b : Expr} {pos : Pos} {fa fb : M D} (ha : DE X G a fa) (hb : DE X G b fb) (hs : PlainIx b := by intro _ _; rfl) : DE X G (.Subscript a b pos) (m2 ixD fa fb) := pe_imp (pe_ix ix_seq ha hb hs) (tOp_of ixR_D)
/-! ### a[lo:hi] -/
def cutD (l : List D) (lo hi : Option Int) : List D := (l.drop (HT.sIx l.length 0 lo)).take (HT.sIx l.length l.length hi - HT.sIx l.length 0 lo)
def slD : D → Option Int → Option Int → Option D
  | .lst l, lo, hi => some (.lst (cutD l lo hi))
  | .tup l, lo, hi => some (.tup (cutD l lo hi))
  | .scr l, lo, hi => some (.lst (cutD (l.map D.int) lo hi))
  | .str z, lo, hi => if z.length ≤ sizeLine then some (.str (cutS z lo hi)) else none
  | _, _, _ => none
theorem RepL.cut {K : PySem.W.Frag} {mg : Str → Option Value} {H : Hp} {vs : List V} {ds : List D} {lo hi : Option Int} (r : RepL K mg H vs ds) : RepL K mg H (cutV vs lo hi) (cutD ds lo hi) := by
  unfold cutV cutD
  rw [r.length]
  exact (r.drop _).take _
theorem RepL.ints {K : PySem.W.Frag} {mg : Str → Option Value} {H : Hp} : ∀ ns : List Int, RepL K mg H (ns.map V.int) (ns.map D.int)
  | [] => .nil
  | n :: ns => .cons (.int n) (RepL.ints ns)
/-- a part of a slice -/
def DO (X : Cx) (G : Gx) (e : Option Expr) (f : M (Option Int)) : Prop := PO X e (fun σ H Q => ∃ O τ d τ', SR X.K X.mg G H O σ τ ∧ f τ = some (d, τ') ∧ ∀ H' O', Le H O H' O' → SR X.K X.mg G H' O' σ τ' → Q d H')
theorem po_imp {e : Option Expr} {t t' : TO} (h : PO X e t) (i : ∀ σ H Q, t' σ H Q → t σ H Q) : PO X e t' := ⟨fun pins s σ H Q I q => h.run pins s σ H Q I (i σ H Q q)⟩
theorem do_none : DO X G none (mPure none) := po_imp po_none fun σ H Q q => by
  obtain ⟨O, τ, d, τ', R, e, q⟩ := q
  cases e
  exact q H O (Le.refl _ _) R
def asI : D → Option (Option Int)
  | .int i => some (some i)
  | _ => none
theorem do_some {e : Expr} {f : M D} (h : DE X G e f) : DO X G (some e) (mBind f fun d => mLift (asI d)) := po_imp (po_some h) fun σ H Q q => by
  obtain ⟨O, τ, d, τ', R, e, q⟩ := q
  obtain ⟨a, e1, e2⟩ := mL_some e
  refine ⟨O, τ, a, τ', R, e1, fun v H' O' l R' r => ?_⟩
  cases r with
  | int i => cases e2; exact ⟨i, rfl, q H' O' l R'⟩
  | _ => cases e2
def mSl (fa : M D) (fl fh : M (Option Int)) : M D := mBind fa fun a => mBind fl fun lo => mBind fh fun hi => mLift (slD a lo hi)
theorem de_sl {e : Expr} {lo hi : Option Expr} {p2 pos : Pos} {fa : M D} {fl fh : M (Option Int)} (he : DE X G e fa) (hl : DO X G lo fl) (hh : DO X G hi fh) : DE X G (.Subscript e (.Slice lo hi none p2) pos) (mSl fa fl fh) :=
  pe_imp (pe_slice (SlR.or sl_list (SlR.or sl_tupA sl_str)) he hl hh) fun σ H Q q => by
    obtain ⟨O, τ, z, τ', R, e, q⟩ := q
    obtain ⟨a, τ1, e1, e⟩ := mBind_some e
    obtain ⟨lo, τ2, e2, e⟩ := mBind_some e
    obtain ⟨hi, e3, e4⟩ := mL_some (g := fun hi => slD a lo hi) e
    refine ⟨O, τ, a, τ1, R, e1, fun v H1 O1 l1 R1 r1 => ⟨O1, τ1, lo, τ2, R1, e2, fun H2 O2 l2 R2 => ⟨O2, τ2, hi, τ', R2, e3, fun H3 O3 l3 R3 => ?_⟩⟩⟩
    have r3 := Rep.grow (l2.trans l3) r1
    have l13 := (l1.trans l2).trans l3
    cases r3 with
    | lst hq rl =>
      cases e4
      exact .inl ⟨_, _, rfl, SqL.of (cut_some hq).2, fun p hp => q _ _ O3 (l13.trans (Le.grow (Grow.new hp))) (R3.grow (Grow.new hp)) (new_list R3.live hp rl.cut)⟩
    | scr hq =>
      cases e4
      exact .inl ⟨_, _, rfl, SqL.grow (Grow.ofCut _ _) hq, fun p hp => q _ _ O3 (l13.trans (Le.grow (Grow.new hp))) (R3.grow (Grow.new hp)) (new_list R3.live hp (RepL.ints _).cut)⟩
    | @tup a xs ds hq rl =>
      cases e4
      refine .inr (.inl ⟨_, _, rfl, SqT.grow (Grow.ofCut _ _) hq, fun hw => ?_, fun _ p hp => q _ _ O3 (l13.trans (Le.grow (Grow.new hp))) (R3.grow (Grow.new hp)) (new_tup R3.live hp rl.cut)⟩)
      have : cutD ds lo hi = ds := by
        rw [rl.length] at hw
        unfold cutD
        rw [hw.1, hw.2]
        simp
      rw [this] at q
      exact q _ _ O3 l13 R3 (.tup hq rl)
    | str z =>
      simp only [slD] at e4
      split at e4
      · cases e4
        exact .inr (.inr ⟨_, rfl, by assumption, q _ _ O3 l13 R3 (.str _)⟩)
      · cases e4
    | _ => cases e4

/-! ### calls -/
def lenD : List D → Option D
  | [.str z] => if z.length ≤ sizeLine then some (.int z.length) else none
  | [.lst l] => some (.int l.length)
  | [.tup l] => some (.int l.length)
  | [.scr l] => some (.int l.length)
  | _ => none
theorem c_len : CallD X (.builtin "len") lenD := callD_of call_len fun H O xs ds z Q lv r e q => by
  match ds, r, e with
  | [d], .cons r1 .nil, e =>
    cases r1 with
    | str z =>
      simp only [lenD] at e
      split at e
      · cases e; exact ⟨_, _, rfl, ⟨by assumption, rfl⟩, q _ H (Grow.refl _) (.int _)⟩
      · cases e
    | lst hq rl => cases e; exact ⟨_, _, rfl, .inl ⟨_, SqL.of (cut_some hq).2, rfl⟩, by rw [rl.length]; exact q _ H (Grow.refl _) (.int _)⟩
    | tup hq rl => cases e; exact ⟨_, _, rfl, .inr ⟨_, SqT.grow (Grow.ofCut H O) hq, rfl⟩, by rw [rl.length]; exact q _ H (Grow.refl _) (.int _)⟩
    | scr hq => cases e; exact ⟨_, _, rfl, .inl ⟨_, SqL.grow (Grow.ofCut H O) hq, rfl⟩, by rw [List.length_map]; exact q _ H (Grow.refl _) (.int _)⟩
    | _ => cases e
  | [], .nil, e => cases e
  | _ :: _ :: _, _, e => simp [lenD] at e
def absD : List D → Option D
  | [.int i] => some (.int (if i < 0 then -i else i))
  | _ => none
theorem c_abs : CallD X (.builtin "abs") absD := callD_of call_abs fun H O xs ds z Q lv r e q => by
  match ds, r, e with
  | [.int i], .cons (.int _) .nil, e => cases e; exact ⟨_, rfl, q _ H (Grow.refl _) (.int _)⟩
def intD : List D → Option D
  | [.int i] => some (.int i)
  | [.bl k] => some (.int (if k = true then 1 else 0))
  | _ => none
theorem c_int : CallD X (.type "int") intD := callD_of call_int1 fun H O xs ds z Q lv r e q => by
  match ds, r, e with
  | [.int i], .cons (.int _) .nil, e => cases e; exact .inl ⟨_, rfl, q _ H (Grow.refl _) (.int _)⟩
  | [.bl i], .cons (.bl _) .nil, e => cases e; exact .inr ⟨_, rfl, q _ H (Grow.refl _) (.int _)⟩
/-- list(x) -/
def listF : List D → Option (List D)
  | [.lst l] => some l
  | [.tup l] => some l
  | [.scr l] => some (l.map D.int)
  | _ => none
theorem f_list : VNF X (fun xs H Q => ∃ p ys, xs = [.ref p] ∧ (SqL X.K H p ys ∨ SqT X.K H p ys) ∧ ∀ l, H l = none → Q (.ref l) (upd H l (.lst ys))) listF := fun H O xs ds z Q lv r e q => by
  match ds, r, e with
  | [.lst l], .cons (.lst hq rl) .nil, e => cases e; exact ⟨_, _, rfl, .inl (SqL.of (cut_some hq).2), fun p hp => q p _ hp rl⟩
  | [.tup l], .cons (.tup hq rl) .nil, e => cases e; exact ⟨_, _, rfl, .inr (SqT.grow (Grow.ofCut H O) hq), fun p hp => q p _ hp rl⟩
  | [.scr l], .cons (.scr hq) .nil, e => cases e; exact ⟨_, _, rfl, .inl (SqL.grow (Grow.ofCut H O) hq), fun p hp => q p _ hp (RepL.ints _)⟩
def listD (ds : List D) : Option D := (listF ds).map D.lst
theorem c_list : CallD X (.type "list") listD := callD_of call_list_of f_list.vn
def tupleD : List D → Option D
  | [.lst l] => some (.tup l)
  | [.tup l] => some (.tup l)
  | [.scr l] => some (.tup (l.map D.int))
  | _ => none
theorem c_tuple : CallD X (.type "tuple") tupleD := callD_of call_tuple_of fun H O xs ds z Q lv r e q => by
  match ds, r, e with
  | [.lst l], .cons (.lst hq rl) .nil, e => cases e; exact ⟨_, _, rfl, .inl ⟨SqL.of (cut_some hq).2, fun p hp => q _ _ (Grow.new hp) (new_tup lv hp rl)⟩⟩
  | [.tup l], .cons (.tup hq rl) .nil, e => cases e; exact ⟨_, _, rfl, .inr ⟨SqT.grow (Grow.ofCut H O) hq, q _ H (Grow.refl _) (.tup hq rl)⟩⟩
  | [.scr l], .cons (.scr hq) .nil, e => cases e; exact ⟨_, _, rfl, .inl ⟨SqL.grow (Grow.ofCut H O) hq, fun p hp => q _ _ (Grow.new hp) (new_tup lv hp (RepL.ints _))⟩⟩
/-- lists of ints, of truth values, of texts -/
def asInts : List D → Option (List Int)
  | [] => some []
  | .int i :: r => (asInts r).map (i :: ·)
  | _ => none
def asBls : List D → Option (List Bool)
  | [] => some []
  | .bl i :: r => (asBls r).map (i :: ·)
  | _ => none
def asStrs : List D → Option (List Str)
  | [] => some []
  | .str i :: r => (asStrs r).map (i :: ·)
  | _ => none
theorem asInts_ok {K : PySem.W.Frag} {mg : Str → Option Value} {H : Hp} : ∀ {vs : List V} {ds : List D} {ns : List Int}, RepL K mg H vs ds → asInts ds = some ns → vs = ns.map V.int
  | _, _, _, .nil, e => by cases e; rfl
  | _, _, _, .cons r t, e => by
    cases r with
    | int i => obtain ⟨a, e1, rfl⟩ := map_some e; rw [asInts_ok t e1]; rfl
    | _ => cases e
theorem asBls_ok {K : PySem.W.Frag} {mg : Str → Option Value} {H : Hp} : ∀ {vs : List V} {ds : List D} {ns : List Bool}, RepL K mg H vs ds → asBls ds = some ns → vs = ns.map V.bl
  | _, _, _, .nil, e => by cases e; rfl
  | _, _, _, .cons r t, e => by
    cases r with
    | bl i => obtain ⟨a, e1, rfl⟩ := map_some e; rw [asBls_ok t e1]; rfl
    | _ => cases e
theorem asStrs_ok {K : PySem.W.Frag} {mg : Str → Option Value} {H : Hp} : ∀ {vs : List V} {ds : List D} {ns : List Str}, RepL K mg H vs ds → asStrs ds = some ns → vs = ns.map V.str
  | _, _, _, .nil, e => by cases e; rfl
  | _, _, _, .cons r t, e => by
    cases r with
    | str i => obtain ⟨a, e1, rfl⟩ := map_some e; rw [asStrs_ok t e1]; rfl
    | _ => cases e
def anyD : List D → Option D
  | [.lst l] => (asBls l).map fun bs => .bl (bs.any id)
  | _ => none
def allD : List D → Option D
  | [.lst l] => (asBls l).map fun bs => .bl (bs.all id)
  | _ => none
theorem c_any (hc : X.calm = true) : CallD X (.builtin "any") anyD := callD_of (cr_any hc) fun H O xs ds z Q lv r e q => by
  match ds, r, e with
  | [.lst l], .cons (.lst hq rl) .nil, e =>
    obtain ⟨bs, e1, rfl⟩ := map_some e
    have := asBls_ok rl e1; subst this
    exact ⟨_, _, rfl, SqL.of (cut_some hq).2, q _ H (Grow.refl _) (.bl _)⟩
theorem c_all (hc : X.calm = true) : CallD X (.builtin "all") allD := callD_of (cr_all hc) fun H O xs ds z Q lv r e q => by
  match ds, r, e with
  | [.lst l], .cons (.lst hq rl) .nil, e =>
    obtain ⟨bs, e1, rfl⟩ := map_some e
    have := asBls_ok rl e1; subst this
    exact ⟨_, _, rfl, SqL.of (cut_some hq).2, q _ H (Grow.refl _) (.bl _)⟩
def sumD : List D → Option D
  | [.lst l] => (asInts l).map fun bs => .int bs.sum
  | _ => none
theorem c_sum (hc : X.calm = true) : CallD X (.builtin "sum") sumD := callD_of (cr_sum hc) fun H O xs ds z Q lv r e q => by
  match ds, r, e with
  | [.lst l], .cons (.lst hq rl) .nil, e =>
    obtain ⟨bs, e1, rfl⟩ := map_some e
    have := asInts_ok rl e1; subst this
    exact ⟨_, _, rfl, SqL.of (cut_some hq).2, q _ H (Grow.refl _) (.int _)⟩
/-- the greatest, the least -/
def maxL : List Int → Option Int
  | [] => none
  | i :: r => some (r.foldl (fun a b => if b > a then b else a) i)
def minL : List Int → Option Int
  | [] => none
  | i :: r => some (r.foldl (fun a b => if b < a then b else a) i)
theorem maxL_ok : ∀ {l : List Int} {m : Int}, maxL l = some m → m ∈ l ∧ ∀ y ∈ l, y ≤ m := by
  have go : ∀ (l : List Int) (a : Int), (l.foldl (fun a b => if b > a then b else a) a = a ∨ l.foldl (fun a b => if b > a then b else a) a ∈ l) ∧ a ≤ l.foldl (fun a b => if b > a then b else a) a ∧ ∀ y ∈ l, y ≤ l.foldl (fun a b => if b > a then b else a) a := by
    intro l
    induction l with
    | nil => intro a; simp
    | cons b l ih =>
      intro a
      simp only [List.foldl_cons]
      obtain ⟨h1, h2, h3⟩ := ih (if b > a then b else a)
      refine ⟨?_, ?_, ?_⟩
      · by_cases hb : b > a
        · rw [if_pos hb] at h1 ⊢
          rcases h1 with h1 | h1
          · right; rw [h1]; simp
          · right; simp [h1]
        · rw [if_neg hb] at h1 ⊢
          rcases h1 with h1 | h1
          · left; exact h1
          · right; simp [h1]
      · by_cases hb : b > a
        · rw [if_pos hb] at h2 ⊢; omega
        · rw [if_neg hb] at h2 ⊢; omega
      · intro y hy
        rcases List.mem_cons.mp hy with rfl | hy
        · by_cases hb : y > a
          · rw [if_pos hb] at h2 ⊢; omega
          · rw [if_neg hb] at h2 ⊢; omega
        · exact h3 y hy
  intro l m h
  cases l with
  | nil => cases h
  | cons i r =>
    cases h
    obtain ⟨h1, h2, h3⟩ := go r i
    refine ⟨?_, fun y hy => ?_⟩
    · rcases h1 with h1 | h1
      · rw [h1]; simp
      · simp [h1]
    · rcases List.mem_cons.mp hy with rfl | hy
      · exact h2
      · exact h3 y hy
theorem minL_ok : ∀ {l : List Int} {m : Int}, minL l = some m → m ∈ l ∧ ∀ y ∈ l, m ≤ y := by
  have go : ∀ (l : List Int) (a : Int), (l.foldl (fun a b => if b < a then b else a) a = a ∨ l.foldl (fun a b => if b < a then b else a) a ∈ l) ∧ l.foldl (fun a b => if b < a then b else a) a ≤ a ∧ ∀ y ∈ l, l.foldl (fun a b => if b < a then b else a) a ≤ y := by
    intro l
    induction l with
    | nil => intro a; simp
    | cons b l ih =>
      intro a
      simp only [List.foldl_cons]
      obtain ⟨h1, h2, h3⟩ := ih (if b < a then b else a)
      refine ⟨?_, ?_, ?_⟩
      · by_cases hb : b < a
        · rw [if_pos hb] at h1 ⊢
          rcases h1 with h1 | h1
          · right; rw [h1]; simp
          · right; simp [h1]
        · rw [if_neg hb] at h1 ⊢
          rcases h1 with h1 | h1
          · left; exact h1
          · right; simp [h1]
      · by_cases hb : b < a
        · rw [if_pos hb] at h2 ⊢; omega
        · rw [if_neg hb] at h2 ⊢; omega
      · intro y hy
        rcases List.mem_cons.mp hy with rfl | hy
        · by_cases hb : y < a
          · rw [if_pos hb] at h2 ⊢; omega
          · rw [if_neg hb] at h2 ⊢; omega
        · exact h3 y hy
  intro l m h
  cases l with
  | nil => cases h
  | cons i r =>
    cases h
    obtain ⟨h1, h2, h3⟩ := go r i
    refine ⟨?_, fun y hy => ?_⟩
    · rcases h1 with h1 | h1
      · rw [h1]; simp
      · simp [h1]
    · rcases List.mem_cons.mp hy with rfl | hy
      · exact h2
      · exact h3 y hy
def maxD : List D → Option D
  | [.int i, .int j] => some (.int (if j > i then j else i))
  | [.lst l] => ((asInts l).bind maxL).map D.int
  | _ => none
def minD : List D → Option D
  | [.int i, .int j] => some (.int (if j < i then j else i))
  | [.lst l] => ((asInts l).bind minL).map D.int
  | _ => none
theorem c_max (hc : X.calm = true) : CallD X (.builtin "max") maxD := fun pins s σ H xs us Q I rx ⟨O, ds, z, lv, r, e, q⟩ => by
  match ds, r, e with
  | [.int i, .int j], .cons (.int _) (.cons (.int _) .nil), e => cases e; exact call_max2 hc pins s σ H _ us Q I rx ⟨_, _, rfl, q _ H (Grow.refl _) (.int _)⟩
  | [.lst l], .cons (.lst hq rl) .nil, e =>
    obtain ⟨m, e1, rfl⟩ := map_some e
    obtain ⟨ns, e2, e3⟩ := Option.bind_eq_some_iff.mp e1
    have := asInts_ok rl e2; subst this
    have ok := maxL_ok e3
    refine cr_max hc pins s σ H _ us Q I rx ⟨_, ns, rfl, SqL.of (cut_some hq).2, List.length_pos_of_mem ok.1, fun m' h1 h2 => ?_⟩
    have : m' = m := by have := h2 m ok.1; have := ok.2 m' h1; omega
    subst this
    exact q _ H (Grow.refl _) (.int _)
theorem c_min (hc : X.calm = true) : CallD X (.builtin "min") minD := fun pins s σ H xs us Q I rx ⟨O, ds, z, lv, r, e, q⟩ => by
  match ds, r, e with
  | [.int i, .int j], .cons (.int _) (.cons (.int _) .nil), e => cases e; exact call_min2 hc pins s σ H _ us Q I rx ⟨_, _, rfl, q _ H (Grow.refl _) (.int _)⟩
  | [.lst l], .cons (.lst hq rl) .nil, e =>
    obtain ⟨m, e1, rfl⟩ := map_some e
    obtain ⟨ns, e2, e3⟩ := Option.bind_eq_some_iff.mp e1
    have := asInts_ok rl e2; subst this
    have ok := minL_ok e3
    refine cr_min hc pins s σ H _ us Q I rx ⟨_, ns, rfl, SqL.of (cut_some hq).2, List.length_pos_of_mem ok.1, fun m' h1 h2 => ?_⟩
    have : m' = m := by have := h2 m ok.1; have := ok.2 m' h1; omega
    subst this
    exact q _ H (Grow.refl _) (.int _)
end
end Dv
set_option Elab.async false
set_option linter.all false
set_option maxRecDepth 100000
set_option maxHeartbeats 4000000
/-! DV12: isinstance, str, repr, join, f-strings, sorted, signs of a text, module constants -/
namespace Dv
open PySem L2
/-! ### isinstance -/
inductive Tg where
  | ty (x : String)
  | cl (c : Nat)
  | xc (c : Nat)
  deriving DecidableEq
def tag : D → Tg
  | .non => .ty "NoneType"
  | .bl _ => .ty "bool"
  | .int _ => .ty "int"
  | .str _ => .ty "str"
  | .tup _ => .ty "tuple"
  | .lst _ => .ty "list"
  | .scr _ => .ty "list"
  | .obj c _ => .cl c
  | .exc c _ => .xc c
  | .dic _ _ => .ty "dict"
/-- what an exception class must say, so that its instances can be asked and read -/
structure XcI (K : PySem.W.Frag) (mg : Str → Option Value) (c : Nat) (C : Addr) : Prop where
  g : mg (clsName c) = some (.ref C)
  cl : (PySem.W.clsIn K C).isSome = true
  ga : PySem.W.findIn K (.ref C) "__getattribute__" = some (some (.builtin "BaseException.__getattribute__"))
  gt : PySem.W.findIn K (.ref C) "__getattr__" = some none
  sb : PySem.W.subIn K (.ref C) (.type "BaseException") = some true
  ca : PySem.W.findIn K (.ref C) "__class__" = some (some (.builtin "object.__class__"))
  cn : PySem.W.specialIn K (.builtin "object.__class__") "__get__" = some (some (.builtin "getset_descriptor.__get__"))
  ct : PySem.W.takesIn K (.builtin "object.__class__") = some true
  cm : PySem.W.mroIn K C (.type "object") = some true
  hd : PySem.W.hasDictIn K C = true
  no : ∀ f ∈ clsFlds c, PySem.W.findIn K (.ref C) f = some none
def TagOk (K : PySem.W.Frag) (mg : Str → Option Value) (u : Value) (p : Tg × Bool) : Prop := match p.1 with
  | .ty s => PySem.W.kitOne K (.type s) u = some p.2
  | .cl c => ∃ C, ClsF K mg c C ∧ PySem.W.kitOne K (.ref C) u = some p.2
  | .xc c => ∃ C, XcI K mg c C ∧ PySem.W.kitOne K (.ref C) u = some p.2
theorem lookup_mem {α β : Type} [BEq α] [LawfulBEq α] {a : α} {b : β} : ∀ {l : List (α × β)}, l.lookup a = some b → (a, b) ∈ l
  | [], h => by cases h
  | (x, y) :: r, h => by
    rw [List.lookup_cons] at h
    by_cases e : a = x
    · subst e
      simp at h
      subst h
      exact List.mem_cons_self
    · have : (a == x) = false := by simpa using e
      rw [this] at h
      exact List.mem_cons_of_mem _ (lookup_mem h)
section
variable {X : Cx} {G : Gx}
theorem rep_ty {H : Hp} {O : List Addr} {x : V} {d : D} {u : Value} {b : Bool} (r : Rep X.K X.mg (cut H O) x d) (hne : ∀ c ds, d ≠ .exc c ds) (ok : TagOk X.K X.mg u (tag d, b)) : ∃ t, TyX X.K H x t ∧ PySem.W.kitOne X.K t u = some b := by
  cases r with
  | non => exact ⟨_, .base .non, ok⟩
  | bl c => exact ⟨_, .base (.bl c), ok⟩
  | int i => exact ⟨_, .base (.int i), ok⟩
  | str z => exact ⟨_, .base (.str z), ok⟩
  | tup hq rl =>
    rcases SqT.grow (Grow.ofCut H O) hq with (h | ⟨o, h⟩) | ⟨o, its, n, h, hc, _⟩
    · exact ⟨_, .base (.tup h), ok⟩
    · exact ⟨_, .fTuple h, ok⟩
    · exact ⟨_, .kTuple h hc, ok⟩
  | lst hq rl => exact ⟨_, .base (.lst (cut_some hq).2), ok⟩
  | scr hq =>
    rcases SqL.grow (Grow.ofCut H O) hq with (h | ⟨o, h⟩) | ⟨o, its, n, h, hc, _⟩
    · exact ⟨_, .base (.lst h), ok⟩
    · exact ⟨_, .base (.frz h), ok⟩
    · exact ⟨_, .kList h hc, ok⟩
  | obj h1 h2 h3 rl =>
    obtain ⟨C, hF, hk⟩ := ok
    rw [hF.g] at h1; cases h1
    exact ⟨_, .base (.ins (cut_some h2).2 hF.cl hF.ca hF.cn hF.ct hF.cm), hk⟩
  | exc h1 h2 h3 h4 rl => exact absurd rfl (hne _ _)
  | dic h1 h2 rl => exact ⟨_, .base (.dK (cut_some h1).2), ok⟩
  | dit h1 h2 rl => exact ⟨_, .base (.dT (cut_some h1).2), ok⟩
def isiD (t : List (Tg × Bool)) (d : D) : Option D := (t.lookup (tag d)).map D.bl
/-- the object of an exception -/
theorem xco_at {pins : List (Addr × Obj)} {σ : St} {H : Hp} {s : Shared} {a C : Addr} {d : Option Addr} {fs : List (Str × V)} (I : Inv X pins σ H s) (h : H a = some (xco a C d)) (hd : XAt H fs d) : ∃ (ox : Obj) (od : Option Obj), PySem.W.InstAt s.heap a ox C od ∧ (d = none → od = none) ∧ ∀ dd, d = some dd → ∃ (o : Obj) (mA : Str → Option Value), od = some o ∧ s.heap.get? dd = some o ∧ s.heap.Ns1 dd mA ∧ ∀ f, RelO (fs.lookup f) (mA f) := by
  have x : ObjOk X.prog X.w H s.heap a (xco a C d) := I.hok a _ h
  obtain ⟨⟨vs, sl, e⟩, _, _⟩ := x
  cases d with
  | none => exact ⟨_, none, ⟨e, rfl, rfl, trivial⟩, fun _ => rfl, fun dd z => by cases z⟩
  | some dd =>
    have hx : ∃ mA, s.heap.Ns1 dd mA ∧ ∀ f, RelO (fs.lookup f) (mA f) := by
      rcases hd with hd | hd
      · exact exd_at I.hok hd
      · have y : ObjOk X.prog X.w H s.heap dd (.xd fs) := I.hok dd _ hd
        exact y
    obtain ⟨mA, hns, rel⟩ := hx
    obtain ⟨o, es, ep, ho, hr⟩ := hns
    refine ⟨_, some o, ⟨e, rfl, rfl, ho⟩, (fun z => by cases z), fun dd' z => ?_⟩
    cases z
    exact ⟨o, mA, rfl, ho, ⟨o, es, ep, ho, hr⟩, rel⟩
def rIsiA (X : Cx) (cv : V) (t : List (Tg × Bool)) : List V → Hp → VK → Prop := fun xs H Q => ∃ O x d b, xs = [x, cv] ∧ Rep X.K X.mg (cut H O) x d ∧ t.lookup (tag d) = some b ∧ Q (.bl b) H
theorem call_isiA {cv : V} {u : Value} {t : List (Tg × Bool)} (hu : ClsV cv u) (ht : ∀ q ∈ t, TagOk X.K X.mg u q) : CallR X (.builtin "isinstance") (rIsiA X cv t) := by
  intro pins s σ H xs us Q I r h
  obtain ⟨O, x, d, b, rfl, rd, e, q⟩ := h
  have tg := ht _ (lookup_mem e)
  by_cases hx : ∃ c ds, d = .exc c ds
  · obtain ⟨c, ds, rfl⟩ := hx
    obtain ⟨C, F, hk⟩ := tg
    cases rd with
    | @exc a C' dd _ vs _ h1 h2 h3 h4 rl =>
      rw [F.g] at h1; cases h1
      have h3' : XAt H ((clsFlds c).zip vs) dd := h3.growW (Grow.ofCut H O).w
      obtain ⟨ox, od, J, _, _⟩ := xco_at I (cut_some h2).2 h3'
      cases r with
      | cons rx rr =>
        cases rr with
        | cons rt rr =>
          cases rr
          cases rx
          have e2 := hu.eq rt
          subst e2
          exact PySem.W.kia_one (PySem.W.kitx_exc F.cl F.ga F.gt F.sb F.ca F.cn F.ct F.cm) I.kIn J hk (fun z => nomatch z) fun tk => ⟨.bl b, H, I.tok tk, rfl, q⟩
  · obtain ⟨ty, h1, h2⟩ := rep_ty rd (fun c ds z => hx ⟨c, ds, z⟩) tg
    exact call_isi pins s σ H _ us Q I r ⟨x, cv, ty, u, b, rfl, hu, h1, h2, q⟩
theorem de_isi {e c : Expr} {p pos : Pos} {cv : V} {u : Value} {t : List (Tg × Bool)} {f : M D} (hg : Gl X "isinstance") (hm : X.mg "isinstance" = none) (he : DE X G e f) (hc : PE X c (tC cv)) (hu : ClsV cv u) (ht : ∀ q ∈ t, TagOk X.K X.mg u q)
    (hs : starEach [e, c] X.env = (false, eval e X.env) :: starEach [c] X.env := by rfl) (hs2 : starEach [c] X.env = (false, eval c X.env) :: starEach [] X.env := by rfl) (hpl : (backTo pos (starEach [c] X.env)).any (·.1) = false := by rfl) :
    DE X G (.Call (.Name "isinstance" p) [e, c] [] pos) (m1 (isiD t) f) :=
  pe_imp (pe_callB (call_isiA hu ht) hg hm rfl (pa_cons he (pa_cons hc pa_nil hs2) hs) (by decide) (by decide) hs hpl) fun σ H Q q => by
    obtain ⟨O, τ, z, τ', R, e, q⟩ := q
    obtain ⟨a, e1, e2⟩ := m1_some e
    refine ⟨O, τ, a, τ', R, e1, fun v H1 O1 l1 R1 r1 => ?_⟩
    obtain ⟨b, e3, rfl⟩ := map_some e2
    exact ⟨O1, v, a, b, rfl, r1, e3, q _ H1 O1 l1 R1 (.bl b)⟩
/-! ### signs of a text -/
def signsD (z : Str) : List D := z.cps.toList.map fun c => .str ⟨#[c]⟩
theorem wk_str {K : PySem.W.Frag} {mg : Str → Option Value} (z : Str) : Wk K mg (Its z) (signsD z) fun _ _ => True where
  mono := fun _ _ _ _ _ _ => trivial
  go := fun i d H O lv _ e => by
    unfold signsD at e
    rw [List.getElem?_map] at e
    obtain ⟨c, e1, rfl⟩ := map_some e
    have e2 : z.cps[i]? = some c := by rw [← Array.getElem?_toList]; exact e1
    refine ⟨(Array.getElem?_eq_some_iff.mp e2).1, fun x H' y => ?_⟩
    obtain ⟨rfl, c', h1, rfl⟩ := y
    rw [e2] at h1; cases h1
    exact ⟨Grow.refl _, .str _⟩
  stop := fun H O _ => by unfold signsD; simp [Its]
def iterD : D → Option (List D)
  | .lst l => some l
  | .tup l => some l
  | .scr ns => some (ns.map D.int)
  | .str z => some (signsD z)
  | _ => none
theorem di_any {tg e : Expr} {f : M D} (h : DE X G e f) : DI X G tg e (mBind f fun d => mLift (iterD d)) := pi_imp (pi_both (di_seq h) (pi_str h)) fun σ H R q => by
  obtain ⟨O, τ, items, τ', SRr, e1, q⟩ := q
  obtain ⟨d, e2, e3⟩ := mL_some e1
  have fin : itemsD d = some items → _ := fun hi => (.inl ⟨O, τ, items, τ', SRr, by unfold mBind mLift; simp [e2, hi], q⟩ : tDI X.K X.mg G (mBind f fun d => mLift (itemsD d)) σ H R ∨ iStr (tD X.K X.mg G f) σ H R)
  cases d with
  | lst l => exact fin e3
  | tup l => exact fin e3
  | scr l => exact fin e3
  | str z =>
    cases e3
    refine .inr ⟨O, τ, _, τ', SRr, e2, fun v H' O' l' R' r => ?_⟩
    cases r
    exact ⟨z, rfl, q _ H' O' _ l' R' (wk_str z) trivial⟩
  | _ => cases e3
/-! ### join -/
def joinD (a : D) (b : D) : Option D := match a, b with
  | .str x, .lst l => (asStrs l).bind fun ys => if (ys.map (·.length)).sum + ys.length * x.length ≤ 16777216 then some (.str (Txt.join x ys)) else none
  | .str x, .tup l => (asStrs l).bind fun ys => if (ys.map (·.length)).sum + ys.length * x.length ≤ 16777216 then some (.str (Txt.join x ys)) else none
  | _, _ => none
theorem de_join {o e : Expr} {apos pos : Pos} {fo fe : M D} (ho : DE X G o fo) (he : DE X G e fe) (hs : starEach [e] X.env = [(false, eval e X.env)] := by rfl) (hbase : attributeBase o "join" X.env (eval o X.env) = eval o X.env := by rfl) (hline : (apos.endLine == pos.line) = true := by rfl) :
    DE X G (.Call (.Attribute o "join" apos) [e] [] pos) (mBind fo fun a => match a with
      | .str _ => mBind fe fun b => mLift (joinD a b)
      | _ => fun _ => none) := pe_imp (pe_join ho he hs hbase hline) fun σ H Q q => by
  obtain ⟨O, τ, z, τ', R, e, q⟩ := q
  obtain ⟨a, τ1, e1, e⟩ := mBind_some e
  refine ⟨O, τ, a, τ1, R, e1, fun v H1 O1 l1 R1 r1 => ?_⟩
  cases r1 with
  | str x =>
    obtain ⟨b, e2, e3⟩ := mL_some (g := fun b => joinD (.str x) b) e
    refine ⟨⟨x, rfl⟩, O1, τ1, b, τ', R1, e2, fun w H2 O2 l2 R2 r2 => ?_⟩
    cases r2 with
    | lst hq rl =>
      obtain ⟨ys, e4, e5⟩ := Option.bind_eq_some_iff.mp e3
      split at e5
      · cases e5
        have := asStrs_ok rl e4; subst this
        exact ⟨x, _, ys, rfl, rfl, .inl (SqL.of (cut_some hq).2), by assumption, q _ H2 O2 (l1.trans l2) R2 (.str _)⟩
      · cases e5
    | tup hq rl =>
      obtain ⟨ys, e4, e5⟩ := Option.bind_eq_some_iff.mp e3
      split at e5
      · cases e5
        have := asStrs_ok rl e4; subst this
        exact ⟨x, _, ys, rfl, rfl, .inr (SqT.grow (Grow.ofCut _ _) hq), by assumption, q _ H2 O2 (l1.trans l2) R2 (.str _)⟩
      · cases e5
    | _ => cases e3
  | _ => cases e
/-! ### f-strings -/
def fmtD : D → Option D
  | .str y => if y.length ≤ sizeLine then some (.str y) else none
  | .int i => if i.natAbs.log2 < 1920 then some (.str (toString i)) else none
  | _ => none
theorem de_fmt {e : Expr} {pos : Pos} {f : M D} (he : DE X G e f) : DE X G (.FormattedValue e (-1) none pos) (m1 fmtD f) := pe_imp (pe_fmt he) fun σ H Q q => by
  obtain ⟨O, τ, z, τ', R, e, q⟩ := q
  obtain ⟨a, e1, e2⟩ := m1_some e
  refine ⟨O, τ, a, τ', R, e1, fun v H1 O1 l1 R1 r1 => ?_⟩
  cases r1 with
  | str y =>
    simp only [fmtD] at e2
    split at e2
    · cases e2; exact .inl ⟨y, rfl, by assumption, q _ H1 O1 l1 R1 (.str _)⟩
    · cases e2
  | int i =>
    simp only [fmtD] at e2
    split at e2
    · cases e2; exact .inr ⟨i, rfl, by assumption, q _ H1 O1 l1 R1 (.str _)⟩
    · cases e2
  | _ => cases e2
inductive DJ (X : Cx) (G : Gx) : List Expr → List (M D) → Prop where
  | nil : DJ X G [] []
  | cons {e : Expr} {t : M D} {es : List Expr} {ts : List (M D)} (h : DE X G e t) (r : DJ X G es ts) : DJ X G (e :: es) (t :: ts)
theorem DJ.pj {es : List Expr} {ts : List (M D)} (h : DJ X G es ts) : PJ X es (ts.map (tD X.K X.mg G)) := by
  induction h with
  | nil => exact .nil
  | cons h _ ih => exact .cons h ih
/-- the texts one behind the other -/
def jsF : List (M D) → Str → M D
  | [], acc => mPure (.str acc)
  | t :: ts, acc => mBind t fun d => match d with
    | .str y => if (acc ++ y).length ≤ sizeLine then jsF ts (acc ++ y) else fun _ => none
    | _ => fun _ => none
theorem tJs_of {σ : St} {Q : VK} : ∀ {ts : List (M D)} {acc : Str} {H : Hp}, tD X.K X.mg G (jsF ts acc) σ H Q → tJs (ts.map (tD X.K X.mg G)) acc σ H fun out H1 => Q (.str out) H1
  | [], acc, H, q => by
    obtain ⟨O, τ, z, τ', R, e, q⟩ := q
    cases e
    exact q _ H O (Le.refl _ _) R (.str _)
  | t :: ts, acc, H, q => by
    obtain ⟨O, τ, z, τ', R, e, q⟩ := q
    obtain ⟨d, τ1, e1, e⟩ := mBind_some e
    refine ⟨O, τ, d, τ1, R, e1, fun v H1 O1 l1 R1 r1 => ?_⟩
    cases r1 with
    | str y =>
      simp only at e
      split at e
      · rename_i hz
        exact ⟨y, rfl, hz, tJs_of ⟨O1, τ1, z, τ', R1, e, fun v H2 O2 l2 R2 r2 => q v H2 O2 (l1.trans l2) R2 r2⟩⟩
      · cases e
    | _ => cases e
theorem de_joined {v1 v2 : Expr} {rest : List Expr} {ts : List (M D)} {pos : Pos} (h : DJ X G (v1 :: v2 :: rest) ts) : DE X G (.JoinedStr (v1 :: v2 :: rest) pos) (jsF ts Str.empty) := pe_imp (pe_joined h.pj) fun σ H Q q => tJs_of q
theorem de_joined1 {e : Expr} {f : M D} {pos : Pos} (h : DE X G e f) : DE X G (.JoinedStr [e] pos) f := pe_joined1 h
/-! ### str, repr -/
def strD : List D → Option D
  | [.int i] => if i.natAbs.log2 < 1920 then some (.str (toString i)) else none
  | [.str x] => some (.str x)
  | _ => none
theorem c_str : CallD X (.type "str") strD := fun pins s σ H xs us Q I rx ⟨O, ds, z, lv, r, e, q⟩ => by
  match ds, r, e with
  | [.int i], .cons (.int _) .nil, e =>
    simp only [strD] at e
    split at e
    · cases e; exact call_str_int pins s σ H _ us Q I rx ⟨_, rfl, by assumption, q _ H (Grow.refl _) (.str _)⟩
    · cases e
  | [.str i], .cons (.str _) .nil, e => cases e; exact SkE.call_str_str pins s σ H _ us Q I rx ⟨_, rfl, q _ H (Grow.refl _) (.str _)⟩
end
mutual
theorem noDict : ∀ {d : D} {p : PyData}, toP d = some p → p.hasDict = false
  | .non, _, e => by cases e; rfl
  | .bl _, _, e => by cases e; rfl
  | .int _, _, e => by cases e; rfl
  | .str _, _, e => by cases e; rfl
  | .tup l, _, e => by obtain ⟨ps, e1, rfl⟩ := map_some e; exact noDicts e1
  | .lst l, _, e => by obtain ⟨ps, e1, rfl⟩ := map_some e; exact noDicts e1
  | .scr ns, _, e => by
    cases e
    show PyData.hasDictAll (ns.map PyData.int) = false
    induction ns with
    | nil => rfl
    | cons n ns ih => simpa [PyData.hasDictAll, PyData.hasDict] using ih
  | .obj _ _, _, e => by cases e
theorem noDicts : ∀ {ds : List D} {ps : List PyData}, toPs ds = some ps → PyData.hasDictAll ps = false
  | [], _, e => by cases e; rfl
  | d :: ds, _, e => by
    simp only [toPs] at e
    obtain ⟨p, e1, e2⟩ := Option.bind_eq_some_iff.mp e
    obtain ⟨q, e3, rfl⟩ := map_some e2
    simp [PyData.hasDictAll, noDict e1, noDicts e3]
end
section
variable {X : Cx} {G : Gx}
def reprP (p : PyData) : Option D := if p.showable = true ∧ p.depth ≤ 60 ∧ p.shown.length ≤ sizeLine then some (.str p.shown) else none
def reprD : List D → Option D
  | [d] => (toP d).bind reprP
  | _ => none
theorem c_repr {k : Nat} (hr : RoomN k X.A) (hgd : X.A.guards = some []) : CallD X (.builtin "repr") reprD := fun pins s σ H xs us Q I rx ⟨O, ds, z, lv, r, e, q⟩ => by
  match ds, r, e with
  | [d], .cons r1 .nil, e =>
    simp only [reprD] at e
    obtain ⟨p, e1, e2⟩ := Option.bind_eq_some_iff.mp e
    unfold reprP at e2
    split at e2
    · rename_i hp
      cases e2
      obtain ⟨u, rfl, ru⟩ := vals1 rx
      have dp := rep_dp r1 e1
      obtain ⟨as, hrd⟩ := Dp.reads I p _ _ dp ru
      have hun := hr.units
      have hq : ∀ h' u tk, (∀ b o, s.heap.get? b = some o → h'.get? b = some o) → EP X pins σ Q (.str p.shown u) { s with heap := h', toks := tk } := fun h' u tk hk => ⟨.str p.shown, H, I.kept hk, ⟨u, rfl⟩, q _ H (Grow.refl _) (.str _)⟩
      have hq0 : ∀ tk, EP X pins σ Q (.str p.shown s.toks) { s with toks := tk } := fun tk => ⟨.str p.shown, H, I.tok tk, ⟨_, rfl⟩, q _ H (Grow.refl _) (.str _)⟩
      cases dp with
      | non => cases ru; exact P.repr_of_none (hq0 _)
      | bl b => cases ru; exact P.repr_of_bool (hq0 _)
      | int i => obtain ⟨t, rfl⟩ := ru; exact P.repr_of_int (by simpa [PyData.showable] using hp.1) (hq0 _)
      | str x => obtain ⟨t, rfl⟩ := ru; exact P.repr_of_str (hq0 _) hp.2.2
      | lst h1 h2 =>
        cases ru
        exact repr_of_reads' hrd hp.1 (fun h => by rw [noDict e1] at h; cases h) hgd (by have := hp.2.1; omega) (fun _ _ e => e) hq hp.2.2
      | tup h1 h2 =>
        cases ru
        exact repr_of_reads' hrd hp.1 (fun h => by rw [noDict e1] at h; cases h) hgd (by have := hp.2.1; omega) (fun _ _ e => e) hq hp.2.2
    · cases e2
  | [], .nil, e => cases e
  | _ :: _ :: _, _, e => simp [reprD] at e
/-! ### sorted: ints -/
def insI (a : Int) : List Int → List Int
  | [] => [a]
  | b :: r => if a ≤ b then a :: b :: r else b :: insI a r
def sortI : List Int → List Int
  | [] => []
  | a :: r => insI a (sortI r)
theorem insI_perm (a : Int) : ∀ l, (insI a l).Perm (a :: l)
  | [] => .refl _
  | b :: r => by
    unfold insI
    split
    · exact .refl _
    · exact (List.Perm.cons b (insI_perm a r)).trans (List.Perm.swap a b r)
theorem sortI_perm : ∀ l, (sortI l).Perm l
  | [] => .refl _
  | a :: r => (insI_perm a _).trans (List.Perm.cons a (sortI_perm r))
theorem insI_sorted (a : Int) : ∀ l : List Int, l.Pairwise (· ≤ ·) → (insI a l).Pairwise (· ≤ ·)
  | [], _ => by simp [insI]
  | b :: r, h => by
    unfold insI
    rw [List.pairwise_cons] at h
    split
    · rename_i hab
      rw [List.pairwise_cons]
      refine ⟨fun y hy => ?_, List.pairwise_cons.mpr h⟩
      rcases List.mem_cons.mp hy with rfl | hy
      · exact hab
      · have := h.1 y hy; omega
    · rename_i hab
      rw [List.pairwise_cons]
      refine ⟨fun y hy => ?_, insI_sorted a r h.2⟩
      rcases List.mem_cons.mp ((insI_perm a r).mem_iff.mp hy) with rfl | hy
      · omega
      · exact h.1 y hy
theorem sortI_sorted : ∀ l, (sortI l).Pairwise (· ≤ ·)
  | [] => .nil
  | a :: r => insI_sorted a _ (sortI_sorted r)
theorem sorted_uniq : ∀ {l m : List Int}, l.Perm m → l.Pairwise (· ≤ ·) → m.Pairwise (· ≤ ·) → l = m
  | [], m, p, _, _ => by simpa using p.symm.eq_nil
  | a :: l, [], p, _, _ => by simpa using p.eq_nil
  | a :: l, b :: m, p, h1, h2 => by
    rw [List.pairwise_cons] at h1 h2
    have e : a = b := by
      have ha : a ∈ b :: m := p.mem_iff.mp List.mem_cons_self
      have hb : b ∈ a :: l := p.mem_iff.mpr List.mem_cons_self
      rcases List.mem_cons.mp ha with rfl | ha
      · rfl
      · rcases List.mem_cons.mp hb with rfl | hb
        · rfl
        · have := h1.1 b hb; have := h2.1 a ha; omega
    subst e
    rw [sorted_uniq (List.Perm.cons_inv p) h1.2 h2.2]
def sortedF : List D → Option (List D)
  | [.lst l] => (asInts l).map fun ns => (sortI ns).map D.int
  | _ => none
theorem f_sorted : VNF X (rSortedI X.K) sortedF := fun H O xs ds z Q lv r e q => by
  match ds, r, e with
  | [.lst l], .cons (.lst hq rl) .nil, e =>
    obtain ⟨ns, e1, rfl⟩ := map_some e
    have := asInts_ok rl e1; subst this
    refine ⟨_, ns, rfl, SqL.of (cut_some hq).2, fun ns' p h1 h2 hp => ?_⟩
    have : ns' = sortI ns := sorted_uniq (h1.trans (sortI_perm ns).symm) h2 (sortI_sorted ns)
    subst this
    exact q p _ hp (RepL.ints _)
def sortedD (ds : List D) : Option D := (sortedF ds).map D.lst
theorem c_sorted : CallD X (.builtin "sorted") sortedD := callD_of cr_sortedI f_sorted.vn
/-! ### calls of built-in functions, by data -/
theorem de_cB {x : Str} {p pos : Pos} {e : Expr} {es : List Expr} {id : String} {g : List D → Option D} {f : M (List D)} (hc : CallD X (.builtin id) g) (hg : Gl X x) (hm : X.mg x = none) (hv : bootBuiltins x = some (.builtin id)) (ha : DA X G (e :: es) f) (hn : x ≠ "__name__" := by decide) (hdb : (x == ("__debug__" : Str)) = false := by decide)
    (he : starEach (e :: es) X.env = (false, eval e X.env) :: starEach es X.env := by rfl) (hpl : (backTo pos (starEach es X.env)).any (·.1) = false := by rfl) : DE X G (.Call (.Name x p) (e :: es) [] pos) (mCall g f) := de_callB hc (vn_D g) hg hm hv ha hn hdb he hpl
theorem de_cT {x : Str} {p pos : Pos} {e : Expr} {es : List Expr} {id : String} {g : List D → Option D} {f : M (List D)} (hc : CallD X (.type id) g) (hg : Gl X x) (hm : X.mg x = none) (hv : bootBuiltins x = some (.type id)) (ha : DA X G (e :: es) f) (hn : x ≠ "__name__" := by decide) (hdb : (x == ("__debug__" : Str)) = false := by decide)
    (he : starEach (e :: es) X.env = (false, eval e X.env) :: starEach es X.env := by rfl) (hpl : (backTo pos (starEach es X.env)).any (·.1) = false := by rfl) : DE X G (.Call (.Name x p) (e :: es) [] pos) (mCall g f) := de_callTy hc (vn_D g) hg hm hv ha hn hdb he hpl
/-- a module's constant -/
theorem de_gl {x : Str} {v : V} {u : Value} {d : D} {pos : Pos} (hg : Gl X x) (hm : X.mg x = some u) (r : RelV v u) (rd : ∀ H, Rep X.K X.mg H v d) (hd : (x == ("__debug__" : Str)) = false := by decide) : DE X G (.Name x pos) (mPure d) := de_c (pe_glob hg hm r hd) rd
end
end Dv
set_option Elab.async false
set_option linter.all false
set_option maxRecDepth 100000
set_option maxHeartbeats 4000000
/-! DV13: == and != of own instances, str, bool -/
namespace Dv
open PySem L2
section
variable {prog : Program} {w : World} {A : Around} {E : Value → Shared → Prop} {s : Shared} {K : PySem.W.Frag} {x C f : Addr} {ox : Obj} {od : Option Obj} {b tb : Value}
theorem cmpOwn {op : CmpOp} {Q : Value → Shared → Prop} (hu : A.units < cLine) (X : K.In s.heap) (I : PySem.W.InstAt s.heap x ox C od) (hb : PySem.W.Looks (model prog w) s.heap (typeOf b) tb) (hn : PySem.W.notFirst K C tb = true)
    (one : wpAny (model prog w) A (tryCompare (.ref x) (cmpInfo op).2.1 b) (fun r s' => ∃ v, r = some v ∧ Q v s') E s) : wpAny (model prog w) A (richCompare op (.ref x) b) Q E s := by
  unfold richCompare
  simp only [PySem.oneThing_ref]
  refine wpAny_holding (wpAny_bind (wpAny_cRoomFor hu ?_))
  refine wpAny_bind (I.type.here (wpAny_bind (hb.here ?_)))
  split
  · rename_i q
    have e : PySem.W.subIn K tb (.ref C) = some false := by
      rcases Bool.or_eq_true_iff.mp hn with e | e
      · rw [beq_iff_eq.mp e] at q; simp at q
      · exact beq_iff_eq.mp e
    refine wpAny_bind ((PySem.W.looks_subIn X e).here ?_)
    simp only [Bool.false_eq_true, if_false]
    refine wpAny_bind (wpAny_mono one (fun r s' z => ?_) fun _ _ e => e)
    obtain ⟨v, rfl, hq⟩ := z
    exact wpAny_pure hq
  · refine wpAny_bind (wpAny_pure ?_)
    simp only [Bool.false_eq_true, if_false]
    refine wpAny_bind (wpAny_mono one (fun r s' z => ?_) fun _ _ e => e)
    obtain ⟨v, rfl, hq⟩ := z
    exact wpAny_pure hq
/-- the right operand's class is a subclass of the left one's -/
theorem cmpOwnR {op : CmpOp} {C' : Addr} {Q : Value → Shared → Prop} (hu : A.units < cLine) (X : K.In s.heap) (I : PySem.W.InstAt s.heap x ox C od) (hb : PySem.W.Looks (model prog w) s.heap (typeOf b) (.ref C')) (hne : C ≠ C') (hs : PySem.W.subIn K (.ref C') (.ref C) = some true)
    (one : wpAny (model prog w) A (tryCompare b (cmpInfo op).2.2 (.ref x)) (fun r s' => ∃ v, r = some v ∧ Q v s') E s) : wpAny (model prog w) A (richCompare op (.ref x) b) Q E s := by
  unfold richCompare
  simp only [PySem.oneThing_ref]
  refine wpAny_holding (wpAny_bind (wpAny_cRoomFor hu ?_))
  refine wpAny_bind (I.type.here (wpAny_bind (hb.here ?_)))
  have q : (Value.ref C != Value.ref C') = true := by simpa using hne
  rw [if_pos q]
  refine wpAny_bind ((PySem.W.looks_subIn X hs).here ?_)
  simp only [if_true]
  refine wpAny_bind (wpAny_mono one (fun r s' z => ?_) fun _ _ e => e)
  obtain ⟨v, rfl, hq⟩ := z
  exact wpAny_bind (wpAny_rule (wpAny_pure hq))
theorem tryFn {name : Str} {Q : Value → Shared → Prop} (X : K.In s.heap) (I : PySem.W.InstAt s.heap x ox C od) (hs : PySem.W.findIn K (.ref C) name = some (some (.ref f))) (hf : PySem.W.isFn K (.ref f) = true)
    (h : wpAny (model prog w) A (call (.ref f) [.ref x, b]) (PySem.W.CmpBack Q) E s) : wpAny (model prog w) A (tryCompare (.ref x) name b) (fun r s' => ∃ v, r = some v ∧ Q v s') E s := by
  unfold tryCompare
  refine wpAny_bind (PySem.W.ifBound_K X I hs hf (wpAny_mono h (fun v s' hv => ?_) fun _ _ e => e))
  cases v <;> first | exact hv.elim | exact wpAny_pure ⟨_, rfl, hv⟩
theorem ifBound_B {M : Model} {name : Str} {id : String} {args : List Value} {Q : Option Value → Shared → Prop} (X : K.In s.heap) (I : PySem.W.InstAt s.heap x ox C od) (hs : PySem.W.findIn K (.ref C) name = some (some (.builtin id)))
    (hb : ∀ self, bindSpecial (.builtin id) self = pure (.builtin id, [self])) (h : wpAny M A (call (.builtin id) (.ref x :: args)) (fun v => Q (some v)) E s) : wpAny M A (callSpecialIfBound? (.ref x) name args) Q E s := by
  simp only [callSpecialIfBound?, bindSpecialIfBound?]
  refine wpAny_holding (wpAny_bind (wpAny_bind (wpAny_bind (I.type.here ((PySem.W.looks_findIn X hs).here ?_)))))
  refine wpAny_bind (wpAny_askSetting (wpAny_ite ?_))
  have fin : wpAny M A (call (.builtin id) ([.ref x] ++ args) >>= fun v => pure (some v)) Q E s := wpAny_bind (wpAny_mono h (fun v s' h' => wpAny_pure h') fun _ _ h' => h')
  split
  · exact wpAny_bind ((PySem.W.Looks.of_pure (hb _)).here (wpAny_pure (by exact fin)))
  · exact wpAny_tryCatch (wpAny_bind ((PySem.W.Looks.of_pure (hb _)).here (wpAny_pure (by exact fin))))
theorem tryNe {name : Str} {Q : Value → Shared → Prop} (hu : A.in1.units < cLine) (X : K.In s.heap) (I : PySem.W.InstAt s.heap x ox C od) (hm : PySem.W.mroIn K C (.type "object") = some true) (hs : PySem.W.findIn K (.ref C) name = some (some (.builtin "object.__ne__"))) (he : PySem.W.findIn K (.ref C) "__eq__" = some (some (.ref f))) (hf : PySem.W.isFn K (.ref f) = true)
    (h : wpAny (model prog w) A.in1 (call (.ref f) [.ref x, b]) (fun v s' => ∃ r, v = .bool r ∧ Q (.bool (!r)) s') E s) : wpAny (model prog w) A (tryCompare (.ref x) name b) (fun r s' => ∃ v, r = some v ∧ Q v s') E s := by
  unfold tryCompare
  refine wpAny_bind (ifBound_B X I hs PySem.F.slot_object_ne.bind ?_)
  refine wpAny_call (codeAny_call_builtin PySem.F.slot_object_ne.plain PySem.F.cmpEntry_ne (PySem.W.check_slot (i := "object.__ne__") (owner := "object") (n := "__ne__") (by decide +kernel) (by decide +kernel) (I.type.andThen (PySem.W.looks_mroIn X hm)) (PySem.F.cmpArgs_ne _ _) ?_))
  unfold Builtin.«object.__ne__»
  refine wpAny_bind (m := PySem.slotArgs "__ne__" 1 _) (wpAny_pure ?_)
  refine wpAny_bind (m := cRoomFor _ _) (wpAny_cRoomFor hu ?_)
  refine wpAny_bind (m := callSpecialIfBound? (.ref x) (Str.ofString "__eq__") _) (PySem.W.ifBound_K X I he hf (wpAny_mono h (fun r s' hq => ?_) fun _ _ y => y))
  obtain ⟨r, rfl, hq⟩ := hq
  refine wpAny_bind (wpAny_pure ?_)
  exact wpAny_pure (wpAny_pure ⟨_, rfl, hq⟩)
end
end Dv
set_option Elab.async false
set_option linter.all false
set_option maxRecDepth 100000
set_option maxHeartbeats 4000000
/-! DV14: == and != of own instances on data; str(o), bool(o) -/
namespace Dv
open PySem L2
/-- the type of such data -/
def TgV (K : PySem.W.Frag) (mg : Str → Option Value) (u : Value) : Tg → Prop
  | .ty s => u = .type s
  | .cl c => ∃ C, ClsF K mg c C ∧ u = .ref C
  | .xc _ => False
section
variable {X : Cx} {G : Gx}
theorem rep_tyx {H : Hp} {O : List Addr} {x : V} {d : D} {u : Value} (r : Rep X.K X.mg (cut H O) x d) (ok : TgV X.K X.mg u (tag d)) : TyX X.K H x u := by
  cases r with
  | non => cases ok; exact .base .non
  | bl c => cases ok; exact .base (.bl c)
  | int i => cases ok; exact .base (.int i)
  | str z => cases ok; exact .base (.str z)
  | tup hq rl =>
    cases ok
    rcases SqT.grow (Grow.ofCut H O) hq with (h | ⟨o, h⟩) | ⟨o, its, n, h, hc, _⟩
    · exact .base (.tup h)
    · exact .fTuple h
    · exact .kTuple h hc
  | lst hq rl => cases ok; exact .base (.lst (cut_some hq).2)
  | scr hq =>
    cases ok
    rcases SqL.grow (Grow.ofCut H O) hq with (h | ⟨o, h⟩) | ⟨o, its, n, h, hc, _⟩
    · exact .base (.lst h)
    · exact .base (.frz h)
    · exact .kList h hc
  | obj h1 h2 h3 rl =>
    obtain ⟨C, hF, rfl⟩ := ok
    rw [hF.g] at h1; cases h1
    exact .base (.ins (cut_some h2).2 hF.cl hF.ca hF.cn hF.ct hF.cm)
  | exc h1 h2 h3 h4 rl => exact False.elim ok
  | dic h1 h2 rl => cases ok; exact .base (.dK (cut_some h1).2)
  | dit h1 h2 rl => cases ok; exact .base (.dT (cut_some h1).2)
/-- what is to be known of the classes for o == x: which one is asked -/
structure EqOk (K : PySem.W.Frag) (mg : Str → Option Value) (f : Addr) (p : (Nat × Tg) × Bool) : Prop where
  fst : p.2 = false → ∃ C tv, ClsF K mg p.1.1 C ∧ TgV K mg tv p.1.2 ∧ PySem.W.notFirst K C tv = true ∧ PySem.W.findIn K (.ref C) "__eq__" = some (some (.ref f)) ∧ PySem.W.findIn K (.ref C) "__ne__" = some (some (.builtin "object.__ne__"))
  snd : p.2 = true → ∃ C C' c', p.1.2 = .cl c' ∧ ClsF K mg p.1.1 C ∧ ClsF K mg c' C' ∧ C ≠ C' ∧ PySem.W.subIn K (.ref C') (.ref C) = some true ∧ PySem.W.findIn K (.ref C') "__eq__" = some (some (.ref f)) ∧ PySem.W.findIn K (.ref C') "__ne__" = some (some (.builtin "object.__ne__"))
def eqO (t : List ((Nat × Tg) × Bool)) (F : List D → Option D) (a b : D) : Option D := match a with
  | .obj c ds => (match t.lookup (c, tag b) with
    | some false => F [.obj c ds, b]
    | some true => F [b, .obj c ds]
    | none => none)
  | _ => none
theorem not_ni {v : V} {u : Value} (r : RelV v u) : u ≠ .notImplemented := by
  rintro rfl
  cases v <;> simp [RelV] at r
theorem cmpBack_of {pins : List (Addr × Obj)} {σ : St} {Q : VK} {u : Value} {s' : Shared} (h : EP X pins σ Q u s') : PySem.W.CmpBack (EP X pins σ Q) u s' := by
  have : u ≠ .notImplemented := by obtain ⟨v, H', _, r, _⟩ := h; exact not_ni r
  cases u <;> first | exact (this rfl).elim | exact h
theorem cmp_eq (a b : Value) : compareOp .Eq a b = richCompare .Eq a b := rfl
theorem cmp_ne (a b : Value) : compareOp .NotEq a b = richCompare .NotEq a b := rfl
theorem op_eqO {k : Nat} {f : Addr} {fd : FuncData} {ps : List Str} {F : List D → Option D} {t : List ((Nat × Tg) × Bool)} (ht : ∀ p ∈ t, EqOk X.K X.mg f p) (hf : PySem.W.isFn X.K (.ref f) = true) (Fn : FnG X.prog X.w X.K X.mg X.base k f fd ps (spD X.K X.mg ps.length F)) (hl : ps.length = 2) (hr : Room k X.A) (hgd : X.A.guards = some []) (hb : Binds X.K fd ps []) :
    OpD X (compareOp .Eq) (eqO t F) := fun pins s σ H x y v u Q I rx ry ⟨O, a, b, z, lv, ra, rb, e, q⟩ => by
  cases ra with
  | @obj ad C dx c xs ds h1 h2 h3 rl =>
    simp only [eqO] at e
    cases (show v = Value.ref ad from rx)
    obtain ⟨mA, Om, _⟩ := ins_get I.hok (cut_some h2).2
    obtain ⟨od, J, _⟩ := Om.look
    cases e1 : t.lookup (c, tag b) with
    | none => simp [e1] at e
    | some r =>
      have ok := ht _ (lookup_mem e1)
      have hx := rb
      cases r with
      | false =>
        simp only [e1] at e
        obtain ⟨C0, tv, hF, hT, hn, he, _⟩ := ok.fst rfl
        rw [hF.g] at h1; cases h1
        obtain ⟨P, Z, hp, _⟩ := kit_of I ry (rep_tyx rb hT)
        rw [cmp_eq]
        refine cmpOwn (op := .Eq) hr.units0 I.kIn J (Z.ty _ _ I.kIn hp) hn (tryFn (name := "__eq__") I.kIn J he hf ?_)
        refine wpAny_mono (wp_at (us := [.ref ad, u]) (vs := [.ref ad, y]) (Q := Q) Fn hr hgd I.env0 hb I (.cons rfl (.cons ry .nil)) ⟨O, _, z, by simp [hl], lv, .cons (.obj hF.g h2 h3 rl) (.cons rb .nil), e, q⟩) (fun _ _ h => cmpBack_of h) fun _ _ h => h
      | true =>
        simp only [e1] at e
        obtain ⟨C0, C', c', htag, hF, hF', hne, hsub, he, _⟩ := ok.snd rfl
        rw [hF.g] at h1; cases h1
        cases rb with
        | @obj ad' C1 dx' c1 xs' ds' g1 g2 g3 rl' =>
          simp only [tag] at htag
          cases htag
          rw [hF'.g] at g1; cases g1
          cases (show u = Value.ref ad' from ry)
          obtain ⟨mA', Om', _⟩ := ins_get I.hok (cut_some g2).2
          obtain ⟨od', J', _⟩ := Om'.look
          rw [cmp_eq]
          refine cmpOwnR (op := .Eq) hr.units0 I.kIn J J'.type hne hsub (tryFn (name := "__eq__") I.kIn J' he hf ?_)
          exact wpAny_mono (wp_at (us := [.ref ad', .ref ad]) (vs := [.ref ad', .ref ad]) (Q := Q) Fn hr hgd I.env0 hb I (.cons rfl (.cons rfl .nil)) ⟨O, _, z, by simp [hl], lv, .cons hx (.cons (.obj hF.g h2 h3 rl) .nil), e, q⟩) (fun _ _ h => cmpBack_of h) fun _ _ h => h
        | _ => cases htag
  | _ => simp [eqO] at e
def notB : D → Option D
  | .bl b => some (.bl (!b))
  | _ => none
def neO (t : List ((Nat × Tg) × Bool)) (F : List D → Option D) (a b : D) : Option D := (eqO t F a b).bind notB
theorem op_neO {k : Nat} {f : Addr} {fd : FuncData} {ps : List Str} {F : List D → Option D} {t : List ((Nat × Tg) × Bool)} (ht : ∀ p ∈ t, EqOk X.K X.mg f p) (hf : PySem.W.isFn X.K (.ref f) = true) (Fn : FnG X.prog X.w X.K X.mg X.base k f fd ps (spD X.K X.mg ps.length F)) (hl : ps.length = 2) (hr : Room (k + 1) X.A) (hgd : X.A.guards = some []) (hb : Binds X.K fd ps []) :
    OpD X (compareOp .NotEq) (neO t F) := fun pins s σ H x y v u Q I rx ry ⟨O, a, b, z, lv, ra, rb, e, q⟩ => by
  have e0 : (eqO t F a b).bind notB = some z := e
  clear e
  obtain ⟨z', e, ez⟩ := Option.bind_eq_some_iff.mp e0
  cases z' with
  | bl r0 =>
    cases ez
    have back : ∀ {u' : Value} {s' : Shared}, EP X pins σ (fun v H' => v = .bl r0 ∧ Grow H H') u' s' → ∃ r, u' = .bool r ∧ EP X pins σ Q (.bool (!r)) s' := by
      rintro u' s' ⟨v', H', I', rv, rfl, g'⟩
      cases (show u' = Value.bool r0 from rv)
      exact ⟨r0, rfl, .bl (!r0), H', I', rfl, q _ H' g' (.bl _)⟩
    cases ra with
    | @obj ad C dx c xs ds h1 h2 h3 rl =>
      simp only [eqO] at e
      cases (show v = Value.ref ad from rx)
      obtain ⟨mA, Om, _⟩ := ins_get I.hok (cut_some h2).2
      obtain ⟨od, J, _⟩ := Om.look
      cases e1 : t.lookup (c, tag b) with
      | none => simp [e1] at e
      | some r =>
        have ok := ht _ (lookup_mem e1)
        have hx := rb
        cases r with
        | false =>
          simp only [e1] at e
          obtain ⟨C0, tv, hF, hT, hn, he, hne⟩ := ok.fst rfl
          rw [hF.g] at h1; cases h1
          obtain ⟨P, Z, hp, _⟩ := kit_of I ry (rep_tyx rb hT)
          rw [cmp_ne]
          refine cmpOwn (op := .NotEq) hr.units0 I.kIn J (Z.ty _ _ I.kIn hp) hn (tryNe (name := "__ne__") hr.in1.units0 I.kIn J hF.cm hne he hf ?_)
          exact wpAny_mono (wp_at (us := [.ref ad, u]) (vs := [.ref ad, y]) (Q := fun v H' => v = .bl r0 ∧ Grow H H') Fn hr.in1 hgd I.env0.in1 hb I (.cons rfl (.cons ry .nil)) ⟨O, _, _, by simp [hl], lv, .cons (.obj hF.g h2 h3 rl) (.cons rb .nil), e, fun v H' g' rz => ⟨rep_bl rz, g'⟩⟩) (fun _ _ h => back h) fun _ _ h => h
        | true =>
          simp only [e1] at e
          obtain ⟨C0, C', c', htag, hF, hF', hne0, hsub, he, hne⟩ := ok.snd rfl
          rw [hF.g] at h1; cases h1
          cases rb with
          | @obj ad' C1 dx' c1 xs' ds' g1 g2 g3 rl' =>
            simp only [tag] at htag
            cases htag
            rw [hF'.g] at g1; cases g1
            cases (show u = Value.ref ad' from ry)
            obtain ⟨mA', Om', _⟩ := ins_get I.hok (cut_some g2).2
            obtain ⟨od', J', _⟩ := Om'.look
            rw [cmp_ne]
            refine cmpOwnR (op := .NotEq) hr.units0 I.kIn J J'.type hne0 hsub (tryNe (name := "__ne__") hr.in1.units0 I.kIn J' hF'.cm hne he hf ?_)
            exact wpAny_mono (wp_at (us := [.ref ad', .ref ad]) (vs := [.ref ad', .ref ad]) (Q := fun v H' => v = .bl r0 ∧ Grow H H') Fn hr.in1 hgd I.env0.in1 hb I (.cons rfl (.cons rfl .nil)) ⟨O, _, _, by simp [hl], lv, .cons hx (.cons (.obj hF.g h2 h3 rl) .nil), e, fun v H' g' rz => ⟨rep_bl rz, g'⟩⟩) (fun _ _ h => back h) fun _ _ h => h
          | _ => cases htag
    | _ => simp [eqO] at e
  | _ => cases ez
/-! ### str(o), bool(o) -/
/-- what is to be known for a method by its special name -/
structure SpOk (K : PySem.W.Frag) (mg : Str → Option Value) (m : Str) (f : Addr) (c : Nat) : Prop where
  ex : ∃ C, ClsF K mg c C ∧ PySem.W.findIn K (.ref C) m = some (some (.ref f))
def strO (cs : List Nat) (F : List D → Option D) : List D → Option D
  | [.obj c ds] => if c ∈ cs then (match F [.obj c ds] with
    | some (.str x) => some (.str x)
    | _ => none) else none
  | _ => none
theorem c_strO {k : Nat} {f : Addr} {fd : FuncData} {F : List D → Option D} {cs : List Nat} (ht : ∀ c ∈ cs, SpOk X.K X.mg "__str__" f c) (hf : PySem.W.isFn X.K (.ref f) = true) (Fn : FnG X.prog X.w X.K X.mg X.base k f fd ["self"] (spD X.K X.mg 1 F)) (hr : Room (k + 2) X.A) (hgd : X.A.guards = some []) (hb : Binds X.K fd ["self"] []) :
    CallD X (.type "str") (strO cs F) := fun pins s σ H xs us Q I rx ⟨O, ds, z, lv, r, e, q⟩ => by
  match ds, r, e with
  | [.obj c fs], .cons (@Rep.obj _ _ _ ad C1 dx _ xs1 _ h1 h2 h3 rl) .nil, e =>
    simp only [strO] at e
    split at e
    · rename_i hc
      obtain ⟨C0, hF, hs⟩ := (ht c hc).ex
      rw [hF.g] at h1; cases h1
      cases e1 : F [.obj c fs] with
      | none => simp [e1] at e
      | some z' =>
        cases z' with
        | str y =>
          simp only [e1] at e
          cases e
          obtain ⟨u, rfl, ru⟩ := vals1 rx
          cases (show u = Value.ref ad from ru)
          obtain ⟨mA, Om, _⟩ := ins_get I.hok (cut_some h2).2
          obtain ⟨od, J, _⟩ := Om.look
          refine PySem.W.kso_call hr.in1.in1.units0 I.kIn J hs hf ?_
          refine wpAny_mono (wp_at (us := [.ref ad]) (vs := [.ref ad]) (Q := fun v H' => v = .str y ∧ Grow H H') Fn hr.in1.in1 hgd I.env0.in1.in1 hb I (.cons rfl .nil) ⟨O, _, _, rfl, lv, .cons (.obj hF.g h2 h3 rl) .nil, e1, fun v H' g' rz => ⟨rep_str rz, g'⟩⟩) (fun u' s' h => ?_) fun _ _ h => h
          obtain ⟨v', H', I', rv, rfl, g'⟩ := h
          obtain ⟨t, rfl⟩ := (show ∃ t, u' = Value.str y t from rv)
          exact ⟨.str y, H', I', ⟨t, rfl⟩, q _ H' g' (.str _)⟩
        | _ => simp [e1] at e
    · cases e
end
end Dv
set_option Elab.async false
set_option linter.all false
set_option maxRecDepth 100000
set_option maxHeartbeats 4000000
/-! DV15: bool(o) -/
namespace Dv
open PySem L2
section
variable {K : PySem.W.Frag} {x C : Addr}
theorem truthyOwn0 {M : Model} {A : Around} {E : Value → Shared → Prop} {s : Shared} {ox : Obj} {od : Option Obj} {Q : Bool → Shared → Prop} (X : K.In s.heap) (I : PySem.W.InstAt s.heap x ox C od) (hs : PySem.W.findIn K (.ref C) "__bool__" = some none) (hl : PySem.W.findIn K (.ref C) "__len__" = some none)
    (h : Q true s) : wpAny M A (truthy (.ref x)) Q E s := by
  unfold truthy
  refine wpAny_bind (m := callSpecial? (.ref x) (Str.ofString "__bool__")) (wpAny_bind (wpAny_bind (I.type.here ((PySem.W.looks_findIn X hs).here (wpAny_pure ?_)))))
  refine wpAny_bind (wpAny_bind (I.type.here ((PySem.W.looks_findIn X hl).here ?_)))
  exact wpAny_pure h
theorem meets_bool_own0 (hs : PySem.W.findIn K (.ref C) "__bool__" = some none) (hl : PySem.W.findIn K (.ref C) "__len__" = some none) :
    Meets (Builtin.«bool.__new__» ⟨[.type "bool", .ref x], []⟩) (fun _ R s => (K.In s.heap ∧ ∃ ox od, PySem.W.InstAt s.heap x ox C od) ∧ R (.ok (.ret (.bool true))) s) :=
  Meets.of_wp fun prog w A R s hs' => by
    obtain ⟨⟨X, ox, od, I⟩, hs'⟩ := hs'
    have f1 := F.conv_sub_bool
    repeat (any_goals (first | assumption | (with_reducible refine truthyOwn0 X I hs hl ?_) | wp_step))
    all_goals first | exact ⟨_, rfl, hs'⟩ | exact hs' | skip
end
section
variable {X : Cx} {G : Gx}
/-- a class without __bool__ and __len__ -/
structure Bo0 (K : PySem.W.Frag) (mg : Str → Option Value) (c : Nat) : Prop where
  ex : ∃ C, ClsF K mg c C ∧ PySem.W.findIn K (.ref C) "__bool__" = some none ∧ PySem.W.findIn K (.ref C) "__len__" = some none
def boolO (cs : List Nat) : List D → Option D
  | [.obj c _] => if c ∈ cs then some (.bl true) else none
  | [.bl b] => some (.bl b)
  | [.int i] => some (.bl (i != 0))
  | [.lst l] => some (.bl (!l.isEmpty))
  | _ => none
theorem c_boolO {cs : List Nat} (ht : ∀ c ∈ cs, Bo0 X.K X.mg c) : CallD X (.type "bool") (boolO cs) := fun pins s σ H xs us Q I rx ⟨O, ds, z, lv, r, e, q⟩ => by
  match ds, r, e with
  | [.int i], .cons (.int _) .nil, e => cases e; exact call_bool1 pins s σ H _ us Q I rx (.inl ⟨_, rfl, q _ H (Grow.refl _) (.bl _)⟩)
  | [.bl i], .cons (.bl _) .nil, e => cases e; exact call_bool1 pins s σ H _ us Q I rx (.inr ⟨_, rfl, q _ H (Grow.refl _) (.bl _)⟩)
  | [.lst l], .cons (.lst hq rl) .nil, e => cases e; exact call_boolL pins s σ H _ us Q I rx ⟨_, _, rfl, SqL.of (cut_some hq).2, by rw [rl.isEmpty]; exact q _ H (Grow.refl _) (.bl _)⟩
  | [.obj c fs], .cons (@Rep.obj _ _ _ ad C1 dx _ xs1 _ h1 h2 h3 rl) .nil, e =>
    simp only [boolO] at e
    split at e
    · rename_i hc
      cases e
      obtain ⟨C0, hF, hs, hl⟩ := (ht c hc).ex
      rw [hF.g] at h1; cases h1
      obtain ⟨u, rfl, ru⟩ := vals1 rx
      cases (show u = Value.ref ad from ru)
      obtain ⟨mA, Om, _⟩ := ins_get I.hok (cut_some h2).2
      obtain ⟨od, J, _⟩ := Om.look
      exact call_bool_1 (meets_bool_own0 hs hl) ⟨⟨I.kIn, _, _, J⟩, rfl, .bl true, H, I, rfl, q _ H (Grow.refl _) (.bl _)⟩
    · cases e
end
end Dv
set_option Elab.async false
set_option linter.all false
set_option maxRecDepth 100000
set_option maxHeartbeats 4000000
/-! DV16: the law's end; what the head tells -/
namespace Dv
open PySem PySem.Spec PyProof.Rows L2
/-- the law's call, from its def's promise -/
theorem lawG {P : Program} {w : World} {K : PySem.W.Frag} {mg mb : Str → Option Value} {k : Nat} {fa a : Addr} {fd : FuncData} {x : Str} {sp : Sp} {t : Shared} {vs : List Value} {ns : List Int}
    (KX : K.In t.heap) (nG : t.heap.Ns mainGlobals mg) (nB : t.heap.Ns builtinsNs mb) (nb : ∀ x : Str, x ≠ "__name__" → mb x = bootBuiltins x) (lim : t.heap.NoLimit) (g0 : t.gens = #[])
    (ob : t.heap.get? a = some { cls := .type "list", data := .seq vs.toArray }) (hi : IntsAre vs ns) (hl : ns.length ≤ sizeLine) (hr : Room k callerA)
    (F : ∀ base : Heap, K.In base → base.Ns mainGlobals mg → FnG P w K mg base k fa fd [x] sp) (bd : ∀ (s : Shared) (u : Value), BindsTo s fd ⟨[u], []⟩ [(x, u)])
    (hs : ∀ H : Hp, SqL K H a (ns.map V.int) → sp [.ref a] H (fun v _ => v = .bl true) E0) :
    codeAny (model P w) callerA (.call (.ref fa) ⟨[.ref a], []⟩) (fun r s' => r = .ok (.ret (.bool true)) ∧ OldK t.heap s'.heap ∧ s'.os = t.os ∧ AllBare s'.gens) t := by
  have rv := vals_ints hi
  have lv := hi.length
  have main : ∀ H : Hp, Only H → SqL K H a (ns.map V.int) → HOk P w H t.heap → (∀ b, H b ≠ none → b = a) → (H a ≠ none → K.lookup a = none) →
      codeAny (model P w) callerA (.call (.ref fa) ⟨[.ref a], []⟩) (fun r s' => r = .ok (.ret (.bool true)) ∧ OldK t.heap s'.heap ∧ s'.os = t.os ∧ AllBare s'.gens) t := by
    intro H on sq hk only nk
    have hid : ∀ {b : Addr} {o : Obj}, t.heap.get? b = some o → H b = none → (hidT t.heap H).get? b = some o := fun e n => hidT_get e n
    have free : ∀ {b : Addr} {o : Obj} {es : Array DictEntry} {ep : Nat}, t.heap.get? b = some o → o.data = .dict es ep → H b = none := fun {b o es ep} e d => by
      by_cases q : H b = none
      · exact q
      · have eb := only b q
        subst eb
        rw [ob] at e; cases e
        exact (nomatch (show Data.seq vs.toArray _ = Data.dict es ep from d))
    have keepN : ∀ {b : Addr} {m : Str → Option Value}, t.heap.Ns b m → (hidT t.heap H).Ns b m := fun ⟨o, es, ep, e, d, r⟩ => ⟨o, es, ep, hid e (free e d), d, r⟩
    have inK : K.In (hidT t.heap H) := fun b o e => hid (KX b o e) (by
      by_cases q : H b = none
      · exact q
      · have eb := only b q
        subst eb
        rw [nk q] at e; cases e)
    have mo : Mod K mg (hidT t.heap H) := ⟨inK, keepN nG, ⟨mb, keepN nB, nb⟩, let ⟨mc, h1, h2⟩ := lim; ⟨mc, keepN h1, h2⟩⟩
    have nil : ∀ {b : Addr}, ¬ b ∈ ([] : List Addr) := fun h => absurd h (by simp)
    have en : Env0 P w K mg (hidT t.heap H) callerA [] t H := ⟨rfl, mo, fun b o e => of_hidT e, Nat.le_of_eq (hidT_size _ _), trivial, fun b hb => absurd hb nil, hk, .of_eq g0⟩
    refine codeAny_mono ((F _ inK (keepN nG)).run callerA [] t H ⟨[.ref a], []⟩ [.ref a] [.ref a] _ E0 hr rfl en (bd t (.ref a)) (.cons rfl .nil) (hs H sq)) ?_
    rintro (e | fl) s' h
    · exact False.elim h
    cases fl with
    | ret u =>
      obtain ⟨v, H', os, bare, un, hok', r', q⟩ := h
      obtain rfl : v = .bl true := q
      obtain rfl : u = Value.bool true := r'
      refine ⟨rfl, OldK.of_keep fun b o e => ?_, os, bare⟩
      rcases on b with z | ⟨oz, xs, z⟩
      · exact un.keep b o e z nil (by simp)
      · have z2 := un.frzs b oz _ z
        have e1 := (hk b _ z).1
        have e2 := (hok' b _ z2).1
        rw [e] at e1; cases e1
        exact e2
    | _ => exact False.elim h
  cases hk : K.lookup a with
  | some o =>
    have e := KX a o hk
    rw [ob] at e
    cases e
    exact main (fun _ => none) (fun _ => .inl rfl) (.inr ⟨_, vs.toArray, _, hk, rfl, rfl, rfl, by rw [List.size_toArray, lv]; exact hl, by simpa using rv⟩) (fun b u z => nomatch (show (none : Option HO) = some u from z)) (fun b z => absurd rfl z) fun z => absurd rfl z
  | none =>
    refine main (fun b => if b = a then some (.frz { cls := .type "list", data := .seq vs.toArray } (.lst (ns.map V.int))) else none) (fun b => ?_) (.inl (.inr ⟨_, if_pos rfl⟩)) (fun b u z => ?_) (fun b z => ?_) fun _ => hk
    · by_cases eb : b = a
      · exact .inr ⟨_, _, if_pos eb⟩
      · exact .inl (if_neg eb)
    · by_cases eb : b = a
      · cases (if_pos eb).symm.trans z
        subst eb
        exact ⟨ob, by rw [List.length_map]; exact hl, vs, _, rv, ob⟩
      · cases (if_neg eb).symm.trans z
    · by_cases eb : b = a
      · exact eb
      · exact absurd (if_neg eb) z
/-- a law's end -/
theorem walkG {l : PySem.W.OpenLaw} {n k : Nat} {q : Program} {loose : List Str} {XP : (Str → Option Value) → Heap → Prop} {YP : World → Heap → Prop} {d : DefRec} {x : Str}
    (hn : l.most = some n) (hn2 : n ≤ sizeLine) (hdf : d.params.defaults = []) (hr : Room k callerA)
    (F : ∀ (w : World) (mg : Str → Option Value) (fa : Addr) (h : Heap), YP w h → h.Ns mainGlobals mg → mg d.name = some (.ref fa) →
      ∃ (K : PySem.W.Frag) (fd : FuncData) (f : List D → Option D), K.In h ∧ (∀ (s : Shared) (u : Value), BindsTo s fd ⟨[u], []⟩ [(x, u)]) ∧
        (∀ ns : List Int, ns.length ≤ n → f [.scr ns] = some (.bl true)) ∧
        ∀ base : Heap, K.In base → base.Ns mainGlobals mg → FnG l.prog w K mg base k fa fd [x] (spD K mg 1 f)) :
    PySem.W.WalkO q loose XP YP l.row.toRowW d [] (fun f vs => PySem.call f vs) := by
  refine Att.attach_call hn hdf fun w s₀ t mg mb fa o pm cd doc a vs ns G Y ho hd hcd hmg hobj hints hlen hg => ?_
  obtain ⟨K, fd, f, KX, hb, hf, hF⟩ := F w mg fa _ Y G.T.g hmg
  refine lawG KX G.T.g G.T.b G.T.builtins G.T.nolimit hg hobj hints (Nat.le_trans hlen hn2) hr hF hb fun H sq => ?_
  exact ⟨[], [.scr ns], .bl true, rfl, Live.nil H, .cons (.scr (by rw [cut_nil]; exact sq)) .nil, hf ns hlen, fun v H' _ r => rep_bl r⟩

/-! ### what the head tells -/
theorem DefX.funD {K : PySem.W.Frag} {d : DefX} (e : obV K (d.at_ K) = d.val) (c : d.ok K = true) : ∃ fd, FunD K d.name d.qual d.params d.body d.scope (d.dfl K) d.kwd (d.at_ K) fd := by
  obtain ⟨kp, c⟩ := He.ba c
  unfold obV at e
  cases q : K.lookup (d.at_ K) with
  | none => rw [q] at c; cases c
  | some o =>
    obtain ⟨oc, od, dt, osl⟩ := o
    rw [q] at c e
    cases dt with
    | func fd =>
      obtain ⟨n1, n2, n3, n4, n5, n6, n7, n8, n9, n10, n11, n12, n13, n14, n15⟩ := fd
      have e2 : (some (n1, n2, n3, n4, n5, n6, n7, n15) : He.FnW) = some (d.name, d.qual, d.params, .stmts d.body, d.scope, mainGlobals, [], builtinsNs) := e
      simp only [Option.some.injEq, Prod.mk.injEq] at e2
      obtain ⟨h1, h2, h3, h4, h5, h6, h7, h8⟩ := e2
      subst h1 h2 h3 h4 h5 h6 h7 h8
      obtain ⟨k1, k2⟩ := He.ba (show (PySem.W.codeIn K n13 d.qual && (He.dflB K n8 (d.dfl K) && He.kwdB K n9 d.kwd)) = true from c)
      obtain ⟨k3, k4⟩ := He.ba k2
      exact ⟨_, ⟨oc, od, n8, n9, n10, n11, n12, n13, n14, osl, rfl, q, k1, He.dflB_ok k3, He.kwdB_ok k4⟩, kp⟩
    | _ => cases c
def SaysX (fa : List (PySem.W.Frag → Bool)) (fn : List DefX) (K : PySem.W.Frag) : Prop := obX fa fn K = vaX fn
def obXG (n : Nat) (fa : List (PySem.W.Frag → Bool)) (fn : List DefX) (g : Addr → Option Obj) : He.AlD := obX fa fn (He.frG g (He.asD g n))
def hookX (n : Nat) (fa : List (PySem.W.Frag → Bool)) (fn : List DefX) : PySem.W.Hook where
  α := He.AlD
  obs := fun s => obXG n fa fn s.heap.get?
  val := fun _ => vaX fn
  says := fun _ h => ∃ K : PySem.W.Frag, K.In h ∧ SaysX fa fn K
  of := fun _ _ e => ⟨_, He.frG_in, e⟩
  keeps := fun _ _ _ ⟨K, hK, c⟩ k => ⟨K, PySem.W.Frag.In.keeps hK k, c⟩
theorem obXG_eq {n : Nat} {fa : List (PySem.W.Frag → Bool)} {fn : List DefX} {g : Addr → Option Obj} {s : Shared} (h : ∀ a, g a = s.heap.get? a) : obXG n fa fn g = (hookX n fa fn).obs s := by
  have e : g = s.heap.get? := funext h
  rw [e]; rfl
section
variable {fa : List (PySem.W.Frag → Bool)} {fn : List DefX} {K : PySem.W.Frag}
theorem SaysX.fact (c : SaysX fa fn K) (i : Nat) {f : PySem.W.Frag → Bool} (h : fa[i]? = some f := by rfl) : f K = true :=
  List.all_eq_true.mp (He.ba (show ((fa.all fun f => f K) && fn.all fun d => d.ok K) = true from congrArg (fun z : He.AlD => z.1) c)).1 f (List.mem_of_getElem? h)
theorem SaysX.def_ (c : SaysX fa fn K) (i : Nat) {d : DefX} (h : fn[i]? = some d := by rfl) : ∃ fd, FunD K d.name d.qual d.params d.body d.scope (d.dfl K) d.kwd (d.at_ K) fd := by
  have c2 := (He.ba (show ((fa.all fun f => f K) && fn.all fun d => d.ok K) = true from congrArg (fun z : He.AlD => z.1) c)).2
  have e : fn.map (fun d => obV K (d.at_ K)) = fn.map DefX.val := congrArg (fun z : He.AlD => z.2) c
  have e2 : (fn.map fun d => obV K (d.at_ K))[i]? = (fn.map DefX.val)[i]? := by rw [e]
  rw [List.getElem?_map, List.getElem?_map, h] at e2
  exact DefX.funD (Option.some.inj e2) (List.all_eq_true.mp c2 d (List.mem_of_getElem? h))
end
/-! ### addresses -/
theorem clB_ok {K : PySem.W.Frag} {h : Heap} {mg : Str → Option Value} (X : K.In h) (G : h.Ns mainGlobals mg) {c : Nat} (e : clB K (clsName c) = true) : ClsF K mg c (He.ga K (clsName c)) := by
  obtain ⟨h1, e⟩ := He.ba e
  obtain ⟨h2, e⟩ := He.ba e
  obtain ⟨h3, e⟩ := He.ba e
  obtain ⟨h4, e⟩ := He.ba e
  obtain ⟨h5, h6⟩ := He.ba e
  exact ⟨He.glo_ok X G h1, He.cls_ok h2, He.eqO_ok h3, of_decide_eq_true h4, of_decide_eq_true h5, of_decide_eq_true h6⟩
theorem propB_ok {K : PySem.W.Frag} {x m : Str} (e : propB K x m = true) : PropOf K (He.ga K x) m (He.ma K (He.ga K x) m) (pGet K (He.ma K (He.ga K x) m)) := by
  obtain ⟨h1, e⟩ := He.ba e
  obtain ⟨h2, e⟩ := He.ba e
  obtain ⟨h3, h4⟩ := He.ba e
  refine ⟨He.eqO_ok h1, of_decide_eq_true h2, of_decide_eq_true h3, ?_⟩
  have h4 := of_decide_eq_true h4
  obtain ⟨l, e1, e2⟩ := Option.bind_eq_some_iff.mp h4
  cases l with
  | nil => cases e2
  | cons a r => cases e2; exact ⟨r, e1⟩
end Dv
set_option Elab.async false
set_option linter.all false
set_option maxRecDepth 100000
set_option maxHeartbeats 4000000
/-! DV17: how a call's values come to the parameters -/
namespace Dv
open PySem PySem.Spec PyProof.Rows L2
/-- where a parameter's value comes from: the i-th written one, default, keyword-only default, keyword -/
inductive Src where
  | p (i : Nat) | d (i : Nat) | m (i : Nat) | k (i : Nat)
def Src.get {α : Type} (us its mv ws : List α) : Src → Option α
  | .p i => us[i]?
  | .d i => its[i]?
  | .m i => mv[i]?
  | .k i => ws[i]?
def pick {α : Type} (src : List Src) (us its mv ws : List α) : List α := src.filterMap (Src.get us its mv ws)
def Src.ok (a b c e : Nat) : Src → Bool
  | .p i => decide (i < a)
  | .d i => decide (i < b)
  | .m i => decide (i < c)
  | .k i => decide (i < e)
def Src.up : Src → Src
  | .p i => .p (i + 1)
  | s => s
theorem getV : ∀ {vs : List V} {us : List Value} (i : Nat), Vals vs us → (vs[i]? = none ∧ us[i]? = none) ∨ ∃ v u, vs[i]? = some v ∧ us[i]? = some u ∧ RelV v u
  | _, _, _, .nil => .inl ⟨rfl, rfl⟩
  | _, _, 0, .cons r _ => .inr ⟨_, _, rfl, rfl, r⟩
  | _, _, i + 1, .cons _ t => by simpa using getV i t
theorem getR {K : PySem.W.Frag} {mg : Str → Option Value} {H : Hp} : ∀ {vs : List V} {us : List D} (i : Nat), RepL K mg H vs us → (vs[i]? = none ∧ us[i]? = none) ∨ ∃ v u, vs[i]? = some v ∧ us[i]? = some u ∧ Rep K mg H v u
  | _, _, _, .nil => .inl ⟨rfl, rfl⟩
  | _, _, 0, .cons r _ => .inr ⟨_, _, rfl, rfl, r⟩
  | _, _, i + 1, .cons _ t => by simpa using getR i t
theorem pick_vals {vs ds mz zs : List V} {us its mv ws : List Value} (h1 : Vals vs us) (h2 : Vals ds its) (h3 : Vals mz mv) (h4 : Vals zs ws) : ∀ src : List Src, Vals (pick src vs ds mz zs) (pick src us its mv ws)
  | [] => .nil
  | s :: r => by
    have key : (s.get vs ds mz zs = none ∧ s.get us its mv ws = none) ∨ ∃ v u, s.get vs ds mz zs = some v ∧ s.get us its mv ws = some u ∧ RelV v u := by
      cases s with
      | p i => exact getV i h1
      | d i => exact getV i h2
      | m i => exact getV i h3
      | k i => exact getV i h4
    have ih := pick_vals h1 h2 h3 h4 r
    unfold pick at ih ⊢
    rcases key with ⟨e1, e2⟩ | ⟨v, u, e1, e2, q⟩
    · rw [List.filterMap_cons_none e1, List.filterMap_cons_none e2]; exact ih
    · rw [List.filterMap_cons_some e1, List.filterMap_cons_some e2]; exact .cons q ih
theorem pick_rep {K : PySem.W.Frag} {mg : Str → Option Value} {H : Hp} {vs ds mz zs : List V} {us its mv ws : List D} (h1 : RepL K mg H vs us) (h2 : RepL K mg H ds its) (h3 : RepL K mg H mz mv) (h4 : RepL K mg H zs ws) : ∀ src : List Src, RepL K mg H (pick src vs ds mz zs) (pick src us its mv ws)
  | [] => .nil
  | s :: r => by
    have key : (s.get vs ds mz zs = none ∧ s.get us its mv ws = none) ∨ ∃ v u, s.get vs ds mz zs = some v ∧ s.get us its mv ws = some u ∧ Rep K mg H v u := by
      cases s with
      | p i => exact getR i h1
      | d i => exact getR i h2
      | m i => exact getR i h3
      | k i => exact getR i h4
    have ih := pick_rep h1 h2 h3 h4 r
    unfold pick at ih ⊢
    rcases key with ⟨e1, e2⟩ | ⟨v, u, e1, e2, q⟩
    · rw [List.filterMap_cons_none e1, List.filterMap_cons_none e2]; exact ih
    · rw [List.filterMap_cons_some e1, List.filterMap_cons_some e2]; exact .cons q ih
theorem pick_length {α : Type} {us its mv ws : List α} : ∀ {src : List Src}, (src.all (Src.ok us.length its.length mv.length ws.length)) = true → (pick src us its mv ws).length = src.length
  | [], _ => rfl
  | s :: r, h => by
    rw [List.all_cons, Bool.and_eq_true] at h
    have key : ∃ v, s.get us its mv ws = some v := by
      cases s with
      | p i => exact ⟨_, List.getElem?_eq_getElem (of_decide_eq_true h.1)⟩
      | d i => exact ⟨_, List.getElem?_eq_getElem (of_decide_eq_true h.1)⟩
      | m i => exact ⟨_, List.getElem?_eq_getElem (of_decide_eq_true h.1)⟩
      | k i => exact ⟨_, List.getElem?_eq_getElem (of_decide_eq_true h.1)⟩
    obtain ⟨v, e⟩ := key
    have ih := pick_length h.2
    unfold pick at ih ⊢
    rw [List.filterMap_cons_some e]
    simp [ih]
theorem pick_up {α : Type} {x : α} {us its mv ws : List α} : ∀ src : List Src, pick (src.map Src.up) (x :: us) its mv ws = pick src us its mv ws
  | [] => rfl
  | s :: r => by
    have e : (s.up).get (x :: us) its mv ws = s.get us its mv ws := by cases s <;> rfl
    have ih := pick_up (x := x) (us := us) (its := its) (mv := mv) (ws := ws) r
    unfold pick at ih ⊢
    rw [List.map_cons]
    cases q : s.get us its mv ws with
    | none => rw [q] at e; rw [List.filterMap_cons_none e, List.filterMap_cons_none q]; exact ih
    | some v => rw [q] at e; rw [List.filterMap_cons_some e, List.filterMap_cons_some q, ih]
def plainD : D → Bool
  | .non | .bl _ | .int _ | .str _ => true
  | _ => false
theorem rep_cV {K : PySem.W.Frag} {mg : Str → Option Value} {H : Hp} : ∀ {ds : List D}, ds.all plainD = true → RepL K mg H (ds.map cV) ds
  | [], _ => .nil
  | d :: r, h => by
    rw [List.all_cons, Bool.and_eq_true] at h
    refine .cons ?_ (rep_cV h.2)
    cases d <;> first | exact .non | exact .bl _ | exact .int _ | exact .str _ | exact absurd h.1 (by simp [plainD])
section
variable {K : PySem.W.Frag} {mg : Str → Option Value} {fd : FuncData} {ps ks : List Str} {n : Nat} {src : List Src} {dd md : List D}
/-- from a binding of values to one of data -/
theorem KB.of {g : List Value → List Value → List Value} (h : KBn K fd ps n ks g (fun vs zs => pick src vs (dd.map cV) (md.map cV) zs)) (hp : (dd ++ md).all plainD = true) (hl : src.length = ps.length) (ho : src.all (Src.ok n dd.length md.length ks.length) = true) : KB K mg fd ps n ks fun ds es => pick src ds dd md es := by
  rw [List.all_append, Bool.and_eq_true] at hp
  refine ⟨⟨g, _, h, fun H vs zs ds es r1 r2 l1 l2 => ⟨pick_rep r1 (rep_cV hp.1) (rep_cV hp.2) r2 src, ?_⟩⟩⟩
  rw [pick_length (by simpa [l1, l2] using ho), hl]
/-- the same behind self -/
theorem KI.of {g : List Value → List Value → List Value} (h : KBn K fd ps (n + 1) ks g (fun vs zs => pick (.p 0 :: src.map Src.up) vs (dd.map cV) (md.map cV) zs)) (hp : (dd ++ md).all plainD = true) (hl : src.length + 1 = ps.length) (ho : src.all (Src.ok n dd.length md.length ks.length) = true) : KI K mg fd ps n ks fun ds es => pick src ds dd md es := by
  rw [List.all_append, Bool.and_eq_true] at hp
  refine ⟨⟨g, _, fun vs zs => pick src vs (dd.map cV) (md.map cV) zs, h, fun H x vs zs ds es r1 r2 l1 l2 => ⟨?_, pick_rep r1 (rep_cV hp.1) (rep_cV hp.2) r2 src, ?_⟩⟩⟩
  · show pick (.p 0 :: src.map Src.up) (x :: vs) _ _ zs = x :: _
    have e : pick (.p 0 :: src.map Src.up) (x :: vs) (dd.map cV) (md.map cV) zs = x :: pick (src.map Src.up) (x :: vs) (dd.map cV) (md.map cV) zs := rfl
    rw [e, pick_up]
  · rw [pick_length (by simpa [l1, l2] using ho), hl]
/-- the same where defaults are objects -/
theorem KB.ofV {dv : List V} {g : List Value → List Value → List Value} (h : KBn K fd ps n ks g (fun vs zs => pick src vs dv (md.map cV) zs)) (hd : ∀ H, RepL K mg H dv dd) (hp : md.all plainD = true) (hl : src.length = ps.length) (ho : src.all (Src.ok n dd.length md.length ks.length) = true) : KB K mg fd ps n ks fun ds es => pick src ds dd md es := by
  refine ⟨⟨g, _, h, fun H vs zs ds es r1 r2 l1 l2 => ⟨pick_rep r1 (hd H) (rep_cV hp) r2 src, ?_⟩⟩⟩
  rw [pick_length (by simpa [l1, l2, (hd H).length] using ho), hl]
theorem KI.ofV {dv : List V} {g : List Value → List Value → List Value} (h : KBn K fd ps (n + 1) ks g (fun vs zs => pick (.p 0 :: src.map Src.up) vs dv (md.map cV) zs)) (hd : ∀ H, RepL K mg H dv dd) (hp : md.all plainD = true) (hl : src.length + 1 = ps.length) (ho : src.all (Src.ok n dd.length md.length ks.length) = true) : KI K mg fd ps n ks fun ds es => pick src ds dd md es := by
  refine ⟨⟨g, _, fun vs zs => pick src vs dv (md.map cV) zs, h, fun H x vs zs ds es r1 r2 l1 l2 => ⟨?_, pick_rep r1 (hd H) (rep_cV hp) r2 src, ?_⟩⟩⟩
  · show pick (.p 0 :: src.map Src.up) (x :: vs) _ _ zs = x :: _
    have e : pick (.p 0 :: src.map Src.up) (x :: vs) dv (md.map cV) zs = x :: pick (src.map Src.up) (x :: vs) dv (md.map cV) zs := rfl
    rw [e, pick_up]
  · rw [pick_length (by simpa [l1, l2, (hd H).length] using ho), hl]
theorem tupE_ok {K : PySem.W.Frag} {mg : Str → Option Value} {a : Addr} (h : tupE K a = true) (H : Hp) : Rep K mg H (.ref a) (.tup []) := by
  unfold tupE at h
  split at h
  · rename_i e
    exact .tup (.inr ⟨_, _, _, e, rfl, rfl, by decide, .nil⟩) .nil
  · cases h
variable {x qual : Str} {params : Arguments} {body : List Stmt} {scope : Scope} {kws : List (Str × V)} {f : Addr}
/-- no defaults at all, some parameters by name -/
theorem kb00 (F : FunD K x qual params body scope [] kws f fd) (src : List Src) (h : ∀ (kV doc pm : Value) (an : Option Addr) (cdv ct : Value) (us ws : List Value), us.length = n → ws.length = ks.length → bindArgs (PySem.W.fnOf x qual params body scope .none kV doc pm an cdv ct) ⟨us, ks.zip ws⟩ = pure (ps.zip (pick src us [] [] ws))) :
    KBn K fd ps n ks (fun us ws => pick src us [] [] ws) (fun vs zs => pick src vs [] [] zs) := by
  obtain ⟨oc, od, dV, kV, doc, pm, an, cdv, ct, osl, rfl, lk, hcd, hD, hK⟩ := F.ex
  rcases hD with ⟨_, rfl⟩ | ⟨e, _⟩
  · exact ⟨fun s us ws X l1 l2 => .of_eq (h kV doc pm an cdv ct us ws l1 l2), fun r1 r2 => pick_vals r1 .nil .nil r2 src⟩
  · exact absurd rfl e
end
end Dv
set_option Elab.async false
set_option linter.all false
set_option maxRecDepth 100000
set_option maxHeartbeats 4000000
/-! DV18: the rules as the printed texts use them -/
namespace Dv
open PySem PySem.Spec PyProof.Rows L2
abbrev DefX.fun (d : DefX) (K : PySem.W.Frag) (fd : FuncData) : Prop := FunD K d.name d.qual d.params d.body d.scope (d.dfl K) d.kwd (d.at_ K) fd
/-- a def that is done: its function object, its promise -/
structure Dn (P : Program) (w : World) (K : PySem.W.Frag) (mg : Str → Option Value) (base : Heap) (d : DefX) (k : Nat) (ps : List Str) (sp : Sp) : Prop where
  ex : ∃ fd, d.fun K fd ∧ FnG P w K mg base k (d.at_ K) fd ps sp
abbrev KBs (K : PySem.W.Frag) (mg : Str → Option Value) (d : DefX) (ps : List Str) (n : Nat) (ks : List Str) (gD : List D → List D → List D) : Prop := ∀ fd, d.fun K fd → KB K mg fd ps n ks gD
abbrev KIs (K : PySem.W.Frag) (mg : Str → Option Value) (d : DefX) (ps : List Str) (n : Nat) (ks : List Str) (gD : List D → List D → List D) : Prop := ∀ fd, d.fun K fd → KI K mg fd ps n ks gD
abbrev Bds (K : PySem.W.Frag) (d : DefX) (ps : List Str) : Prop := ∀ fd, d.fun K fd → Binds K fd ps []
theorem KBs.all {K : PySem.W.Frag} {mg : Str → Option Value} {d : DefX} {ps : List Str} (h : Bds K d ps) : KBs K mg d ps ps.length [] fun ds _ => ds := fun fd F => KB.all (h fd F)
section
variable {P : Program} {w : World} {K : PySem.W.Frag} {mg : Str → Option Value} {base : Heap} {d : DefX} {N ps : List Str} {k : Nat} {m : M Fl}
abbrev BodyX (P : Program) (w : World) (K : PySem.W.Frag) (mg : Str → Option Value) (base : Heap) (d : DefX) (N : List Str) (k : Nat) (m : M Fl) : Prop := BodyD P w K mg base N d.qual d.scope (d.at_ K) k d.body m
theorem dnD (F : ∃ fd, d.fun K fd) (S : FnScope N ps d.scope) (hb : BodyX P w K mg base d N k m) : Dn P w K mg base d (k + 1) ps (spD K mg ps.length (runD N.length m)) := by
  obtain ⟨fd, F⟩ := F
  exact ⟨fd, F, fnD F S hb⟩
theorem dnF (F : ∃ fd, d.fun K fd) (S : FnScope N ps d.scope) (hb : BodyX P w K mg base d N k m) : Dn P w K mg base d (k + 1) ps (spF K mg ps.length (runF N.length m)) := by
  obtain ⟨fd, F⟩ := F
  exact ⟨fd, F, fnF F S hb⟩
theorem dnW (F : ∃ fd, d.fun K fd) (S : FnScope N ps d.scope) (hb : BodyX P w K mg base d N k m) : Dn P w K mg base d (k + 1) ps (spW K mg ps.length (runW N.length m)) := by
  obtain ⟨fd, F⟩ := F
  exact ⟨fd, F, fnW F S hb⟩
theorem dnI {c : Nat} (F : ∃ fd, d.fun K fd) (S : FnScope N ps d.scope) (hb : BodyX P w K mg base d N k m) : Dn P w K mg base d (k + 1) ps (spI K mg ps.length c (runI N.length c m)) := by
  obtain ⟨fd, F⟩ := F
  exact ⟨fd, F, fnI F S hb⟩
end
section
variable {X : Cx} {G : Gx} {d : DefX} {k k' n c : Nat} {C : Addr} {ps ks : List Str} {x m : Str} {p pos apos : Pos} {o e : Expr} {es : List Expr} {kws : List Keyword} {fa fk : M (List D)} {fo : M D} {gD : List D → List D → List D} {cs : List Nat}
theorem dcall {F : List D → Option D} (h : Dn X.prog X.w X.K X.mg X.base d k' ps (spD X.K X.mg ps.length F)) (kb : KBs X.K X.mg d ps n ks gD) (hr : Room k X.A) (hgd : X.A.guards = some []) (hm : X.mg x = some (.ref (d.at_ X.K))) (hg : Gl X x)
    (ha : DA X G (e :: es) fa) (hkw : DK X G kws fk) (hk : k' ≤ k := by decide) (hall : (backToKw pos (keywordEach kws X.env)).all (·.1.isSome) = true := by rfl) (hks : (backToKw pos (keywordEach kws X.env)).filterMap (·.1) = ks := by rfl)
    (hdb : (x == ("__debug__" : Str)) = false := by decide) (he : starEach (e :: es) X.env = (false, eval e X.env) :: starEach es X.env := by rfl)
    (hpl : ((backTo pos (starEach (e :: es) X.env)).any (·.1) || (backToKw pos (keywordEach kws X.env)).any (·.1.isNone)) = false := by rfl) :
    DE X G (.Call (.Name x p) (e :: es) kws pos) (mFn n ks.length gD F fa fk) := by
  obtain ⟨fd, F, fn⟩ := h.ex
  exact de_call fn (hr.mono hk) hgd hg hm F.kp (kb fd F) ha hkw hall hks hdb he hpl
theorem dcallF {F : List D → Option (List D)} (h : Dn X.prog X.w X.K X.mg X.base d k' ps (spF X.K X.mg ps.length F)) (kb : KBs X.K X.mg d ps n ks gD) (hr : Room k X.A) (hgd : X.A.guards = some []) (hm : X.mg x = some (.ref (d.at_ X.K))) (hg : Gl X x)
    (ha : DA X G (e :: es) fa) (hkw : DK X G kws fk) (hk : k' ≤ k := by decide) (hall : (backToKw pos (keywordEach kws X.env)).all (·.1.isSome) = true := by rfl) (hks : (backToKw pos (keywordEach kws X.env)).filterMap (·.1) = ks := by rfl)
    (hdb : (x == ("__debug__" : Str)) = false := by decide) (he : starEach (e :: es) X.env = (false, eval e X.env) :: starEach es X.env := by rfl)
    (hpl : ((backTo pos (starEach (e :: es) X.env)).any (·.1) || (backToKw pos (keywordEach kws X.env)).any (·.1.isNone)) = false := by rfl) :
    DF X G (.Call (.Name x p) (e :: es) kws pos) (mFn n ks.length gD F fa fk) := by
  obtain ⟨fd, F, fn⟩ := h.ex
  exact df_callF fn (hr.mono hk) hgd hg hm F.kp (kb fd F) ha hkw hall hks hdb he hpl
theorem dcallW {F : List D → List D → Option (D × List D)} (i : Nat) (ho : PE X o (tVar i)) (h : Dn X.prog X.w X.K X.mg X.base d k' ps (spW X.K X.mg ps.length F)) (hb : Bds X.K d ps) (hr : Room k X.A) (hgd : X.A.guards = some []) (hm : X.mg x = some (.ref (d.at_ X.K))) (hg : Gl X x)
    (ha : DA X G es fa) (hk : k' ≤ k := by decide) (hdb : (x == ("__debug__" : Str)) = false := by decide) (hst : starEach (o :: es) X.env = (false, eval o X.env) :: starEach es X.env := by rfl) (hpl : (backTo pos (starEach es X.env)).any (·.1) = false := by rfl) :
    DE X G (.Call (.Name x p) (o :: es) [] pos) (mFnW i ps.length F fa) := by
  obtain ⟨fd, F, fn⟩ := h.ex
  exact de_callW i ho fn (hr.mono hk) hgd hg hm F.kp (hb fd F) ha hdb hst hpl
theorem dmk {F : List D → Option (List D)} (Mc : Mk X.K C (d.at_ X.K)) (h : Dn X.prog X.w X.K X.mg X.base d k' ps (spI X.K X.mg ps.length c F)) (kb : KIs X.K X.mg d ps n ks gD) (hr : Room k X.A) (hgd : X.A.guards = some []) (hm : X.mg (clsName c) = some (.ref C)) (hg : Gl X (clsName c)) (hx : x = clsName c)
    (ha : DA X G (e :: es) fa) (hkw : DK X G kws fk) (hk : k' + 1 ≤ k := by decide) (hall : (backToKw pos (keywordEach kws X.env)).all (·.1.isSome) = true := by rfl) (hks : (backToKw pos (keywordEach kws X.env)).filterMap (·.1) = ks := by rfl)
    (hdb : (x == ("__debug__" : Str)) = false := by decide) (he : starEach (e :: es) X.env = (false, eval e X.env) :: starEach es X.env := by rfl)
    (hpl : ((backTo pos (starEach (e :: es) X.env)).any (·.1) || (backToKw pos (keywordEach kws X.env)).any (·.1.isNone)) = false := by rfl) :
    DE X G (.Call (.Name x p) (e :: es) kws pos) (mMk c n ks.length gD F fa fk) := by
  obtain ⟨fd, F, fn⟩ := h.ex
  exact de_mk Mc fn (hr.mono hk) hgd hg hm (kb fd F) hx ha hkw hall hks hdb he hpl
theorem dmk0 {F : List D → Option (List D)} (Mc : Mk X.K C (d.at_ X.K)) (h : Dn X.prog X.w X.K X.mg X.base d k' ps (spI X.K X.mg ps.length c F)) (kb : KIs X.K X.mg d ps 0 ks gD) (hr : Room k X.A) (hgd : X.A.guards = some []) (hm : X.mg (clsName c) = some (.ref C)) (hg : Gl X (clsName c)) (hx : x = clsName c)
    (hkw : DK X G kws fk) (hk : k' + 1 ≤ k := by decide) (hall : (backToKw pos (keywordEach kws X.env)).all (·.1.isSome) = true := by rfl) (hks : (backToKw pos (keywordEach kws X.env)).filterMap (·.1) = ks := by rfl)
    (hdb : (x == ("__debug__" : Str)) = false := by decide) (hpl : (backToKw pos (keywordEach kws X.env)).any (·.1.isNone) = false := by rfl) :
    DE X G (.Call (.Name x p) [] kws pos) (mMk c 0 ks.length gD F aNil fk) := by
  obtain ⟨fd, F, fn⟩ := h.ex
  exact de_mk0 Mc fn (hr.mono hk) hgd hg hm (kb fd F) hx hkw hall hks hdb hpl
/-- self.f = e -/
def sSetFs (i : Nat) (m : Str) (cs : List Nat) (fv : M D) : M Fl := mBind fv fun d => fun τ => match τ[i]? with
  | some (some (.ob c [] [])) => if c ∈ cs then some (.nx, τ.set i (some (.ob c [m] [d]))) else none
  | _ => none
theorem ds_setFs {pos' : Pos} {fv : M D} (i : Nat) (ho : PE X o (tVar i)) (he : DE X G e fv) (hcs : ∀ c ∈ cs, ∃ C, ClsF X.K X.mg c C ∧ NoAttr X.K C m) (hs : swapsWith e (some (.Attribute o m pos')) pos.line X.env = pure false := by rfl) :
    DS X G (.Assign [.Attribute o m pos'] e pos) (sSetFs i m cs fv) := ds_setF i ho he hcs hs
theorem de_gi {x : Str} {n : Int} {pos : Pos} (hg : Gl X x) (h : ∃ t, X.mg x = some (.int n t)) (hd : (x == ("__debug__" : Str)) = false := by decide) : DE X G (.Name x pos) (mPure (.int n)) := by
  obtain ⟨t, h⟩ := h
  exact de_gl (v := .int n) hg h ⟨t, rfl⟩ (fun _ => .int n) hd
theorem de_gs {x : Str} {n : Str} {pos : Pos} (hg : Gl X x) (h : ∃ t, X.mg x = some (.str n t)) (hd : (x == ("__debug__" : Str)) = false := by decide) : DE X G (.Name x pos) (mPure (.str n)) := by
  obtain ⟨t, h⟩ := h
  exact de_gl (v := .str n) hg h ⟨t, rfl⟩ (fun _ => .str n) hd
def mJoin (fo fe : M D) : M D := mBind fo fun a => match a with
  | .str _ => mBind fe fun b => mLift (joinD a b)
  | _ => fun _ => none
theorem de_joinD {o e : Expr} {apos pos : Pos} {fo fe : M D} (ho : DE X G o fo) (he : DE X G e fe) (hs : starEach [e] X.env = [(false, eval e X.env)] := by rfl) (hbase : attributeBase o "join" X.env (eval o X.env) = eval o X.env := by rfl) (hline : (apos.endLine == pos.line) = true := by rfl) :
    DE X G (.Call (.Attribute o "join" apos) [e] [] pos) (mJoin fo fe) := de_join ho he hs hbase hline
theorem dprop {F : List D → Option D} {pp : PySem.W.Frag → Addr} (ho : DE X G o fo) (hcs : ∀ c ∈ cs, ∃ C, ClsF X.K X.mg c C ∧ PropOf X.K C m (pp X.K) (d.at_ X.K)) (h : Dn X.prog X.w X.K X.mg X.base d k' ["self"] (spD X.K X.mg 1 F)) (hb : Bds X.K d ["self"]) (hr : Room k X.A) (hgd : X.A.guards = some [])
    (hk : k' + 1 ≤ k := by decide) (hab : attributeBase o m X.env (eval o X.env) = eval o X.env := by rfl) : DE X G (.Attribute o m pos) (mMe0 cs F fo) := by
  obtain ⟨fd, Fd, fn⟩ := h.ex
  exact de_prop ho hcs fn (hr.mono hk) hgd (hb fd Fd) hab
theorem deq {F : List D → Option D} {t : List ((Nat × Tg) × Bool)} (ht : ∀ p ∈ t, EqOk X.K X.mg (d.at_ X.K) p) (hf : PySem.W.isFn X.K (.ref (d.at_ X.K)) = true) (h : Dn X.prog X.w X.K X.mg X.base d k' ps (spD X.K X.mg ps.length F)) (hl : ps.length = 2) (hb : Bds X.K d ps) (hr : Room k X.A) (hgd : X.A.guards = some []) (hk : k' ≤ k := by decide) : OpD X (compareOp .Eq) (eqO t F) := by
  obtain ⟨fd, Fd, fn⟩ := h.ex
  exact op_eqO ht hf fn hl (hr.mono hk) hgd (hb fd Fd)
theorem dne {F : List D → Option D} {t : List ((Nat × Tg) × Bool)} (ht : ∀ p ∈ t, EqOk X.K X.mg (d.at_ X.K) p) (hf : PySem.W.isFn X.K (.ref (d.at_ X.K)) = true) (h : Dn X.prog X.w X.K X.mg X.base d k' ps (spD X.K X.mg ps.length F)) (hl : ps.length = 2) (hb : Bds X.K d ps) (hr : Room k X.A) (hgd : X.A.guards = some []) (hk : k' + 1 ≤ k := by decide) : OpD X (compareOp .NotEq) (neO t F) := by
  obtain ⟨fd, Fd, fn⟩ := h.ex
  exact op_neO ht hf fn hl (hr.mono hk) hgd (hb fd Fd)
theorem dstr {F : List D → Option D} (ht : ∀ c ∈ cs, SpOk X.K X.mg "__str__" (d.at_ X.K) c) (hf : PySem.W.isFn X.K (.ref (d.at_ X.K)) = true) (h : Dn X.prog X.w X.K X.mg X.base d k' ["self"] (spD X.K X.mg 1 F)) (hb : Bds X.K d ["self"]) (hr : Room k X.A) (hgd : X.A.guards = some []) (hk : k' + 2 ≤ k := by decide) : CallD X (.type "str") (strO cs F) := by
  obtain ⟨fd, Fd, fn⟩ := h.ex
  exact c_strO ht hf fn (hr.mono hk) hgd (hb fd Fd)
/-- two readings of one expression -/
def mOr2 {α : Type} (f g : M α) : M α := fun τ => (f τ).or (g τ)
theorem de_or2 {e : Expr} {f g : M D} (h : DE X G e f) (h' : DE X G e g) : DE X G e (mOr2 f g) := pe_imp (pe_both h h') fun σ H Q q => by
  obtain ⟨O, τ, d, τ', R, e, q⟩ := q
  unfold mOr2 at e
  cases e1 : f τ with
  | some p => rw [e1] at e; cases e; exact .inl ⟨O, τ, d, τ', R, e1, q⟩
  | none => rw [e1] at e; exact .inr ⟨O, τ, d, τ', R, e, q⟩
def negD : D → Option D
  | .int i => some (.int (-i))
  | _ => none
theorem de_neg {a : Expr} {pos : Pos} {f : M D} (h : DE X G a f) : DE X G (.UnaryOp .USub a pos) (m1 negD f) := de_un un_neg (fun H O x a z Q lv r e q => by
  cases r with
  | int i => cases e; exact ⟨i, rfl, q _ H (Grow.refl _) (.int _)⟩
  | _ => cases e) h
theorem de_chainD {op op' : CmpOp} {a b c : Expr} {pos : Pos} {g g' : D → D → Option D} {fa fb fc : M D} (ho : OpD X (compareOp op) g) (ho' : OpD X (compareOp op') g') (ha : DE X G a fa) (hb : DE X G b fb) (hc : DE X G c fc)
    (hm : lastMarks [op, op'] [b, c] = false := by with_unfolding_all rfl) : DE X G (.Compare a [op, op'] [b, c] pos) (mCh g g' fa fb fc) := de_chain ho (v2_D g) ho' (v2_D g') ha hb hc hm
theorem dt_chainD {op op' : CmpOp} {a b c : Expr} {pos : Pos} {g g' : D → D → Option D} {fa fb fc : M D} (ho : OpD X (compareOp op) g) (ho' : OpD X (compareOp op') g') (ha : DE X G a fa) (hb : DE X G b fb) (hc : DE X G c fc)
    (hm : lastMarks [op, op'] [b, c] = false := by with_unfolding_all rfl) : DT X G (.Compare a [op, op'] [b, c] pos) (mB (mCh g g' fa fb fc)) := dt_chain ho (v2_D g) ho' (v2_D g') ha hb hc hm
theorem df_list {p pos : Pos} {f : M (List D)} (hg : Gl X "list") (hm : X.mg "list" = none) (ha : DA X G [e] f) (he : starEach [e] X.env = (false, eval e X.env) :: starEach [] X.env := by rfl) : DF X G (.Call (.Name "list" p) [e] [] pos) (mCallF listF f) :=
  df_callTy call_list_of f_list hg hm rfl ha (by decide) (by decide) he rfl
theorem df_sorted {p pos : Pos} {f : M (List D)} (hg : Gl X "sorted") (hm : X.mg "sorted" = none) (ha : DA X G [e] f) (he : starEach [e] X.env = (false, eval e X.env) :: starEach [] X.env := by rfl) : DF X G (.Call (.Name "sorted" p) [e] [] pos) (mCallF sortedF f) :=
  df_callB cr_sortedI f_sorted hg hm rfl ha (by decide) (by decide) he rfl
/-- xs.append(e) -/
theorem ds_app {pos' : Pos} {fv : M D} (i : Nat) (ho : PE X o (tVar i)) (he : DE X G e fv) (hs : swapsWith (.Call (.Attribute o "append" apos) [e] [] pos) none pos'.line X.env = pure false := by rfl)
    (hbase : attributeBase o "append" X.env (eval o X.env) = eval o X.env := by rfl)
    (hfew : ((backTo pos (starEach [e] X.env)).all (fun x => !x.1) && (backToKw pos (keywordEach [] X.env)).all (fun x => x.1.isSome) && decide (([e] : List Expr).length + ([] : List Keyword).length + (if ([] : List Keyword).isEmpty then 0 else 1) < 30)) = true := by rfl)
    (hline : (apos.endLine == pos.line) = true := by rfl) (hst : starEach [e] X.env = (false, eval e X.env) :: starEach [] X.env := by rfl) : DS X G (.Expr (.Call (.Attribute o "append" apos) [e] [] pos) pos') (sAppend i fv) :=
  ds_append i ho he hs (pe_bm PySem.F.plainAttrs_list PySem.F.slot_list_append PySem.F.type_list_append mt_append ho (da_cons he da_nil hst) hbase hfew hline hst rfl)
end
end Dv
set_option Elab.async false
set_option linter.all false
set_option maxRecDepth 100000
set_option maxHeartbeats 4000000
/-! DV19: what the readings give, step by step (plain Lean, no program in sight) -/
namespace Dv
open PySem L2
/-- f comes through at τ, and Q holds of what it gives -/
def Ok {α : Type} (f : M α) (τ : Sd) (Q : α → Sd → Prop) : Prop := ∃ a τ', f τ = some (a, τ') ∧ Q a τ'
section
variable {α β : Type} {τ : Sd}
theorem Ok.mono {f : M α} {Q Q' : α → Sd → Prop} (h : Ok f τ Q) (i : ∀ a τ', Q a τ' → Q' a τ') : Ok f τ Q' := by
  obtain ⟨a, τ', e, q⟩ := h
  exact ⟨a, τ', e, i a τ' q⟩
@[simp] theorem ok_pure {a : α} {Q : α → Sd → Prop} : Ok (mPure a) τ Q ↔ Q a τ := ⟨fun ⟨_, _, e, q⟩ => by cases e; exact q, fun q => ⟨a, τ, rfl, q⟩⟩
@[simp] theorem ok_bind {f : M α} {g : α → M β} {Q : β → Sd → Prop} : Ok (mBind f g) τ Q ↔ Ok f τ fun a τ1 => Ok (g a) τ1 Q := by
  constructor
  · rintro ⟨b, τ', e, q⟩
    obtain ⟨a, τ1, e1, e2⟩ := mBind_some e
    exact ⟨a, τ1, e1, b, τ', e2, q⟩
  · rintro ⟨a, τ1, e1, b, τ', e2, q⟩
    exact ⟨b, τ', by unfold mBind; rw [e1]; exact e2, q⟩
@[simp] theorem ok_lift {o : Option α} {Q : α → Sd → Prop} : Ok (mLift o) τ Q ↔ ∃ a, o = some a ∧ Q a τ := by
  constructor
  · rintro ⟨a, τ', e, q⟩
    unfold mLift at e
    cases o with
    | none => cases e
    | some a' => cases e; exact ⟨_, rfl, q⟩
  · rintro ⟨a, rfl, q⟩
    exact ⟨a, τ, rfl, q⟩
@[simp] theorem ok_ite {c : Prop} [Decidable c] {f g : M α} {Q : α → Sd → Prop} : Ok (if c then f else g) τ Q ↔ if c then Ok f τ Q else Ok g τ Q := by
  by_cases h : c <;> simp [h]
@[simp] theorem ok_v {i : Nat} {Q : D → Sd → Prop} : Ok (vR i) τ Q ↔ ∃ d, τ[i]? = some (some (.val d)) ∧ Q d τ := by
  constructor
  · rintro ⟨d, τ', e, q⟩
    obtain ⟨rfl, e1⟩ := vR_some e
    exact ⟨d, e1, q⟩
  · rintro ⟨d, e, q⟩
    exact ⟨d, τ, by unfold vR; rw [e], q⟩
@[simp] theorem ok_none {Q : α → Sd → Prop} : Ok (fun _ => none) τ Q ↔ False := ⟨fun ⟨_, _, e, _⟩ => (nomatch e), False.elim⟩
@[simp] theorem ok_2 {g : D → D → Option D} {fa fb : M D} {Q : D → Sd → Prop} : Ok (m2 g fa fb) τ Q ↔ Ok fa τ fun a τ1 => Ok fb τ1 fun b τ2 => ∃ z, g a b = some z ∧ Q z τ2 := by
  simp only [m2, ok_bind, ok_lift]
@[simp] theorem ok_1 {g : D → Option D} {fa : M D} {Q : D → Sd → Prop} : Ok (m1 g fa) τ Q ↔ Ok fa τ fun a τ1 => ∃ z, g a = some z ∧ Q z τ1 := by
  simp only [m1, ok_bind, ok_lift]
@[simp] theorem ok_call {g : List D → Option D} {f : M (List D)} {Q : D → Sd → Prop} : Ok (mCall g f) τ Q ↔ Ok f τ fun a τ1 => ∃ z, g a = some z ∧ Q z τ1 := by
  simp only [mCall, ok_bind, ok_lift]
@[simp] theorem ok_nil {Q : List D → Sd → Prop} : Ok aNil τ Q ↔ Q [] τ := ok_pure
@[simp] theorem ok_cons {fa : M D} {fr : M (List D)} {Q : List D → Sd → Prop} : Ok (aCons fa fr) τ Q ↔ Ok fa τ fun a τ1 => Ok fr τ1 fun r τ2 => Q (a :: r) τ2 := by
  simp only [aCons, ok_bind, ok_pure]
@[simp] theorem ok_if {t : M Bool} {fa fb : M α} {Q : α → Sd → Prop} : Ok (mIf t fa fb) τ Q ↔ Ok t τ fun c τ1 => if c = true then Ok fa τ1 Q else Ok fb τ1 Q := by
  simp only [mIf, ok_bind, ok_ite]
@[simp] theorem ok_sif {t : M Bool} {f g : M Fl} {Q : Fl → Sd → Prop} : Ok (sIf t f g) τ Q ↔ Ok t τ fun c τ1 => if c = true then Ok f τ1 Q else Ok g τ1 Q := ok_if
@[simp] theorem ok_B {f : M D} {Q : Bool → Sd → Prop} : Ok (mB f) τ Q ↔ Ok f τ fun d τ1 => ∃ b, asB d = some b ∧ Q b τ1 := by
  simp only [mB, ok_bind, ok_lift]
@[simp] theorem ok_tru {f : M D} {Q : Bool → Sd → Prop} : Ok (mTru f) τ Q ↔ Ok f τ fun d τ1 => ∃ b, truthD d = some b ∧ Q b τ1 := by
  simp only [mTru, ok_bind, ok_lift]
@[simp] theorem ok_not {f : M Bool} {Q : Bool → Sd → Prop} : Ok (mNot f) τ Q ↔ Ok f τ fun b τ1 => Q (!b) τ1 := by
  simp only [mNot, ok_bind, ok_pure]
@[simp] theorem ok_and {f g : M Bool} {Q : Bool → Sd → Prop} : Ok (mAnd f g) τ Q ↔ Ok f τ fun b τ1 => if b = true then Ok g τ1 Q else Q false τ1 := by
  simp only [mAnd, ok_bind, ok_ite, ok_pure]
@[simp] theorem ok_or {f g : M Bool} {Q : Bool → Sd → Prop} : Ok (mOr f g) τ Q ↔ Ok f τ fun b τ1 => if b = true then Q true τ1 else Ok g τ1 Q := by
  simp only [mOr, ok_bind, ok_ite, ok_pure]
@[simp] theorem ok_notV {f : M D} {Q : D → Sd → Prop} : Ok (mNotV f) τ Q ↔ Ok f τ fun d τ1 => ∃ b, truthD d = some b ∧ Q (.bl (!b)) τ1 := by
  simp only [mNotV, ok_bind, ok_lift, Option.map_eq_some_iff]
  constructor
  · exact fun h => h.mono fun a τ' q => by obtain ⟨z, ⟨b, e, rfl⟩, q⟩ := q; exact ⟨b, e, q⟩
  · exact fun h => h.mono fun a τ' q => by obtain ⟨b, e, q⟩ := q; exact ⟨_, ⟨b, e, rfl⟩, q⟩
@[simp] theorem ok_andV {f g : M D} {Q : D → Sd → Prop} : Ok (mAndV f g) τ Q ↔ Ok f τ fun d τ1 => ∃ b, truthD d = some b ∧ if b = true then Ok g τ1 Q else Q d τ1 := by
  simp only [mAndV, ok_bind, ok_lift, ok_ite, ok_pure]
@[simp] theorem ok_orV {f g : M D} {Q : D → Sd → Prop} : Ok (mOrV f g) τ Q ↔ Ok f τ fun d τ1 => ∃ b, truthD d = some b ∧ if b = true then Q d τ1 else Ok g τ1 Q := by
  simp only [mOrV, ok_bind, ok_lift, ok_ite, ok_pure]
@[simp] theorem ok_ch {g g' : D → D → Option D} {fa fb fc : M D} {Q : D → Sd → Prop} : Ok (mCh g g' fa fb fc) τ Q ↔ Ok fa τ fun a τ1 => Ok fb τ1 fun b τ2 => ∃ k, (g a b).bind asB = some k ∧ if k = true then Ok fc τ2 (fun c τ3 => ∃ z, g' b c = some z ∧ Q z τ3) else Q (.bl false) τ2 := by
  simp only [mCh, ok_bind, ok_lift, ok_ite, ok_pure]
@[simp] theorem ok_tup {f : M (List D)} {Q : D → Sd → Prop} : Ok (mTup f) τ Q ↔ Ok f τ fun l τ1 => l.length ≤ sizeLine ∧ Q (.tup l) τ1 := by
  simp only [mTup, ok_bind, ok_lift]
  have : ∀ (l : List D) (τ1 : Sd), (∃ a, (fit l).map D.tup = some a ∧ Q a τ1) ↔ (l.length ≤ sizeLine ∧ Q (.tup l) τ1) := fun l τ1 => by
    unfold fit
    by_cases h : l.length ≤ sizeLine <;> simp [h]
  simp only [this]
@[simp] theorem ok_lst {f : M (List D)} {Q : List D → Sd → Prop} : Ok (mLst f) τ Q ↔ Ok f τ fun l τ1 => l.length ≤ sizeLine ∧ Q l τ1 := by
  simp only [mLst, ok_bind, ok_lift]
  have : ∀ (l : List D) (τ1 : Sd), (∃ a, fit l = some a ∧ Q a τ1) ↔ (l.length ≤ sizeLine ∧ Q l τ1) := fun l τ1 => by
    unfold fit
    by_cases h : l.length ≤ sizeLine <;> simp [h]
  simp only [this]
@[simp] theorem ok_sl {fa : M D} {fl fh : M (Option Int)} {Q : D → Sd → Prop} : Ok (mSl fa fl fh) τ Q ↔ Ok fa τ fun a τ1 => Ok fl τ1 fun lo τ2 => Ok fh τ2 fun hi τ3 => ∃ z, slD a lo hi = some z ∧ Q z τ3 := by
  simp only [mSl, ok_bind, ok_lift]
@[simp] theorem ok_fn {n m : Nat} {gD : List D → List D → List D} {F : List D → Option α} {fa fk : M (List D)} {Q : α → Sd → Prop} : Ok (mFn n m gD F fa fk) τ Q ↔ Ok fa τ fun ds τ1 => Ok fk τ1 fun es τ2 => ds.length = n ∧ es.length = m ∧ ∃ z, F (gD ds es) = some z ∧ Q z τ2 := by
  simp only [mFn, ok_bind, ok_lift]
  have : ∀ (ds es : List D) (τ2 : Sd), (∃ a, (if ds.length = n ∧ es.length = m then F (gD ds es) else none) = some a ∧ Q a τ2) ↔ (ds.length = n ∧ es.length = m ∧ ∃ z, F (gD ds es) = some z ∧ Q z τ2) := fun ds es τ2 => by
    by_cases h : ds.length = n ∧ es.length = m
    · simp [h]
    · simp only [h, if_false]; constructor
      · rintro ⟨a, e, _⟩; cases e
      · rintro ⟨h1, h2, _⟩; exact (h ⟨h1, h2⟩).elim
  simp only [this]
@[simp] theorem ok_mk {c n m : Nat} {gD : List D → List D → List D} {F : List D → Option (List D)} {fa fk : M (List D)} {Q : D → Sd → Prop} : Ok (mMk c n m gD F fa fk) τ Q ↔ Ok fa τ fun ds τ1 => Ok fk τ1 fun es τ2 => ds.length = n ∧ es.length = m ∧ ∃ z, F (gD ds es) = some z ∧ Q (.obj c z) τ2 := by
  simp only [mMk, ok_bind, ok_fn, ok_pure]
@[simp] theorem ok_me0 {cs : List Nat} {F : List D → Option D} {fo : M D} {Q : D → Sd → Prop} : Ok (mMe0 cs F fo) τ Q ↔ Ok fo τ fun d τ1 => isOb cs d = true ∧ ∃ z, F [d] = some z ∧ Q z τ1 := by
  simp only [mMe0, ok_1]
  have : ∀ (d : D) (τ1 : Sd), (∃ z, (if isOb cs d = true then F [d] else none) = some z ∧ Q z τ1) ↔ (isOb cs d = true ∧ ∃ z, F [d] = some z ∧ Q z τ1) := fun d τ1 => by
    by_cases h : isOb cs d = true <;> simp [h]
  simp only [this]
@[simp] theorem ok_fnW {i n : Nat} {F : List D → List D → Option (D × List D)} {fa : M (List D)} {Q : D → Sd → Prop} : Ok (mFnW i n F fa) τ Q ↔ (∃ l0, τ[i]? = some (some (.own l0))) ∧ Ok fa τ fun ds τ1 => ds.length + 1 = n ∧ ∃ l, τ1[i]? = some (some (.own l)) ∧ ∃ d l', F l ds = some (d, l') ∧ Q d (τ1.set i (some (.own l'))) := by
  constructor
  · rintro ⟨d, τ', e, q⟩
    obtain ⟨l0, ds, τ1, l, l', e1, e2, e3, n1, e4, rfl⟩ := mFnW_some e
    exact ⟨⟨l0, e1⟩, ds, τ1, e2, n1, l, e3, d, l', e4, q⟩
  · rintro ⟨⟨l0, e1⟩, ds, τ1, e2, n1, l, e3, d, l', e4, q⟩
    refine ⟨d, _, ?_, q⟩
    unfold mFnW ownOf
    simp only [e1, e2, e3, n1, if_true, e4]
@[simp] theorem ok_bor {f : M D} {Q : D → Sd → Prop} : Ok (bor f) τ Q ↔ Ok f (view τ) fun d _ => LF d = true ∧ Q d τ := by
  unfold Ok bor
  constructor
  · rintro ⟨a, τ', e, q⟩
    split at e
    · rename_i d τ1 e1
      split at e
      · rename_i h; cases e; exact ⟨_, _, e1, h, q⟩
      · cases e
    · cases e
  · rintro ⟨d, τ1, e1, h, q⟩
    exact ⟨d, τ, by simp only [e1, h, if_true], q⟩
@[simp] theorem ok_borT {f : M Bool} {Q : Bool → Sd → Prop} : Ok (borT f) τ Q ↔ Ok f (view τ) fun d _ => Q d τ := by
  unfold Ok borT
  constructor
  · rintro ⟨a, τ', e, q⟩
    split at e
    · rename_i d τ1 e1
      cases e; exact ⟨_, _, e1, q⟩
    · cases e
  · rintro ⟨d, τ1, e1, q⟩
    exact ⟨d, τ, by simp only [e1], q⟩
@[simp] theorem ok_join {fo fe : M D} {Q : D → Sd → Prop} : Ok (mJoin fo fe) τ Q ↔ Ok fo τ fun a τ1 => ∃ x, a = .str x ∧ Ok fe τ1 fun b τ2 => ∃ z, joinD a b = some z ∧ Q z τ2 := by
  unfold mJoin
  rw [ok_bind]
  constructor
  · refine fun h => h.mono fun a τ1 q => ?_
    cases a with
    | str x => exact ⟨x, rfl, by simpa using q⟩
    | _ => exact (ok_none.mp q).elim
  · refine fun h => h.mono fun a τ1 q => ?_
    obtain ⟨x, rfl, q⟩ := q
    simpa using q
@[simp] theorem ok_js0 {acc : Str} {Q : D → Sd → Prop} : Ok (jsF [] acc) τ Q ↔ Q (.str acc) τ := ok_pure
theorem jsF_cons {t : M D} {ts : List (M D)} {acc : Str} : jsF (t :: ts) acc = mBind t fun d => match d with
    | .str y => if (acc ++ y).length ≤ sizeLine then jsF ts (acc ++ y) else fun _ => none
    | _ => fun _ => none := rfl
@[simp] theorem ok_js1 {t : M D} {ts : List (M D)} {acc : Str} {Q : D → Sd → Prop} : Ok (jsF (t :: ts) acc) τ Q ↔ Ok t τ fun d τ1 => ∃ y, d = .str y ∧ (acc ++ y).length ≤ sizeLine ∧ Ok (jsF ts (acc ++ y)) τ1 Q := by
  rw [jsF_cons, ok_bind]
  constructor
  · refine fun h => h.mono fun a τ1 q => ?_
    cases a with
    | str y =>
      by_cases hz : (acc ++ y).length ≤ sizeLine
      · exact ⟨y, rfl, hz, by simpa only [hz, if_true] using q⟩
      · simp only [hz, if_false] at q; exact (ok_none.mp q).elim
    | _ => exact (ok_none.mp q).elim
  · refine fun h => h.mono fun a τ1 q => ?_
    obtain ⟨y, rfl, hz, q⟩ := q
    simpa only [hz, if_true] using q
/-! ### statements -/
@[simp] theorem ok_snil {Q : Fl → Sd → Prop} : Ok sNil τ Q ↔ Q .nx τ := ok_pure
@[simp] theorem ok_sseq {f g : M Fl} {Q : Fl → Sd → Prop} : Ok (sSeq f g) τ Q ↔ Ok f τ fun fl τ1 => match fl with
    | .nx => Ok g τ1 Q
    | fl => Q fl τ1 := by
  unfold sSeq
  rw [ok_bind]
  constructor
  · exact fun h => h.mono fun fl τ1 q => by cases fl <;> first | exact q | exact ok_pure.mp q
  · exact fun h => h.mono fun fl τ1 q => by cases fl <;> first | exact q | exact ok_pure.mpr q
@[simp] theorem ok_sret {f : M D} {Q : Fl → Sd → Prop} : Ok (sRet f) τ Q ↔ Ok f τ fun d τ1 => Q (.rt d) τ1 := by simp only [sRet, ok_bind, ok_pure]
@[simp] theorem ok_sretF {f : M (List D)} {Q : Fl → Sd → Prop} : Ok (sRetF f) τ Q ↔ Ok f τ fun d τ1 => Q (.rf d) τ1 := by simp only [sRetF, ok_bind, ok_pure]
@[simp] theorem ok_sexpr {f : M α} {Q : Fl → Sd → Prop} : Ok (sExpr f) τ Q ↔ Ok f τ fun _ τ1 => Q .nx τ1 := by simp only [sExpr, ok_bind, ok_pure]
@[simp] theorem ok_sset {i : Nat} {f : M D} {Q : Fl → Sd → Prop} : Ok (sSet i f) τ Q ↔ Ok f τ fun d τ1 => Q .nx (τ1.set i (some (.val d))) := by
  simp only [sSet, ok_bind]
  constructor
  · exact fun h => h.mono fun d τ1 ⟨_, _, e, q⟩ => by cases e; exact q
  · exact fun h => h.mono fun d τ1 q => ⟨_, _, rfl, q⟩
@[simp] theorem ok_sown {i : Nat} {f : M (List D)} {Q : Fl → Sd → Prop} : Ok (sOwn i f) τ Q ↔ Ok f τ fun d τ1 => Q .nx (τ1.set i (some (.own d))) := by
  simp only [sOwn, ok_bind]
  constructor
  · exact fun h => h.mono fun d τ1 ⟨_, _, e, q⟩ => by cases e; exact q
  · exact fun h => h.mono fun d τ1 q => ⟨_, _, rfl, q⟩
@[simp] theorem ok_ssetL {i : Nat} {f : M (List D)} {Q : Fl → Sd → Prop} : Ok (sSetL i f) τ Q ↔ Ok f τ fun d τ1 => Q .nx (τ1.set i (some (.val (.lst d)))) := by
  simp only [sSetL, ok_bind]
  constructor
  · exact fun h => h.mono fun d τ1 ⟨_, _, e, q⟩ => by cases e; exact q
  · exact fun h => h.mono fun d τ1 q => ⟨_, _, rfl, q⟩
@[simp] theorem ok_spar {i j : Nat} {f : M (List D)} {Q : Fl → Sd → Prop} : Ok (sPar i j f) τ Q ↔ Ok f τ fun ds τ1 => ∃ a b, ds = [a, b] ∧ Q .nx ((τ1.set i (some (.val a))).set j (some (.val b))) := by
  simp only [sPar, ok_bind]
  constructor
  · refine fun h => h.mono fun ds τ1 q => ?_
    obtain ⟨fl, τ2, e, q⟩ := q
    match ds, e with
    | [a, b], e => cases e; exact ⟨a, b, rfl, q⟩
  · refine fun h => h.mono fun ds τ1 q => ?_
    obtain ⟨a, b, rfl, q⟩ := q
    exact ⟨_, _, rfl, q⟩
@[simp] theorem ok_sasg {f : M D} {g : D → Sd → Option Sd} {Q : Fl → Sd → Prop} : Ok (sAsg f g) τ Q ↔ Ok f τ fun d τ1 => ∃ τ2, g d τ1 = some τ2 ∧ Q .nx τ2 := by
  simp only [sAsg, ok_bind]
  constructor
  · refine fun h => h.mono fun d τ1 q => ?_
    obtain ⟨fl, τ2, e, q⟩ := q
    obtain ⟨τ3, e1, e2⟩ := map_some e
    cases e2
    exact ⟨_, e1, q⟩
  · exact fun h => h.mono fun d τ1 ⟨τ2, e, q⟩ => ⟨.nx, τ2, by show (g d τ1).map _ = _; rw [e]; rfl, q⟩
@[simp] theorem ok_sitem {i : Nat} {fi fv : M D} {Q : Fl → Sd → Prop} : Ok (sSetItem i fi fv) τ Q ↔ Ok fv τ fun d τ1 => (∃ l0, ownOf i τ1 = some l0) ∧ Ok fi τ1 fun k τ2 => ∃ l', ((ownOf i τ2).bind fun l => setAt l k d) = some l' ∧ Q .nx (τ2.set i (some (.own l'))) := by
  unfold sSetItem
  rw [ok_bind]
  constructor
  · refine fun h => h.mono fun d τ1 q => ?_
    obtain ⟨fl, τ2, e, q⟩ := q
    cases e0 : ownOf i τ1 with
    | none => simp [e0] at e
    | some l0 =>
      simp only [e0] at e
      obtain ⟨k, τ3, e1, e⟩ := mBind_some e
      refine ⟨⟨l0, rfl⟩, k, τ3, e1, ?_⟩
      cases e4 : (ownOf i τ3).bind fun l => setAt l k d with
      | none => simp [e4] at e
      | some l' => simp only [e4] at e; cases e; exact ⟨l', e4, q⟩
  · refine fun h => h.mono fun d τ1 q => ?_
    obtain ⟨⟨l0, e0⟩, k, τ3, e1, l', e4, q⟩ := q
    refine ⟨_, _, ?_, q⟩
    simp only [e0]
    unfold mBind
    simp only [e1, e4]
@[simp] theorem ok_sapp {i : Nat} {fv : M D} {Q : Fl → Sd → Prop} : Ok (sAppend i fv) τ Q ↔ (∃ l0, ownOf i τ = some l0) ∧ Ok fv τ fun d τ1 => ∃ l, ownOf i τ1 = some l ∧ l.length < sizeLine ∧ Q .nx (τ1.set i (some (.own (l ++ [d])))) := by
  unfold sAppend
  constructor
  · rintro ⟨fl, τ2, e, q⟩
    cases e0 : ownOf i τ with
    | none => simp [e0] at e
    | some l0 =>
      simp only [e0] at e
      obtain ⟨d, τ3, e1, e⟩ := mBind_some e
      refine ⟨⟨l0, rfl⟩, d, τ3, e1, ?_⟩
      cases e4 : ownOf i τ3 with
      | none => simp [e4] at e
      | some l =>
        simp only [e4] at e
        split at e
        · rename_i hl; cases e; exact ⟨l, e4, hl, q⟩
        · cases e
  · rintro ⟨⟨l0, e0⟩, d, τ3, e1, l, e4, hl, q⟩
    refine ⟨_, _, ?_, q⟩
    simp only [e0]
    unfold mBind
    simp only [e1, e4, hl, if_true]
@[simp] theorem ok_sfs {i : Nat} {m : Str} {cs : List Nat} {fv : M D} {Q : Fl → Sd → Prop} : Ok (sSetFs i m cs fv) τ Q ↔ Ok fv τ fun d τ1 => ∃ c, τ1[i]? = some (some (.ob c [] [])) ∧ c ∈ cs ∧ Q .nx (τ1.set i (some (.ob c [m] [d]))) := by
  unfold sSetFs
  rw [ok_bind]
  constructor
  · refine fun h => h.mono fun d τ1 q => ?_
    obtain ⟨fl, τ2, e, q⟩ := q
    dsimp only at e
    split at e
    · rename_i c e1
      split at e
      · rename_i hc; cases e; exact ⟨c, e1, hc, q⟩
      · cases e
    · cases e
  · refine fun h => h.mono fun d τ1 q => ?_
    obtain ⟨c, e1, hc, q⟩ := q
    exact ⟨_, _, by simp only [e1, hc, if_true], q⟩
@[simp] theorem ok_frz {i : Nat} {f : M α} {Q : α → Sd → Prop} : Ok (frz i f) τ Q ↔ Ok f (froze i τ) Q := Iff.rfl
/-! ### loops -/
theorem ok_forL {g : D → Sd → Option Sd} {b : M Fl} {Q : Fl → Sd → Prop} (I : List D → Sd → Prop) (step : ∀ d ds τ, I (d :: ds) τ → ∃ τ1, g d τ = some τ1 ∧ Ok b τ1 fun fl τ2 => match fl with
      | .nx => I ds τ2
      | .ct => I ds τ2
      | .bk => Q .nx τ2
      | fl => Q fl τ2) (done : ∀ τ, I [] τ → Q .nx τ) : ∀ {items : List D} {τ : Sd}, I items τ → Ok (forL g b items) τ Q
  | [], τ, h => ⟨.nx, τ, rfl, done τ h⟩
  | d :: ds, τ, h => by
    obtain ⟨τ1, e1, fl, τ2, e2, q⟩ := step d ds τ h
    cases fl with
    | nx => obtain ⟨a, τ', e, q'⟩ := ok_forL I step done (items := ds) q; exact ⟨a, τ', by simp only [forL, e1, e2]; exact e, q'⟩
    | ct => obtain ⟨a, τ', e, q'⟩ := ok_forL I step done (items := ds) q; exact ⟨a, τ', by simp only [forL, e1, e2]; exact e, q'⟩
    | bk => exact ⟨.nx, τ2, by simp only [forL, e1, e2], q⟩
    | rt d => exact ⟨.rt d, τ2, by simp only [forL, e1, e2], q⟩
    | rf d => exact ⟨.rf d, τ2, by simp only [forL, e1, e2], q⟩
    | xc c d => exact ⟨.xc c d, τ2, by simp only [forL, e1, e2], q⟩
@[simp] theorem ok_sfor {f : M (List D)} {g : D → Sd → Option Sd} {b : M Fl} {Q : Fl → Sd → Prop} : Ok (sFor f g b) τ Q ↔ Ok f τ fun items τ1 => Ok (forL g b items) τ1 Q := by simp only [sFor, ok_bind]
/-- comprehensions: I by what is left, what was made, the slots -/
theorem ok_lcL {g : D → Sd → Option Sd} {tt : M Bool} {te : M D} {vs : List Nat} {Q : List D → Sd → Prop} (I : List D → List D → Sd → Prop)
    (step : ∀ d ds ys τ, I (d :: ds) ys τ → ∃ τ1, g d τ = some τ1 ∧ Ok tt τ1 fun c τ2 => if c = true then Ok te τ2 (fun y τ3 => I ds (ys ++ [y]) (wipeD τ3 vs)) else I ds ys (wipeD τ2 vs))
    (done : ∀ ys τ, I [] ys τ → Q ys τ) : ∀ {items ys : List D} {τ : Sd}, I items ys τ → Ok (lcL g tt te vs items) τ fun zs τ' => Q (ys ++ zs) τ'
  | [], ys, τ, h => ⟨[], τ, rfl, by simpa using done ys τ h⟩
  | d :: ds, ys, τ, h => by
    obtain ⟨τ1, e1, c, τ2, e2, q⟩ := step d ds ys τ h
    cases c with
    | false =>
      rw [if_neg (by simp)] at q
      obtain ⟨a, τ', e, q'⟩ := ok_lcL I step done (items := ds) q
      exact ⟨a, τ', by simp only [lcL, e1, e2]; exact e, q'⟩
    | true =>
      rw [if_pos rfl] at q
      obtain ⟨y, τ3, e3, q⟩ := q
      obtain ⟨a, τ', e, q'⟩ := ok_lcL I step done (items := ds) q
      exact ⟨y :: a, τ', by simp only [lcL, e1, e2, e3, e], by simpa using q'⟩
@[simp] theorem ok_lc {f : M (List D)} {g : D → Sd → Option Sd} {tt : M Bool} {te : M D} {vs : List Nat} {Q : List D → Sd → Prop} : Ok (mLc f g tt te vs) τ Q ↔ Ok f τ fun items τ1 => items.length ≤ sizeLine ∧ Ok (lcL g tt te vs items) (wipeD τ1 vs) Q := by
  simp only [mLc, ok_bind]
  constructor
  · refine fun h => h.mono fun items τ1 q => ?_
    obtain ⟨a, τ2, e, q⟩ := q
    split at e
    · rename_i hl; exact ⟨hl, a, τ2, e, q⟩
    · cases e
  · refine fun h => h.mono fun items τ1 q => ?_
    obtain ⟨hl, a, τ2, e, q⟩ := q
    exact ⟨a, τ2, by show (if items.length ≤ sizeLine then _ else none) = _; rw [if_pos hl]; exact e, q⟩
/-! ### defs -/
theorem runD_of {n : Nat} {f : M Fl} {ds : List D} {d : D} (h : Ok f (start0 n ds) fun fl _ => fl = .rt d ∨ (fl = .nx ∧ d = .non)) : runD n f ds = some d := by
  obtain ⟨fl, τ', e, q⟩ := h
  unfold runD
  rw [e]
  rcases q with rfl | ⟨rfl, rfl⟩ <;> rfl
theorem runF_of {n : Nat} {f : M Fl} {ds : List D} {d : List D} (h : Ok f (start0 n ds) fun fl _ => fl = .rf d) : runF n f ds = some d := by
  obtain ⟨fl, τ', e, q⟩ := h
  unfold runF
  rw [e, q]; rfl
theorem runW_of {n : Nat} {f : M Fl} {l : List D} {ds : List D} {d : D} {l' : List D} (h : Ok f (some (.own l) :: start0 (n - 1) ds) fun fl τ => (fl = .rt d ∨ (fl = .nx ∧ d = .non)) ∧ ownOf 0 τ = some l') : runW n f l ds = some (d, l') := by
  obtain ⟨fl, τ', e, q, q2⟩ := h
  unfold runW
  rw [e]
  rcases q with rfl | ⟨rfl, rfl⟩ <;> simp [retW, q2]
theorem runI_of {n c : Nat} {f : M Fl} {ds : List D} {d : List D} (h : Ok f (some (.ob c [] []) :: start0 (n - 1) ds) fun fl τ => fl = .nx ∧ obOf c τ = some d) : runI n c f ds = some d := by
  obtain ⟨fl, τ', e, q, q2⟩ := h
  unfold runI
  rw [e, q]
  exact q2
end
end Dv
set_option Elab.async false
set_option linter.all false
set_option maxRecDepth 100000
set_option maxHeartbeats 4000000
/-! DV20: the same as steps forward -/
namespace Dv
open PySem L2
/-- what an own def gives -/
def Got {α : Type} (o : Option α) (Q : α → Prop) : Prop := ∃ a, o = some a ∧ Q a
theorem got {α : Type} {o : Option α} {a : α} {Q : α → Prop} (e : o = some a) (q : Q a) : Got o Q := ⟨a, e, q⟩
/-- a value of a plain operation -/
def Op {α : Type} (o : Option α) (Q : α → Prop) : Prop := ∃ a, o = some a ∧ Q a
theorem opr {α : Type} {o : Option α} {a : α} {Q : α → Prop} (e : o = some a) (q : Q a) : Op o Q := ⟨a, e, q⟩
section
variable {α β : Type} {τ : Sd}
theorem i_pure {a : α} {Q : α → Sd → Prop} (h : Q a τ) : Ok (mPure a) τ Q := ok_pure.mpr h
theorem i_bind {f : M α} {g : α → M β} {Q : β → Sd → Prop} (h : Ok f τ fun a τ1 => Ok (g a) τ1 Q) : Ok (mBind f g) τ Q := ok_bind.mpr h
theorem i_lift {o : Option α} {Q : α → Sd → Prop} (h : Op o fun a => Q a τ) : Ok (mLift o) τ Q := ok_lift.mpr h
theorem i_v {i : Nat} {d : D} {Q : D → Sd → Prop} (e : τ[i]? = some (some (.val d))) (h : Q d τ) : Ok (vR i) τ Q := ok_v.mpr ⟨d, e, h⟩
theorem i_2 {g : D → D → Option D} {fa fb : M D} {Q : D → Sd → Prop} (h : Ok fa τ fun a τ1 => Ok fb τ1 fun b τ2 => Op (g a b) fun z => Q z τ2) : Ok (m2 g fa fb) τ Q := ok_2.mpr h
theorem i_1 {g : D → Option D} {fa : M D} {Q : D → Sd → Prop} (h : Ok fa τ fun a τ1 => Op (g a) fun z => Q z τ1) : Ok (m1 g fa) τ Q := ok_1.mpr h
theorem i_call {g : List D → Option D} {f : M (List D)} {Q : D → Sd → Prop} (h : Ok f τ fun a τ1 => Op (g a) fun z => Q z τ1) : Ok (mCall g f) τ Q := ok_call.mpr h
theorem i_callF {g : List D → Option (List D)} {f : M (List D)} {Q : List D → Sd → Prop} (h : Ok f τ fun a τ1 => Op (g a) fun z => Q z τ1) : Ok (mCallF g f) τ Q := by
  unfold mCallF; simp only [ok_bind, ok_lift]; exact h
theorem i_2F {g : D → D → Option (List D)} {fa fb : M D} {Q : List D → Sd → Prop} (h : Ok fa τ fun a τ1 => Ok fb τ1 fun b τ2 => Op (g a b) fun z => Q z τ2) : Ok (m2F g fa fb) τ Q := by
  unfold m2F; simp only [ok_bind, ok_lift]; exact h
theorem i_nil {Q : List D → Sd → Prop} (h : Q [] τ) : Ok aNil τ Q := ok_nil.mpr h
theorem i_cons {fa : M D} {fr : M (List D)} {Q : List D → Sd → Prop} (h : Ok fa τ fun a τ1 => Ok fr τ1 fun r τ2 => Q (a :: r) τ2) : Ok (aCons fa fr) τ Q := ok_cons.mpr h
/-- a branch -/
def Br (c : Bool) (p q : Prop) : Prop := if c = true then p else q
theorem brT {p q : Prop} (h : p) : Br true p q := by unfold Br; rw [if_pos rfl]; exact h
theorem brF {p q : Prop} (h : q) : Br false p q := by unfold Br; rw [if_neg (by simp)]; exact h
theorem br {c : Bool} {p q : Prop} (h1 : c = true → p) (h2 : c = false → q) : Br c p q := by cases c with
  | true => exact brT (h1 rfl)
  | false => exact brF (h2 rfl)
theorem brt {c : Bool} {p q : Prop} (e : c = true) (h : p) : Br c p q := by subst e; exact brT h
theorem brf {c : Bool} {p q : Prop} (e : c = false) (h : q) : Br c p q := by subst e; exact brF h
theorem i_if {t : M Bool} {fa fb : M α} {Q : α → Sd → Prop} (h : Ok t τ fun c τ1 => Br c (Ok fa τ1 Q) (Ok fb τ1 Q)) : Ok (mIf t fa fb) τ Q := ok_if.mpr h
theorem i_sif {t : M Bool} {f g : M Fl} {Q : Fl → Sd → Prop} (h : Ok t τ fun c τ1 => Br c (Ok f τ1 Q) (Ok g τ1 Q)) : Ok (sIf t f g) τ Q := ok_sif.mpr h
theorem i_B {f : M D} {Q : Bool → Sd → Prop} (h : Ok f τ fun d τ1 => Op (asB d) fun b => Q b τ1) : Ok (mB f) τ Q := ok_B.mpr h
theorem i_tru {f : M D} {Q : Bool → Sd → Prop} (h : Ok f τ fun d τ1 => Op (truthD d) fun b => Q b τ1) : Ok (mTru f) τ Q := ok_tru.mpr h
theorem i_not {f : M Bool} {Q : Bool → Sd → Prop} (h : Ok f τ fun b τ1 => Q (!b) τ1) : Ok (mNot f) τ Q := ok_not.mpr h
theorem i_and {f g : M Bool} {Q : Bool → Sd → Prop} (h : Ok f τ fun b τ1 => Br b (Ok g τ1 Q) (Q false τ1)) : Ok (mAnd f g) τ Q := ok_and.mpr h
theorem i_or {f g : M Bool} {Q : Bool → Sd → Prop} (h : Ok f τ fun b τ1 => Br b (Q true τ1) (Ok g τ1 Q)) : Ok (mOr f g) τ Q := ok_or.mpr h
theorem i_notV {f : M D} {Q : D → Sd → Prop} (h : Ok f τ fun d τ1 => Op (truthD d) fun b => Q (.bl (!b)) τ1) : Ok (mNotV f) τ Q := ok_notV.mpr h
theorem i_andV {f g : M D} {Q : D → Sd → Prop} (h : Ok f τ fun d τ1 => Op (truthD d) fun b => Br b (Ok g τ1 Q) (Q d τ1)) : Ok (mAndV f g) τ Q := ok_andV.mpr h
theorem i_orV {f g : M D} {Q : D → Sd → Prop} (h : Ok f τ fun d τ1 => Op (truthD d) fun b => Br b (Q d τ1) (Ok g τ1 Q)) : Ok (mOrV f g) τ Q := ok_orV.mpr h
theorem i_ch {g g' : D → D → Option D} {fa fb fc : M D} {Q : D → Sd → Prop} (h : Ok fa τ fun a τ1 => Ok fb τ1 fun b τ2 => Op (g a b) fun d => Op (asB d) fun k => Br k (Ok fc τ2 (fun c τ3 => Op (g' b c) fun z => Q z τ3)) (Q (.bl false) τ2)) : Ok (mCh g g' fa fb fc) τ Q :=
  ok_ch.mpr (h.mono fun a τ1 h => h.mono fun b τ2 ⟨d, e1, k, e2, h⟩ => ⟨k, by rw [e1]; exact e2, h⟩)
theorem i_tup {f : M (List D)} {Q : D → Sd → Prop} (h : Ok f τ fun l τ1 => l.length ≤ sizeLine ∧ Q (.tup l) τ1) : Ok (mTup f) τ Q := ok_tup.mpr h
theorem i_lst {f : M (List D)} {Q : List D → Sd → Prop} (h : Ok f τ fun l τ1 => l.length ≤ sizeLine ∧ Q l τ1) : Ok (mLst f) τ Q := ok_lst.mpr h
theorem i_sl {fa : M D} {fl fh : M (Option Int)} {Q : D → Sd → Prop} (h : Ok fa τ fun a τ1 => Ok fl τ1 fun lo τ2 => Ok fh τ2 fun hi τ3 => Op (slD a lo hi) fun z => Q z τ3) : Ok (mSl fa fl fh) τ Q := ok_sl.mpr h
theorem i_fn {n m : Nat} {gD : List D → List D → List D} {F : List D → Option α} {fa fk : M (List D)} {Q : α → Sd → Prop} (h : Ok fa τ fun ds τ1 => Ok fk τ1 fun es τ2 => ds.length = n ∧ es.length = m ∧ Got (F (gD ds es)) fun z => Q z τ2) : Ok (mFn n m gD F fa fk) τ Q := ok_fn.mpr h
theorem i_mk {c n m : Nat} {gD : List D → List D → List D} {F : List D → Option (List D)} {fa fk : M (List D)} {Q : D → Sd → Prop} (h : Ok fa τ fun ds τ1 => Ok fk τ1 fun es τ2 => ds.length = n ∧ es.length = m ∧ Got (F (gD ds es)) fun z => Q (.obj c z) τ2) : Ok (mMk c n m gD F fa fk) τ Q := ok_mk.mpr h
theorem i_me0 {cs : List Nat} {F : List D → Option D} {fo : M D} {Q : D → Sd → Prop} (h : Ok fo τ fun d τ1 => isOb cs d = true ∧ Got (F [d]) fun z => Q z τ1) : Ok (mMe0 cs F fo) τ Q := ok_me0.mpr h
theorem i_fnW {i n : Nat} {l0 : List D} {F : List D → List D → Option (D × List D)} {fa : M (List D)} {Q : D → Sd → Prop} (e : τ[i]? = some (some (.own l0))) (h : Ok fa τ fun ds τ1 => ds.length + 1 = n ∧ Op (ownOf i τ1) fun l => Got (F l ds) fun p => Q p.1 (τ1.set i (some (.own p.2)))) : Ok (mFnW i n F fa) τ Q :=
  ok_fnW.mpr ⟨⟨l0, e⟩, h.mono fun ds τ1 ⟨h1, l, e1, p, e2, q⟩ => ⟨h1, l, ownOf_some e1, p.1, p.2, e2, q⟩⟩
theorem i_bor {f : M D} {Q : D → Sd → Prop} (h : Ok f (view τ) fun d _ => LF d = true ∧ Q d τ) : Ok (bor f) τ Q := ok_bor.mpr h
theorem i_borT {f : M Bool} {Q : Bool → Sd → Prop} (h : Ok f (view τ) fun d _ => Q d τ) : Ok (borT f) τ Q := ok_borT.mpr h
theorem i_join {fo fe : M D} {Q : D → Sd → Prop} (h : Ok fo τ fun a τ1 => ∃ x, a = .str x ∧ Ok fe τ1 fun b τ2 => Op (joinD a b) fun z => Q z τ2) : Ok (mJoin fo fe) τ Q := ok_join.mpr h
theorem i_js0 {acc : Str} {Q : D → Sd → Prop} (h : Q (.str acc) τ) : Ok (jsF [] acc) τ Q := ok_js0.mpr h
theorem i_js1 {t : M D} {ts : List (M D)} {acc : Str} {Q : D → Sd → Prop} (h : Ok t τ fun d τ1 => ∃ y, d = .str y ∧ (acc ++ y).length ≤ sizeLine ∧ Ok (jsF ts (acc ++ y)) τ1 Q) : Ok (jsF (t :: ts) acc) τ Q := ok_js1.mpr h
theorem i_snil {Q : Fl → Sd → Prop} (h : Q .nx τ) : Ok sNil τ Q := ok_snil.mpr h
/-- behind a statement -/
def Nx (fl : Fl) (p : Prop) (q : Fl → Prop) : Prop := match fl with
  | .nx => p
  | fl => q fl
theorem nxN {p : Prop} {q : Fl → Prop} (h : p) : Nx .nx p q := h
theorem nxR {d : D} {p : Prop} {q : Fl → Prop} (h : q (.rt d)) : Nx (.rt d) p q := h
theorem nxF {d : List D} {p : Prop} {q : Fl → Prop} (h : q (.rf d)) : Nx (.rf d) p q := h
theorem nxB {p : Prop} {q : Fl → Prop} (h : q .bk) : Nx .bk p q := h
theorem nxX {c : Nat} {d : List D} {p : Prop} {q : Fl → Prop} (h : q (.xc c d)) : Nx (.xc c d) p q := h
theorem nxC {p : Prop} {q : Fl → Prop} (h : q .ct) : Nx .ct p q := h
theorem i_sseq {f g : M Fl} {Q : Fl → Sd → Prop} (h : Ok f τ fun fl τ1 => Nx fl (Ok g τ1 Q) fun fl => Q fl τ1) : Ok (sSeq f g) τ Q := ok_sseq.mpr (h.mono fun fl τ1 q => by cases fl <;> exact q)
theorem i_sret {f : M D} {Q : Fl → Sd → Prop} (h : Ok f τ fun d τ1 => Q (.rt d) τ1) : Ok (sRet f) τ Q := ok_sret.mpr h
theorem i_sretF {f : M (List D)} {Q : Fl → Sd → Prop} (h : Ok f τ fun d τ1 => Q (.rf d) τ1) : Ok (sRetF f) τ Q := ok_sretF.mpr h
theorem i_sexpr {f : M α} {Q : Fl → Sd → Prop} (h : Ok f τ fun _ τ1 => Q .nx τ1) : Ok (sExpr f) τ Q := ok_sexpr.mpr h
theorem i_sset {i : Nat} {f : M D} {Q : Fl → Sd → Prop} (h : Ok f τ fun d τ1 => Q .nx (τ1.set i (some (.val d)))) : Ok (sSet i f) τ Q := ok_sset.mpr h
theorem i_sown {i : Nat} {f : M (List D)} {Q : Fl → Sd → Prop} (h : Ok f τ fun d τ1 => Q .nx (τ1.set i (some (.own d)))) : Ok (sOwn i f) τ Q := ok_sown.mpr h
theorem i_ssetL {i : Nat} {f : M (List D)} {Q : Fl → Sd → Prop} (h : Ok f τ fun d τ1 => Q .nx (τ1.set i (some (.val (.lst d))))) : Ok (sSetL i f) τ Q := ok_ssetL.mpr h
theorem i_spar {i j : Nat} {f : M (List D)} {Q : Fl → Sd → Prop} (h : Ok f τ fun ds τ1 => ∃ a b, ds = [a, b] ∧ Q .nx ((τ1.set i (some (.val a))).set j (some (.val b)))) : Ok (sPar i j f) τ Q := ok_spar.mpr h
theorem i_sasg {f : M D} {g : D → Sd → Option Sd} {Q : Fl → Sd → Prop} (h : Ok f τ fun d τ1 => Op (g d τ1) fun τ2 => Q .nx τ2) : Ok (sAsg f g) τ Q := ok_sasg.mpr h
theorem i_sitem {i : Nat} {fi fv : M D} {Q : Fl → Sd → Prop} (h : Ok fv τ fun d τ1 => Op (ownOf i τ1) fun _ => Ok fi τ1 fun k τ2 => Op (ownOf i τ2) fun l => Op (setAt l k d) fun l' => Q .nx (τ2.set i (some (.own l')))) : Ok (sSetItem i fi fv) τ Q :=
  ok_sitem.mpr (h.mono fun d τ1 ⟨l0, e0, h⟩ => ⟨⟨l0, e0⟩, h.mono fun k τ2 ⟨l, e1, l', e2, q⟩ => ⟨l', by rw [e1]; exact e2, q⟩⟩)
theorem i_sapp {i : Nat} {fv : M D} {Q : Fl → Sd → Prop} (h : Op (ownOf i τ) fun _ => Ok fv τ fun d τ1 => Op (ownOf i τ1) fun l => l.length < sizeLine ∧ Q .nx (τ1.set i (some (.own (l ++ [d]))))) : Ok (sAppend i fv) τ Q :=
  ok_sapp.mpr (by obtain ⟨l0, e0, h⟩ := h; exact ⟨⟨l0, e0⟩, h.mono fun d τ1 ⟨l, e1, h1, q⟩ => ⟨l, e1, h1, q⟩⟩)
theorem i_sfs {i : Nat} {m : Str} {cs : List Nat} {fv : M D} {Q : Fl → Sd → Prop} (h : Ok fv τ fun d τ1 => ∃ c, τ1[i]? = some (some (.ob c [] [])) ∧ c ∈ cs ∧ Q .nx (τ1.set i (some (.ob c [m] [d])))) : Ok (sSetFs i m cs fv) τ Q := ok_sfs.mpr h
theorem i_frz {i : Nat} {f : M α} {Q : α → Sd → Prop} (h : Ok f (froze i τ) Q) : Ok (frz i f) τ Q := h
theorem i_sfor {f : M (List D)} {g : D → Sd → Option Sd} {b : M Fl} {Q : Fl → Sd → Prop} (h : Ok f τ fun items τ1 => Ok (forL g b items) τ1 Q) : Ok (sFor f g b) τ Q := ok_sfor.mpr h
theorem i_lc {f : M (List D)} {g : D → Sd → Option Sd} {tt : M Bool} {te : M D} {vs : List Nat} {Q : List D → Sd → Prop} (h : Ok f τ fun items τ1 => items.length ≤ sizeLine ∧ Ok (lcL g tt te vs items) (wipeD τ1 vs) Q) : Ok (mLc f g tt te vs) τ Q := ok_lc.mpr h
end
/-! ### plain operations with a condition -/
theorem o_mod {i j : Int} {Q : D → Prop} (h : 0 < j) (q : Q (.int (i % j))) : Op (modD (.int i) (.int j)) Q := ⟨_, by simp [modD, int2, h], q⟩
theorem o_fdiv {i j : Int} {Q : D → Prop} (h : 0 < j) (h2 : j < 1073741824) (q : Q (.int (i / j))) : Op (fdivD (.int i) (.int j)) Q := ⟨_, by simp [fdivD, int2, h, h2], q⟩
theorem o_mul {i j : Int} {Q : D → Prop} (h : i.natAbs < 2 ^ 64 ∨ j.natAbs < 2 ^ 64) (q : Q (.int (i * j))) : Op (mulD (.int i) (.int j)) Q := ⟨_, by simp only [mulD, mulOk, decide_eq_true h, if_true], q⟩
theorem o_pow {i j : Int} {Q : D → Prop} (h : 0 ≤ j ∧ j ≤ 1000000 ∧ i.natAbs < 2 ^ 64) (q : Q (.int (i ^ j.toNat))) : Op (powD (.int i) (.int j)) Q := ⟨_, by simp only [powD, int2, decide_eq_true h, if_true], q⟩
theorem o_addS {x y : Str} {Q : D → Prop} (h : x.length + y.length ≤ sizeLine) (q : Q (.str (x ++ y))) : Op (addD (.str x) (.str y)) Q := ⟨_, by simp only [addD, h, if_true], q⟩
theorem o_lenS {x : Str} {Q : D → Prop} (h : x.length ≤ sizeLine) (q : Q (.int x.length)) : Op (lenD [.str x]) Q := ⟨_, by simp only [lenD, h, if_true], q⟩
theorem o_strI {i : Int} {Q : D → Prop} (h : i.natAbs.log2 < 1920) (q : Q (.str (toString i))) : Op (strD [.int i]) Q := ⟨_, by simp only [strD, h, if_true], q⟩
end Dv
set_option Elab.async false
set_option linter.all false
set_option maxRecDepth 100000
set_option maxHeartbeats 4000000
/-! DV21: more steps: defs, loops, texts -/
namespace Dv
open PySem L2
theorem runD_ex {n : Nat} {f : M Fl} {ds : List D} {P : D → Prop} (h : Ok f (start0 n ds) fun fl _ => ∃ d, fl = .rt d ∧ P d) : ∃ d, runD n f ds = some d ∧ P d := by
  obtain ⟨fl, τ', e, d, rfl, p⟩ := h
  exact ⟨d, by unfold runD; rw [e]; rfl, p⟩
theorem runF_ex {n : Nat} {f : M Fl} {ds : List D} {P : List D → Prop} (h : Ok f (start0 n ds) fun fl _ => ∃ d, fl = .rf d ∧ P d) : ∃ d, runF n f ds = some d ∧ P d := by
  obtain ⟨fl, τ', e, d, rfl, p⟩ := h
  exact ⟨d, by unfold runF; rw [e]; rfl, p⟩
theorem runW_ex {n : Nat} {f : M Fl} {l ds : List D} {P : D → List D → Prop} (h : Ok f (some (.own l) :: start0 (n - 1) ds) fun fl τ => ∃ d l', fl = .rt d ∧ ownOf 0 τ = some l' ∧ P d l') : ∃ d l', runW n f l ds = some (d, l') ∧ P d l' := by
  obtain ⟨fl, τ', e, d, l', rfl, e2, p⟩ := h
  exact ⟨d, l', by unfold runW; rw [e]; simp [retW, e2], p⟩
theorem i_lcL {g : D → Sd → Option Sd} {tt : M Bool} {te : M D} {vs : List Nat} {Q : List D → Sd → Prop} {items : List D} {τ : Sd} (I : List D → List D → Sd → Prop) (h0 : I items [] τ)
    (step : ∀ d ds ys τ, I (d :: ds) ys τ → Op (g d τ) fun τ1 => Ok tt τ1 fun c τ2 => Br c (Ok te τ2 (fun y τ3 => I ds (ys ++ [y]) (wipeD τ3 vs))) (I ds ys (wipeD τ2 vs)))
    (done : ∀ ys τ, I [] ys τ → Q ys τ) : Ok (lcL g tt te vs items) τ Q := (ok_lcL I step done h0).mono fun a τ' q => by simpa using q
theorem i_forL {g : D → Sd → Option Sd} {b : M Fl} {Q : Fl → Sd → Prop} {items : List D} {τ : Sd} (I : List D → Sd → Prop) (h0 : I items τ) (step : ∀ d ds τ, I (d :: ds) τ → Op (g d τ) fun τ1 => Ok b τ1 fun fl τ2 => match fl with
      | .nx => I ds τ2
      | .ct => I ds τ2
      | .bk => Q .nx τ2
      | fl => Q fl τ2) (done : ∀ τ, I [] τ → Q .nx τ) : Ok (forL g b items) τ Q := ok_forL I step done h0
theorem noRng1 {l : List D} {Q : List D → Prop} (h : False) : Op (rng1 l) Q := h.elim
theorem noRng2 {l : List D} {Q : List D → Prop} (h : False) : Op (rng2 l) Q := h.elim
theorem noRng3 {l : List D} {Q : List D → Prop} (h : False) : Op (rng3 l) Q := h.elim
/-! ### texts -/
theorem len_toList (x : Str) : x.length = x.cps.toList.length := by simp [Str.length]
theorem app_toList (x y : Str) : (x ++ y).cps.toList = x.cps.toList ++ y.cps.toList := by
  show (x.cps ++ y.cps).toList = _
  simp
theorem str_ext {x y : Str} (h : x.cps.toList = y.cps.toList) : x = y := by
  obtain ⟨⟨a⟩⟩ := x; obtain ⟨⟨b⟩⟩ := y
  simp at h; rw [h]
theorem at_nat {α : Type} {l : List α} {r : Nat} (h : r < l.length) : atI l (r : Int) = some l[r] := by
  have h' : (r : Int) < l.length := by omega
  simp [atI, ixN, h']
theorem o_ixS {x : Str} {L : List Nat} {r : Nat} {Q : D → Prop} (e : x.cps.toList = L) (h : r < L.length) (hz : L.length ≤ sizeLine) (q : ∀ c ∈ L, Q (.str ⟨#[c]⟩)) : Op (ixD (.str x) (.int r)) Q := by
  subst e
  refine ⟨.str ⟨#[x.cps.toList[r]]⟩, ?_, q _ (List.getElem_mem h)⟩
  simp only [ixD, len_toList x, hz, if_true, at_nat h, Option.map_some]
theorem o_rng1 {n : Nat} {Q : List D → Prop} (h : n < 2 ^ 62) (q : Q (rangeD 0 n 1)) : Op (rng1 [.int n]) Q := by
  refine ⟨_, ?_, q⟩
  have h1 : -(2 ^ 62) ≤ (n : Int) ∧ (n : Int) < 2 ^ 62 := by omega
  simp only [rng1, h1, if_true, and_self, Int.toNat_natCast]
theorem o_rng1I {i : Int} {Q : List D → Prop} (h0 : 0 ≤ i) (h1 : i < 2 ^ 62) (q : Q (rangeD 0 i.toNat 1)) : Op (rng1 [.int i]) Q := by
  refine ⟨_, ?_, q⟩
  have h1 : -(2 ^ 62) ≤ i ∧ i < 2 ^ 62 := by omega
  simp only [rng1, h1, if_true, and_self]
theorem rangeD_length (lo : Int) (n : Nat) (c : Int) : (rangeD lo n c).length = n := by simp [rangeD]
theorem rangeD_mem {lo : Int} {n : Nat} {c : Int} {d : D} (h : d ∈ rangeD lo n c) : ∃ i : Nat, i < n ∧ d = .int (lo + i * c) := by
  unfold rangeD at h
  obtain ⟨i, hi, rfl⟩ := List.mem_map.mp h
  exact ⟨i, by simpa using hi, rfl⟩
theorem asStrs_map (ys : List Str) : asStrs (ys.map D.str) = some ys := by
  induction ys with
  | nil => rfl
  | cons y ys ih => simp [asStrs, ih]
theorem asBls_map (ys : List Bool) : asBls (ys.map D.bl) = some ys := by
  induction ys with
  | nil => rfl
  | cons y ys ih => simp [asBls, ih]
theorem asInts_map (ys : List Int) : asInts (ys.map D.int) = some ys := by
  induction ys with
  | nil => rfl
  | cons y ys ih => simp [asInts, ih]
theorem glue_ones (cs : List Nat) : (PySem.Str.join Str.empty (cs.map fun c => (⟨#[c]⟩ : Str))).cps.toList = cs := by
  induction cs with
  | nil => rfl
  | cons c r ih =>
    cases r with
    | nil => rfl
    | cons d r =>
      show ((⟨#[c]⟩ : Str) ++ Str.empty ++ PySem.Str.join Str.empty ((d :: r).map fun c => (⟨#[c]⟩ : Str))).cps.toList = _
      rw [app_toList, app_toList, ih]
      rfl
theorem empty_eq : ("" : Str) = Str.empty := by decide +kernel
theorem o_join {cs : List Nat} {Q : D → Prop} (h : cs.length ≤ 1000) (q : ∀ x : Str, x.cps.toList = cs → Q (.str x)) : Op (joinD (.str ("" : Str)) (.lst (cs.map fun c => D.str ⟨#[c]⟩))) Q := by
  have e : (cs.map fun c => D.str ⟨#[c]⟩) = (cs.map fun c => (⟨#[c]⟩ : Str)).map D.str := by simp
  have z : ((cs.map fun c => (⟨#[c]⟩ : Str)).map (·.length)).sum + (cs.map fun c => (⟨#[c]⟩ : Str)).length * ("" : Str).length ≤ 16777216 := by
    have e1 : ("" : Str).length = 0 := by decide +kernel
    have e2 : ((cs.map fun c => (⟨#[c]⟩ : Str)).map (·.length)) = cs.map fun _ => 1 := by
      rw [List.map_map]; rfl
    rw [e1, e2]
    have : (cs.map fun _ => 1).sum = cs.length := by
      clear h q e e1 e2
      induction cs with
      | nil => rfl
      | cons c r ih => simp [ih]; omega
    rw [this]; omega
  refine ⟨.str (Txt.join ("" : Str) (cs.map fun c => (⟨#[c]⟩ : Str))), ?_, q _ ?_⟩
  · rw [e]
    simp only [joinD, asStrs_map, Option.bind_some, z, if_true]
  · show (Builtin.Str.glued ("" : Str) _).cps.toList = _
    rw [StrLaws.glued_eq_join, empty_eq]
    exact glue_ones cs
theorem o_slS {z : Str} {lo hi : Option Int} {Q : D → Prop} (h : z.length ≤ sizeLine) (q : Q (.str (cutS z lo hi))) : Op (slD (.str z) lo hi) Q := ⟨_, by simp only [slD, h, if_true], q⟩
theorem cutS_to (z : Str) (k : Nat) : (cutS z none (some (k : Int))).cps.toList = z.cps.toList.take k := by
  unfold cutS
  rw [HT.sIx_none, HT.sIx_nat, len_toList]
  simp only [List.drop_zero, Nat.sub_zero]
  by_cases h : k ≤ z.cps.toList.length
  · rw [Nat.min_eq_left h]
  · rw [Nat.min_eq_right (by omega), List.take_of_length_le (Nat.le_refl _), List.take_of_length_le (by omega)]
theorem cutS_from (z : Str) (k : Nat) : (cutS z (some (k : Int)) none).cps.toList = z.cps.toList.drop k := by
  unfold cutS
  rw [HT.sIx_none, HT.sIx_nat, len_toList]
  simp only [List.drop_zero]
  by_cases h : k ≤ z.cps.toList.length
  · rw [Nat.min_eq_left h, List.take_of_length_le (by simp)]
  · rw [Nat.min_eq_right (by omega), List.drop_length, List.drop_eq_nil_of_le (by omega)]; simp
theorem drop_cons {α : Type} {L : List α} {j : Nat} {d : α} {ds : List α} (h : L.drop j = d :: ds) : j < L.length ∧ L[j]? = some d ∧ ds = L.drop (j + 1) := by
  by_cases hj : j < L.length
  · rw [List.drop_eq_getElem_cons hj] at h
    cases h
    exact ⟨hj, List.getElem?_eq_getElem hj, rfl⟩
  · rw [List.drop_eq_nil_of_le (by omega)] at h; cases h
theorem rangeD_at {lo : Int} {n : Nat} {c : Int} {j : Nat} {d : D} (h : (rangeD lo n c)[j]? = some d) : d = .int (lo + j * c) ∧ j < n := by
  unfold rangeD at h
  rw [List.getElem?_map] at h
  by_cases hj : j < n
  · rw [List.getElem?_range hj] at h; cases h; exact ⟨rfl, hj⟩
  · rw [List.getElem?_eq_none (by simpa using hj)] at h; cases h
theorem nodup_sub {α : Type} [DecidableEq α] : ∀ {l m : List α}, l.Nodup → (∀ a ∈ l, a ∈ m) → l.length ≤ m.length
  | [], _, _, _ => Nat.zero_le _
  | a :: l, m, h, hs => by
    rw [List.nodup_cons] at h
    have ha := hs a List.mem_cons_self
    have := nodup_sub (l := l) (m := m.erase a) h.2 fun b hb => by
      have hne : b ≠ a := fun e => h.1 (e ▸ hb)
      exact (List.mem_erase_of_ne hne).mpr (hs b (List.mem_cons_of_mem _ hb))
    rw [List.length_erase_of_mem ha] at this
    have : 0 < m.length := List.length_pos_of_mem ha
    simp
    omega
theorem i_seqR {τ : Sd} {f g : M Fl} {Q : Fl → Sd → Prop} (R : Sd → Prop) (h1 : Ok f τ fun fl τ1 => fl = .nx ∧ R τ1) (h2 : ∀ τ1, R τ1 → Ok g τ1 Q) : Ok (sSeq f g) τ Q :=
  i_sseq (h1.mono fun fl τ1 h => by obtain ⟨rfl, r⟩ := h; exact h2 τ1 r)
theorem at_zero {α : Type} {l : List α} {a : α} : atI (a :: l) 0 = some a := by
  have h : (0 : Int) < ((a :: l).length : Nat) := by rw [List.length_cons]; omega
  unfold atI ixN
  rw [if_pos (by decide), if_pos h]
  rfl
theorem at_last {α : Type} {l : List α} {a : α} : atI (l ++ [a]) (-1) = some a := by
  have h : -(((l ++ [a]).length : Nat) : Int) ≤ -1 := by simp; omega
  have e : ((-1 : Int) + ((l ++ [a]).length : Nat)).toNat = l.length := by simp; omega
  unfold atI ixN
  rw [if_neg (by decide), if_pos h, e]
  simp
end Dv
set_option Elab.async false
set_option linter.all false
set_option maxRecDepth 100000
set_option maxHeartbeats 4000000
/-! DV22: more steps: branches, repr, == of data -/
namespace Dv
open PySem L2
theorem brN {c : Bool} {p q : Prop} (h : Br c q p) : Br (!c) p q := by cases c <;> exact h
theorem brEq {c d : Bool} {p q : Prop} (e : c = d) (h : Br d p q) : Br c p q := e ▸ h
theorem brYes {c : Bool} {p q : Prop} (e : c = true) (h : p) : Br c p q := by subst e; exact brT h
theorem brNo {c : Bool} {p q : Prop} (e : c = false) (h : q) : Br c p q := by subst e; exact brF h
/-- data that can be shown and compared: short ints, plain texts -/
def niceI (i : Int) : Bool := decide (i.natAbs < 1000000000000)
def niceS (x : Str) : Bool := x.cps.toList.all fun c => decide (c < 1114112)
mutual
def nice : D → Bool
  | .non => true
  | .bl _ => true
  | .int i => niceI i
  | .str x => niceS x
  | .tup l => nices l
  | .lst l => nices l
  | .scr _ => false
  | .obj _ _ => false
  | .exc _ _ => false
  | .dic _ _ => false
def nices : List D → Bool
  | [] => true
  | d :: r => nice d && nices r
end
theorem niceS_ok {x : Str} : niceS x = true ↔ ∀ c ∈ x.cps.toList, c < 1114112 := by
  unfold niceS
  rw [List.all_eq_true]
  simp only [decide_eq_true_eq]
theorem nices_ok {l : List D} : nices l = true ↔ ∀ d ∈ l, nice d = true := by
  induction l with
  | nil => simp [nices]
  | cons d r ih => simp [nices, ih]
mutual
/-- the data as the kit has it -/
def pyD : D → PyData
  | .non => .none
  | .bl b => .bool b
  | .int i => .int i
  | .str x => .str x
  | .tup l => .tuple (pyDs l)
  | .lst l => .list (pyDs l)
  | .scr ns => .list (ns.map .int)
  | .obj _ _ => .none
  | .exc _ _ => .none
  | .dic _ _ => .none
def pyDs : List D → List PyData
  | [] => []
  | d :: r => pyD d :: pyDs r
end
theorem pyDs_map (l : List D) : pyDs l = l.map pyD := by
  induction l with
  | nil => rfl
  | cons d r ih => simp [pyDs, ih]
mutual
theorem toP_nice : ∀ {d : D}, nice d = true → toP d = some (pyD d)
  | .non, _ => rfl
  | .bl _, _ => rfl
  | .int _, _ => rfl
  | .str _, _ => rfl
  | .tup l, h => by simp only [toP, toPs_nice (l := l) h, Option.map_some, pyD]
  | .lst l, h => by simp only [toP, toPs_nice (l := l) h, Option.map_some, pyD]
theorem toPs_nice : ∀ {l : List D}, nices l = true → toPs l = some (pyDs l)
  | [], _ => rfl
  | d :: r, h => by
    simp only [nices, Bool.and_eq_true] at h
    simp only [toPs, toP_nice h.1, toPs_nice h.2, Option.bind_some, Option.map_some, pyDs]
end
theorem niceI_log {i : Int} (h : niceI i = true) : i.natAbs.log2 < 1920 := by
  have h := of_decide_eq_true h
  by_cases h0 : i.natAbs = 0
  · rw [h0]; decide
  · have h1 : i.natAbs < 2 ^ 40 := by omega
    have := (Nat.log2_lt h0).mpr h1
    omega
theorem niceI_len {i : Int} (h : niceI i = true) : (PyData.shown (.int i)).length ≤ 13 := by
  have h := of_decide_eq_true h
  have := int_text_length_le10 (a := i) (k := 12) (by decide) (by simpa using h)
  simp only [PyData.shown]
  have e : ((toString i : String) : Str).length = (toString i).length := ofString_length _
  omega
mutual
theorem leaves_nice : ∀ {d : D}, nice d = true → (pyD d).leavesShort 13 = true
  | .non, _ => rfl
  | .bl _, _ => rfl
  | .int i, h => by simp only [pyD, PyData.leavesShort]; exact decide_eq_true (niceI_len h)
  | .str x, h => by
    simp only [pyD, PyData.leavesShort, List.all_eq_true, decide_eq_true_eq]
    intro c hc
    have := niceS_ok.mp h c hc
    omega
  | .tup l, h => by simp only [pyD, PyData.leavesShort]; exact leaves_nices (l := l) h
  | .lst l, h => by simp only [pyD, PyData.leavesShort]; exact leaves_nices (l := l) h
theorem leaves_nices : ∀ {l : List D}, nices l = true → PyData.leavesShortAll 13 (pyDs l) = true
  | [], _ => rfl
  | d :: r, h => by
    simp only [nices, Bool.and_eq_true] at h
    simp only [pyDs, PyData.leavesShortAll, leaves_nice h.1, leaves_nices h.2, Bool.and_self]
end
mutual
theorem show_nice : ∀ {d : D}, nice d = true → (pyD d).showable = true
  | .non, _ => rfl
  | .bl _, _ => rfl
  | .int i, h => by simp only [pyD, PyData.showable]; exact decide_eq_true (niceI_log h)
  | .str x, h => rfl
  | .tup l, h => by simp only [pyD, PyData.showable]; exact show_nices (l := l) h
  | .lst l, h => by simp only [pyD, PyData.showable]; exact show_nices (l := l) h
theorem show_nices : ∀ {l : List D}, nices l = true → PyData.showableAll (pyDs l) = true
  | [], _ => rfl
  | d :: r, h => by
    simp only [nices, Bool.and_eq_true] at h
    simp only [pyDs, PyData.showableAll, show_nice h.1, show_nices h.2, Bool.and_self]
end
mutual
theorem lay_nice : ∀ {d : D}, nice d = true → (pyD d).canLay0 = true
  | .non, _ => rfl
  | .bl _, _ => rfl
  | .int i, h => rfl
  | .str x, h => by
    simp only [pyD, PyData.canLay0, PyData.strOk]
    rw [← Array.all_toList, List.all_eq_true]
    intro c hc
    exact decide_eq_true (niceS_ok.mp h c hc)
  | .tup l, h => by simp only [pyD, PyData.canLay0]; exact lay_nices (l := l) h
  | .lst l, h => by simp only [pyD, PyData.canLay0]; exact lay_nices (l := l) h
theorem lay_nices : ∀ {l : List D}, nices l = true → PyData.canLayAll0 (pyDs l) = true
  | [], _ => rfl
  | d :: r, h => by
    simp only [nices, Bool.and_eq_true] at h
    simp only [pyDs, PyData.canLayAll0, lay_nice h.1, lay_nices h.2, Bool.and_self]
end
mutual
/-- how deep data is -/
def dep : D → Nat
  | .tup l => deps l + 1
  | .lst l => deps l + 1
  | _ => 0
def deps : List D → Nat
  | [] => 0
  | d :: r => max (dep d) (deps r)
end
mutual
/-- how large it is -/
def wei : D → Nat
  | .tup l => weis l
  | .lst l => weis l
  | .str x => x.length
  | .int _ => 40
  | _ => 0
def weis : List D → Nat
  | [] => 0
  | d :: r => wei d + 1 + weis r
end
mutual
theorem dep_nice : ∀ {d : D}, nice d = true → (pyD d).depth = dep d
  | .non, _ => rfl
  | .bl _, _ => rfl
  | .int i, h => rfl
  | .str x, h => rfl
  | .tup l, h => by simp only [pyD, PyData.depth, dep]; rw [dep_nices (l := l) h]
  | .lst l, h => by simp only [pyD, PyData.depth, dep]; rw [dep_nices (l := l) h]
theorem dep_nices : ∀ {l : List D}, nices l = true → PyData.depthAll (pyDs l) = deps l
  | [], _ => rfl
  | d :: r, h => by
    simp only [nices, Bool.and_eq_true] at h
    simp only [pyDs, PyData.depthAll, deps, dep_nice h.1, dep_nices h.2]
end
mutual
theorem wei_nice : ∀ {d : D}, nice d = true → (pyD d).weight ≤ wei d
  | .non, _ => Nat.le_refl _
  | .bl _, _ => Nat.le_refl _
  | .int i, h => by
    simp only [pyD, PyData.weight, wei]
    split
    · omega
    · rename_i h0
      have h := of_decide_eq_true h
      have h0 : i.natAbs ≠ 0 := fun e => h0 (by simpa using Int.natAbs_eq_zero.mp e)
      have := (Nat.log2_lt h0).mpr (show i.natAbs < 2 ^ 40 by omega)
      omega
  | .str x, h => Nat.le_refl _
  | .tup l, h => by simp only [pyD, PyData.weight, wei]; exact wei_nices (l := l) h
  | .lst l, h => by simp only [pyD, PyData.weight, wei]; exact wei_nices (l := l) h
theorem wei_nices : ∀ {l : List D}, nices l = true → PyData.weightAll (pyDs l) ≤ weis l
  | [], _ => Nat.le_refl _
  | d :: r, h => by
    simp only [nices, Bool.and_eq_true] at h
    simp only [pyDs, PyData.weightAll, weis]
    have := wei_nice h.1
    have := wei_nices h.2
    omega
end
def shD (d : D) : Str := (pyD d).shown
theorem reprD_nice {d : D} (h : nice d = true) (h1 : dep d ≤ 60) (h2 : wei d ≤ 1000000) : reprD [d] = some (.str (shD d)) := by
  have hz : (pyD d).shown.length ≤ sizeLine := PyData.shown_fits (B := 13) (by decide) (by decide) (leaves_nice h) (by have := wei_nice h; omega)
  simp only [reprD, toP_nice h, Option.bind_some, reprP]
  rw [if_pos ⟨show_nice h, by rw [dep_nice h]; exact h1, hz⟩]
  rfl
theorem o_repr {d : D} {Q : D → Prop} (h : nice d = true) (h1 : dep d ≤ 60) (h2 : wei d ≤ 1000000) (q : Q (.str (shD d))) : Op (reprD [d]) Q := ⟨_, reprD_nice h h1 h2, q⟩
/-- == of such data -/
def eqvD (a b : D) : Bool := PyData.eqv (pyD a) (pyD b)
theorem eqN_nice {neg : Bool} {a b : D} (ha : nice a = true) (hb : nice b = true) (da : dep a ≤ 60) (db : dep b ≤ 60) : eqN neg a b = some (.bl (eqvD a b != neg)) := by
  unfold eqN
  rw [toP_nice ha, toP_nice hb]
  simp only [Option.bind_some, eqP, SeqAt.shaped, lay_nice ha, lay_nice hb, dep_nice ha, dep_nice hb, decide_eq_true (show dep a ≤ 64 by omega), decide_eq_true (show dep b ≤ 64 by omega), Bool.and_self, if_true]
  rfl
theorem eqD_nice {neg : Bool} {a b : D} (ha : nice a = true) (hb : nice b = true) (da : dep a ≤ 60) (db : dep b ≤ 60) : eqD neg a b = some (.bl (eqvD a b != neg)) := by
  have go := eqN_nice (neg := neg) ha hb da db
  unfold eqD
  split
  · rename_i x y
    congr 2
  · rename_i x y
    congr 2
  · exact go
theorem o_eq {neg : Bool} {a b : D} {Q : D → Prop} (ha : nice a = true) (hb : nice b = true) (da : dep a ≤ 60) (db : dep b ≤ 60) (q : Q (.bl (eqvD a b != neg))) : Op (eqD neg a b) Q := ⟨_, eqD_nice ha hb da db, q⟩
mutual
theorem eqv_refl : ∀ {d : D}, nice d = true → eqvD d d = true
  | .non, _ => rfl
  | .bl b, _ => by cases b <;> rfl
  | .int i, _ => by simp [eqvD, pyD, PyData.eqv]
  | .str x, _ => by simp [eqvD, pyD, PyData.eqv]
  | .tup l, h => by simp only [eqvD, pyD, PyData.eqv]; exact eqvs_refl (l := l) h
  | .lst l, h => by simp only [eqvD, pyD, PyData.eqv]; exact eqvs_refl (l := l) h
theorem eqvs_refl : ∀ {l : List D}, nices l = true → PyData.eqvAll (pyDs l) (pyDs l) = true
  | [], _ => rfl
  | d :: r, h => by
    simp only [nices, Bool.and_eq_true] at h
    have := eqv_refl h.1
    unfold eqvD at this
    simp only [pyDs, PyData.eqvAll, this, eqvs_refl h.2, Bool.and_self]
end
/-! ### defs by equations -/
def retFl : Fl → Option D
  | .rt d => some d
  | .rf l => some (.lst l)
  | .nx => some .non
  | _ => none
theorem runD_eq {n : Nat} {f : M Fl} {ds : List D} {d : D} (h : Ok f (start0 n ds) fun fl _ => retFl fl = some d) : runD n f ds = some d := by
  obtain ⟨fl, τ', e, p⟩ := h
  unfold runD
  rw [e]
  cases fl <;> exact p
theorem runF_eq {n : Nat} {f : M Fl} {ds l : List D} (h : Ok f (start0 n ds) fun fl _ => fl = .rf l) : runF n f ds = some l := by
  obtain ⟨fl, τ', e, rfl⟩ := h
  unfold runF
  rw [e]
  rfl
theorem runI_eq {n c : Nat} {f : M Fl} {ds fs : List D} (h : Ok f (some (.ob c [] []) :: start0 (n - 1) ds) fun fl τ => fl = .nx ∧ obOf c τ = some fs) : runI n c f ds = some fs := by
  obtain ⟨fl, τ', e, rfl, p⟩ := h
  unfold runI
  rw [e]
  exact p
theorem o_in1 {neg : Bool} {c : Nat} {z : Str} {Q : D → Prop} (q : Q (.bl (decide (c ∈ z.cps.toList) != neg))) : Op (inD neg (.str ⟨#[c]⟩) (.str z)) Q := ⟨_, rfl, q⟩
theorem o_ixH {x : Str} {c : Nat} {r : List Nat} {Q : D → Prop} (e : x.cps.toList = c :: r) (hz : x.length ≤ sizeLine) (q : Q (.str ⟨#[c]⟩)) : Op (ixD (.str x) (.int 0)) Q :=
  ⟨_, by simp only [ixD, hz, if_true, e, at_zero, Option.map_some], q⟩
theorem o_allT {n : Nat} {Q : D → Prop} (q : Q (.bl true)) : Op (allD [.lst (List.replicate n (.bl true))]) Q := by
  refine ⟨.bl true, ?_, q⟩
  have : List.replicate n (D.bl true) = (List.replicate n true).map D.bl := by simp
  rw [this]
  simp only [allD, asBls_map, Option.map_some]
  simp
theorem o_fmtS {y : Str} {Q : D → Prop} (h : y.length ≤ sizeLine) (q : Q (.str y)) : Op (fmtD (.str y)) Q := ⟨_, by simp only [fmtD, h, if_true], q⟩
theorem o_fmtI {i : Int} {Q : D → Prop} (h : i.natAbs.log2 < 1920) (q : Q (.str (toString i))) : Op (fmtD (.int i)) Q := ⟨_, by simp only [fmtD, h, if_true], q⟩
theorem log_small {i : Int} (h : i.natAbs < 1099511627776) : i.natAbs.log2 < 1920 := by
  by_cases h0 : i.natAbs = 0
  · rw [h0]; decide
  · have := (Nat.log2_lt h0).mpr (show i.natAbs < 2 ^ 40 by omega)
    omega
theorem emp (x : Str) : Str.empty ++ x = x := str_ext (by rw [app_toList]; rfl)
theorem emp' (x : Str) : x ++ Str.empty = x := str_ext (by rw [app_toList]; simp; rfl)
theorem gotE {α β : Type} {f : β → Option α} {b b' : β} {a : α} {Q : α → Prop} (e : f b = some a) (h : b' = b) (q : Q a) : Got (f b') Q := ⟨a, by rw [h]; exact e, q⟩
theorem o_addL {a b : List D} {Q : D → Prop} (h : a.length + b.length ≤ sizeLine) (q : Q (.lst (a ++ b))) : Op (addD (.lst a) (.lst b)) Q := by
  have h' : (a ++ b).length ≤ sizeLine := by rw [List.length_append]; exact h
  exact ⟨_, by simp only [addD, fit, h', if_true, Option.map_some], q⟩
theorem o_addT {a b : List D} {Q : D → Prop} (h : a.length + b.length ≤ sizeLine) (q : Q (.tup (a ++ b))) : Op (addD (.tup a) (.tup b)) Q := by
  have h' : (a ++ b).length ≤ sizeLine := by rw [List.length_append]; exact h
  exact ⟨_, by simp only [addD, fit, h', if_true, Option.map_some], q⟩
theorem o_ixL {l : List D} {r : Nat} {Q : D → Prop} (h : r < l.length) (q : ∀ d ∈ l, Q d) : Op (ixD (.lst l) (.int r)) Q :=
  ⟨l[r], by simp only [ixD]; exact at_nat h, q _ (List.getElem_mem h)⟩
theorem rangeN {n : Nat} {d : D} (h : d ∈ rangeD 0 n 1) : ∃ i : Nat, i < n ∧ d = .int i := by
  obtain ⟨i, hi, rfl⟩ := rangeD_mem h
  exact ⟨i, hi, by simp⟩
end Dv
set_option Elab.async false
set_option linter.all false
set_option maxRecDepth 100000
set_option maxHeartbeats 4000000
/-! DV23: enumerate over tuples, stars in displays, operators on bits -/
namespace Dv
open PySem L2 PyProof.Rows
/-! ### enumerate(t), t a tuple -/
theorem meets_enum1 {v : Value} {o : Obj} {H : Heap → Prop} (B : Begins v o H) :
    Meets (Builtin.«enumerate.__new__» ⟨[.type "enumerate", v], []⟩) (fun _ R s => H s.heap ∧
      R (.ok (.ret (.ref (s.heap.push o).objs.size))) { s with heap := (s.heap.push o).push { cls := .type "enumerate", data := .fields #[.none, .bool false, .ref s.heap.objs.size, rawInt 0, .none, .none] } }) :=
  .of_wp fun prog w A R s h => by
    obtain ⟨hp, g, d, tk, os⟩ := s; obtain ⟨h1, h⟩ := h
    have hsub := sub_enumerate
    have q1 : ∀ {A' : Around} {E : Value → Shared → Prop} {Q : Value → Shared → Prop}, Q (.ref hp.objs.size) ⟨hp.push o, g, d, tk, os⟩ → wpAny (model prog w) A' (pyIter v) Q E ⟨hp, g, d, tk, os⟩ :=
      fun q => B.iter prog w _ _ ⟨hp, g, d, tk, os⟩ _ h1 q
    wp_walk using q1
    refine wpAny_stack_any fun st => wpAny_pure ?_
    split
    · rename_i c _ _ _ _ _
      cases (c == Value.type "enumerate")
      · wp_walk using q1
        exact ⟨_, rfl, h⟩
      · wp_walk using q1
        exact ⟨_, rfl, h⟩
    · wp_walk using q1
      exact ⟨_, rfl, h⟩
theorem enum_begins1 {prog : Program} {w : World} {A : Around} {E : Value → Shared → Prop} {s : Shared} {v : Value} {o : Obj} {H : Heap → Prop} {Q : Value → Shared → Prop} (B : Begins v o H) (h1 : H s.heap)
    (h : ∀ h', IsEnum h' (s.heap.objs.size + 1) s.heap.objs.size 0 .none → h'.get? s.heap.objs.size = some o → h'.objs.size = s.heap.objs.size + 2 →
      (∀ b o, s.heap.get? b = some o → h'.get? b = some o) → Q (.ref (s.heap.objs.size + 1)) { s with heap := h' }) :
    wpAny (model prog w) A (call (.type "enumerate") [v]) Q E s := by
  refine callType_new F.called_enumerate (by decide) (F.typeCall_enumerate_1 _) (F.newCall_enumerate_1 _) (fun obj => F.args_object_init_2 obj _) F.entry_enumerate_new
    (meets_enum1 B) ⟨h1, ?_⟩
  have hz : (s.heap.push o).objs.size = s.heap.objs.size + 1 := Heap.size_push ..
  show _ ∧ _
  rw [hz]
  have he : IsEnum ((s.heap.push o).push { cls := .type "enumerate", data := .fields #[.none, .bool false, .ref s.heap.objs.size, rawInt 0, .none, .none] }) (s.heap.objs.size + 1) s.heap.objs.size 0 .none := by
    have := Heap.get?_push_size (s.heap.push o) (o := { cls := .type "enumerate", data := .fields #[.none, .bool false, .ref s.heap.objs.size, rawInt 0, .none, .none] }) rfl
    rw [hz] at this; exact this
  refine ⟨⟨_, he, rfl⟩, h _ he (Heap.get?_push_of_some _ (Heap.get?_push_size _ B.free)) (by rw [Heap.size_push, hz]) fun b o x => Heap.get?_push_of_some _ (Heap.get?_push_of_some _ x)⟩
/-- the tuple at a, each item in a new pair -/
def Itet (K : PySem.W.Frag) (a : Addr) : It :=
  ⟨fun i H => ∃ (xs : List V) (x : V), SqT K H a xs ∧ xs[i]? = some x, fun i H v H' => ∃ T x, v = .ref T ∧ H T = none ∧ H' = upd H T (.tup [.int (i : Nat), x]) ∧ ∀ xs, SqT K H a xs → xs[i]? = some x, fun i H => ∃ xs : List V, SqT K H a xs ∧ xs.length = i⟩
theorem turn_enumT {P : Program} {w : World} {K : PySem.W.Frag} {elts : List Expr} {kk : Nat} {tpos : Pos} (a e it : Addr) :
    Turn P w K (.Tuple elts kk tpos) (Itet K a) [e, it] e (fun i h => (∃ old, IsEnum h e it ((i : Nat) : Int) old) ∧ h.IsTupleIter it a i ∧ e ≠ it ∧ e ≠ a ∧ a ≠ it) where
  mem := by simp
  obj := fun i h st b hb => by
    obtain ⟨⟨old, he⟩, ⟨o, ho, hc, hd⟩, _⟩ := st
    have e' : b = e ∨ b = it := by simpa using hb
    rcases e' with z | z
    · rw [z]; exact ⟨_, he, fun v q => nomatch q⟩
    · rw [z]; exact ⟨o, ho, fun v q => by rw [hd] at q; cases q⟩
  keep := fun i h h' st k => let ⟨⟨old, he⟩, hi, hne⟩ := st; ⟨⟨old, k e (by simp) _ he⟩, hi.at fun o q => k it (by simp) o q, hne⟩
  item := by
    intro X hP hw hK hc i pins s σ H E I hf st hg
    subst hP hw hK
    obtain ⟨⟨old, he⟩, hit, hne, hea, hai⟩ := st
    obtain ⟨xs, x, hq, hx⟩ := hg
    obtain ⟨its, rv, p, hz⟩ := I.tuple hq
    obtain ⟨u, hu, ru⟩ := rv.get hx
    have hel : e < s.heap.objs.size := Heap.lt_size he
    have hil : it < s.heap.objs.size := by obtain ⟨_, q, _⟩ := hit; exact Heap.lt_size q
    have hlt : i < its.toArray.size := by
      have := (List.getElem?_eq_some_iff.mp hu).1
      simpa using this
    refine wpAny_pyNext_enum_itemD (Draws.tuple (A := X.A.in1) (I.ok.hd hc) it a hai its.toArray) he ⟨hit, p⟩ hlt hne (by simp [hne, hea]) fun u' h' tk hP ho hit' hT hsz hk => ?_
    obtain rfl : u' = u := by
      have hu' : its.toArray[i]? = some u := by simpa using hu
      rw [hu'] at hP; cases hP; rfl
    refine ⟨_, rfl, wpAny_letOwnedTupleGo_enum (s := { s with heap := h', toks := tk + 1 }) ho fun h'' he' sb => ?_⟩
    have hT2 : h''.get? s.heap.objs.size = some { cls := .type "tuple", data := .seq #[.int i tk, u'] } := (sb.2 _ (Nat.ne_of_gt hel)).trans hT
    have new : ObjOk X.prog X.w (upd H s.heap.objs.size (.tup [.int (i : Nat), x])) h'' s.heap.objs.size (.tup [.int (i : Nat), x]) :=
      ⟨by show 2 ≤ sizeLine; decide, [.int i tk, u'], .cons ⟨_, rfl⟩ (.cons ru .nil), ⟨_, hT2, rfl, _, rfl⟩⟩
    have I1 : Inv X pins σ (upd H s.heap.objs.size (.tup [.int (i : Nat), x])) { s with heap := h'', toks := tk + 1 } :=
      I.turnedNew (ch := [e, it]) (fun b ob hb q => (sb.2 b (fun z => hb (by simp [z]))).trans (hk b ob (fun z => hb (by simp [z])) (fun z => hb (by simp [z])) q)) hf (Nat.le_refl _) new
    refine ⟨.ref s.heap.objs.size, _, I1, rfl, ⟨_, x, rfl, I.hok.fresh (Nat.le_refl _), rfl, fun ys hy => by rw [I.tuple_inj hy hq]; exact hx⟩, ⟨⟨u', ?_⟩, hit'.1.at fun o q => (sb.2 it (Ne.symm hne)).trans q, hne, hea, hai⟩, fun b hb => ?_⟩
    · have e1 : ((i + 1 : Nat) : Int) = (i : Int) + 1 := by omega
      rw [e1]; exact he'
    · have hb' : b < s.heap.objs.size := by
        have e' : b = e ∨ b = it := by simpa using hb
        rcases e' with z | z
        · rw [z]; exact hel
        · rw [z]; exact hil
      rw [upd_ne (Nat.ne_of_lt hb')]
      exact (hf b hb).1
  done := by
    intro X hP hw hK hc i pins s σ H E I hf st hg
    subst hP hw hK
    obtain ⟨⟨old, he⟩, hit, hne, hea, hai⟩ := st
    obtain ⟨xs, hq, hx⟩ := hg
    obtain ⟨its, rv, p, hz⟩ := I.tuple hq
    obtain ⟨f0, f1, f2, f3, f4, f5⟩ := hf it (by simp)
    have hl := rv.length
    have hi : its.toArray.size = i := by simp; omega
    refine wpAny_pyNext_enum_endD (Draws.tuple (A := X.A.in1) (I.ok.hd hc) it a hai its.toArray) he (by rw [hi]; exact ⟨hit, p⟩) fun h' eb => ⟨rfl, I.turned (t' := s.toks) (fun b o hb q => eb b o hb q) f0 f1 f3 f4 f5⟩
  self := fun A i s Q E st h => let ⟨⟨_, he⟩, _⟩ := st; wpAny_pyIter_enum he h
def iEnumT (K : PySem.W.Frag) (ta : TA) : TI := fun σ H R => ta σ H fun vs H1 => ∃ a xs, vs = [.ref a] ∧ SqT K H1 a xs ∧ R (Itet K a) H1
theorem pi_enumT {X : Cx} {e : Expr} {ta : TA} {p pos tpos : Pos} {elts : List Expr} {kk : Nat} (hg : Gl X "enumerate") (hm : X.mg "enumerate" = none) (ha : PA X [e] ta) (hs : starEach [e] X.env = [(false, eval e X.env)] := by rfl) :
    PI X (.Tuple elts kk tpos) (.Call (.Name "enumerate" p) [e] [] pos) (iEnumT X.K ta) := by
  refine ⟨fun pins s σ H R I h => ?_⟩
  refine Call_ (ld_blt I hg hm boot_enumerate (PyProof.Rows.callWith_type1 (thn (ha.run pos pins s σ H _ I h) fun us s1 ⟨vs, H1, I1, r1, q1⟩ => ?_) hs rfl))
  obtain ⟨a, xs, ex, hq, q⟩ := q1
  subst ex
  cases r1 with
  | cons r rr =>
    cases rr
    cases r
    obtain ⟨its, rv, p', hz⟩ := I1.tuple hq
    have hal : a < s1.heap.objs.size := by obtain ⟨_, q, _⟩ := p'; exact Heap.lt_size q
    refine enum_begins1 (begins_tuple a its.toArray) p' fun h' he hit hsz hk => wpAny_pyIter_enum he ?_
    have I2 : Inv X pins σ H1 { s1 with heap := h' } := I1.kept (t' := s1.toks) hk
    refine ⟨s1.heap.objs.size + 1, [s1.heap.objs.size + 1, s1.heap.objs.size], _, _, H1, rfl, I2, turn_enumT a (s1.heap.objs.size + 1) s1.heap.objs.size, ⟨⟨.none, he⟩, ⟨_, hit, rfl, rfl⟩, Nat.succ_ne_self _, Ne.symm (Nat.ne_of_lt (Nat.lt_succ_of_lt hal)), Nat.ne_of_lt hal⟩, fun b hb => ?_, q⟩
    have e' : b = s1.heap.objs.size + 1 ∨ b = s1.heap.objs.size := by simpa using hb
    have hle : s1.heap.objs.size ≤ b := by
      rcases e' with z | z
      · rw [z]; exact Nat.le_add_right _ _
      · rw [z]; exact Nat.le_refl _
    exact I1.fpOk hle (I1.hok.fresh hle)
section
variable {X : Cx} {G : Gx} {tg : Expr}
/-- (0, a), (1, b), .. -/
def numbered : Nat → List D → List D
  | _, [] => []
  | n, d :: r => .tup [.int n, d] :: numbered (n + 1) r
theorem numbered_get : ∀ {l : List D} {n i : Nat} {d : D}, (numbered n l)[i]? = some d → ∃ x, l[i]? = some x ∧ d = .tup [.int (n + i : Nat), x]
  | [], _, _, _, h => by simp [numbered] at h
  | x :: r, n, 0, d, h => by simp [numbered] at h; subst h; exact ⟨x, rfl, rfl⟩
  | x :: r, n, i + 1, d, h => by
    obtain ⟨y, h1, rfl⟩ := numbered_get (l := r) (n := n + 1) (i := i) (by simpa [numbered] using h)
    exact ⟨y, by simpa using h1, by congr 3; omega⟩
theorem numbered_length : ∀ {l : List D} {n : Nat}, (numbered n l).length = l.length
  | [], _ => rfl
  | _ :: r, n => by simp [numbered, numbered_length (l := r)]
theorem wk_enum {K : PySem.W.Frag} {mg : Str → Option Value} (a : Addr) (ds : List D) : Wk K mg (Ite K a) (numbered 0 ds) fun H O => ∃ xs, SqL K (cut H O) a xs ∧ RepL K mg (cut H O) xs ds where
  mono := fun H O H' O' ⟨xs, h, r⟩ l => ⟨xs, SqL.growW l h, RepL.grow l r⟩
  go := fun i d H O lv ⟨xs, h, r⟩ e => by
    have h' := SqL.grow (Grow.ofCut H O) h
    obtain ⟨x, e0, rfl⟩ := numbered_get e
    obtain ⟨v, e1, r1⟩ := r.get e0
    refine ⟨⟨xs, v, h', e1⟩, fun y H' hy => ?_⟩
    obtain ⟨T, z, rfl, hT, rfl, hz⟩ := hy
    have e2 := hz xs h'
    rw [e1] at e2; cases e2
    exact ⟨Grow.new hT, new_tup lv hT (.cons (by rw [Nat.zero_add]; exact .int _) (.cons r1 .nil))⟩
  stop := fun H O ⟨xs, h, r⟩ => ⟨xs, SqL.grow (Grow.ofCut H O) h, by rw [numbered_length]; exact Nat.le_of_eq r.length⟩
theorem wk_enumT {K : PySem.W.Frag} {mg : Str → Option Value} (a : Addr) (ds : List D) : Wk K mg (Itet K a) (numbered 0 ds) fun H O => ∃ xs, SqT K (cut H O) a xs ∧ RepL K mg (cut H O) xs ds where
  mono := fun H O H' O' ⟨xs, h, r⟩ l => ⟨xs, SqT.growW l h, RepL.grow l r⟩
  go := fun i d H O lv ⟨xs, h, r⟩ e => by
    have h' := SqT.grow (Grow.ofCut H O) h
    obtain ⟨x, e0, rfl⟩ := numbered_get e
    obtain ⟨v, e1, r1⟩ := r.get e0
    refine ⟨⟨xs, v, h', e1⟩, fun y H' hy => ?_⟩
    obtain ⟨T, z, rfl, hT, rfl, hz⟩ := hy
    have e2 := hz xs h'
    rw [e1] at e2; cases e2
    exact ⟨Grow.new hT, new_tup lv hT (.cons (by rw [Nat.zero_add]; exact .int _) (.cons r1 .nil))⟩
  stop := fun H O ⟨xs, h, r⟩ => ⟨xs, SqT.grow (Grow.ofCut H O) h, by rw [numbered_length]; exact r.length⟩
def enumD : List D → Option (List D)
  | [d] => (itemsD d).map (numbered 0)
  | _ => none
theorem di_enum {e : Expr} {p pos tpos : Pos} {elts : List Expr} {kk : Nat} {f : M (List D)} (hg : Gl X "enumerate") (hm : X.mg "enumerate" = none) (ha : DA X G [e] f) (hs : starEach [e] X.env = [(false, eval e X.env)] := by rfl) :
    DI X G (.Tuple elts kk tpos) (.Call (.Name "enumerate" p) [e] [] pos) (mBind f fun l => mLift (enumD l)) := pi_imp (pi_both (pi_enum hg hm ha hs) (pi_enumT hg hm ha hs)) fun σ H R q => by
  obtain ⟨O, τ, items, τ', SRr, e1, q⟩ := q
  obtain ⟨l, e2, e3⟩ := mL_some e1
  match l, e2, e3 with
  | [d], e2, e3 =>
    obtain ⟨its, e4, rfl⟩ := map_some e3
    cases d with
    | lst l =>
      cases e4
      refine .inl ⟨O, τ, _, τ', SRr, e2, fun vs H' O' l' R' r => ?_⟩
      match vs, r with
      | [_], .cons (.lst hq rl) .nil => exact ⟨_, _, rfl, SqL.of (cut_some hq).2, q _ H' O' _ l' R' (wk_enum _ _) ⟨_, .inl (.inl hq), rl⟩⟩
    | tup l =>
      cases e4
      refine .inr ⟨O, τ, _, τ', SRr, e2, fun vs H' O' l' R' r => ?_⟩
      match vs, r with
      | [_], .cons (.tup hq rl) .nil => exact ⟨_, _, rfl, SqT.grow (Grow.ofCut H' O') hq, q _ H' O' _ l' R' (wk_enumT _ _) ⟨_, hq, rl⟩⟩
    | scr ns =>
      cases e4
      refine .inl ⟨O, τ, _, τ', SRr, e2, fun vs H' O' l' R' r => ?_⟩
      match vs, r with
      | [_], .cons (.scr hq) .nil => exact ⟨_, _, rfl, SqL.grow (Grow.ofCut H' O') hq, q _ H' O' _ l' R' (wk_enum _ _) ⟨_, hq, RepL.ints ns⟩⟩
    | _ => cases e4
/-! ### *e in a display -/
def aStar (fa : M D) (fr : M (List D)) : M (List D) := mBind fa fun a => mBind (mLift (itemsD a)) fun l => mBind fr fun r => mPure (l ++ r)
theorem da_star {e : Expr} {p : Pos} {es : List Expr} {fa : M D} {fr : M (List D)} (ha : DE X G e fa) (hr : DA X G es fr) (hs : starEach (.Starred e p :: es) X.env = (true, eval e X.env) :: starEach es X.env := by rfl) : DA X G (.Starred e p :: es) (aStar fa fr) :=
  pa_imp (StX.pa_star ha hr hs) fun σ H Q q => by
    obtain ⟨O, τ, z, τ', R, e, q⟩ := q
    obtain ⟨a, τ1, e1, e⟩ := mBind_some e
    obtain ⟨l, τ2, e2, e⟩ := mBind_some e
    obtain ⟨r, τ3, e3, e⟩ := mBind_some e
    cases e
    have e2 : itemsD a = some l ∧ τ2 = τ1 := by
      unfold mLift at e2
      cases h : itemsD a with
      | none => simp [h] at e2
      | some l' => simp [h] at e2; exact ⟨by rw [e2.1], e2.2.symm⟩
    obtain ⟨e2, rfl⟩ := e2
    refine ⟨O, τ, a, τ2, R, e1, fun x H1 O1 l1 R1 r1 => ?_⟩
    have fin : ∀ {pp : Addr} {xs : List V}, (SqT X.K H1 pp xs ∨ SqL X.K H1 pp xs) → RepL X.K X.mg (cut H1 O1) xs l → x = .ref pp → ∃ p xs, x = V.ref p ∧ (SqT X.K H1 p xs ∨ SqL X.K H1 p xs) ∧ tDA X.K X.mg G fr σ H1 fun ys H2 => Q (xs ++ ys) H2 := fun {pp xs} h1 h2 h3 =>
      ⟨pp, xs, h3, h1, O1, τ2, r, _, R1, e3, fun ys H2 O2 l2 R2 r2 => q (xs ++ ys) H2 O2 (l1.trans l2) R2 ((RepL.grow l2 h2).append r2)⟩
    cases r1 with
    | tup hq rl => cases e2; exact fin (.inl (SqT.grow (Grow.ofCut _ _) hq)) rl rfl
    | lst hq rl => cases e2; exact fin (.inr (SqL.of (cut_some hq).2)) rl rfl
    | scr hq => cases e2; exact fin (.inr (SqL.grow (Grow.ofCut _ _) hq)) (RepL.ints _) rfl
    | _ => cases e2
/-! ### bits -/
def bandD : D → D → Option D := int2' fun i j => .int (Builtin.bitAnd i j)
theorem op_bandD : OpD X (binaryOp .BitAnd) bandD := op_int2' op_and fun _ _ _ => .int _
def borD : D → D → Option D := int2' fun i j => .int (Builtin.bitOr i j)
theorem op_borD : OpD X (binaryOp .BitOr) borD := op_int2' op_or fun _ _ _ => .int _
def shrD : D → D → Option D := int2 (fun _ j => decide (0 ≤ j)) fun i j => .int (i / 2 ^ j.toNat)
theorem op_shrD : OpD X (binaryOp .RShift) shrD := op_int2 op_shr (fun _ _ h => of_decide_eq_true h) fun _ _ _ => .int _
end
end Dv
set_option Elab.async false
set_option linter.all false
set_option maxRecDepth 100000
set_option maxHeartbeats 4000000
/-! DV24: operators, truth, repr, in, len of own instances -/
namespace Dv
open PySem L2
section
variable {X : Cx} {G : Gx}
theorem inv_fr {pins : List (Addr × Obj)} {σ : St} {H : Hp} {s : Shared} (I : Inv X pins σ H s) : ∃ m, PyProof.Rows.Fr X.base X.env.locals s.heap m := by
  obtain ⟨m, hn, _⟩ := I.loc
  exact ⟨m, hn, fun b o e => (I.bs b o e).1, Nat.le_trans I.ok.bsz I.ok.above⟩
/-! ### a + b, both of one class -/
structure BinOk (K : PySem.W.Frag) (mg : Str → Option Value) (nm : String) (f : Addr) (c : Nat) : Prop where
  ex : ∃ C, ClsF K mg c C ∧ PySem.W.selfFirst K C = true ∧ PySem.W.findIn K (.ref C) (PySem.dunder nm) = some (some (.ref f))
def binO (cs : List Nat) (F : List D → Option D) (a b : D) : Option D := match a, b with
  | .obj c ds, .obj c' es => if c = c' ∧ c ∈ cs then F [.obj c ds, .obj c' es] else none
  | _, _ => none
theorem op_binO {op : Operator} {k : Nat} {f : Addr} {fd : FuncData} {ps : List Str} {F : List D → Option D} {cs : List Nat} (ht : ∀ c ∈ cs, BinOk X.K X.mg op.info.2 f c) (hf : PySem.W.isFn X.K (.ref f) = true) (Fn : FnG X.prog X.w X.K X.mg X.base k f fd ps (spD X.K X.mg ps.length F)) (hl : ps.length = 2) (hr : Room k X.A) (hgd : X.A.guards = some []) (hb : Binds X.K fd ps []) :
    OpD X (binaryOp op) (binO cs F) := fun pins s σ H x y v u Q I rx ry ⟨O, a, b, z, lv, ra, rb, e, q⟩ => by
  cases ra with
  | @obj ad C dx c xs ds h1 h2 h3 rl =>
    cases rb with
    | @obj ad' C' dx' c' xs' ds' g1 g2 g3 rl' =>
      simp only [binO] at e
      split at e
      · rename_i hc
        obtain ⟨rfl, hc⟩ := hc
        obtain ⟨C0, hF, hself, hs⟩ := (ht c hc).ex
        have h1' := h1
        have g1' := g1
        rw [hF.g] at h1 g1; cases h1; cases g1
        cases (show v = Value.ref ad from rx)
        cases (show u = Value.ref ad' from ry)
        obtain ⟨mA, Om, _⟩ := ins_get I.hok (cut_some h2).2
        obtain ⟨od, J, _⟩ := Om.look
        obtain ⟨mA', Om', _⟩ := ins_get I.hok (cut_some g2).2
        obtain ⟨od', J', _⟩ := Om'.look
        obtain ⟨m, fr⟩ := inv_fr I
        refine PySem.W.binop_K fr I.ok.mod.kin J J'.type hself hs hf ?_
        exact wpAny_mono (wp_at (us := [.ref ad, .ref ad']) (vs := [.ref ad, .ref ad']) (Q := Q) Fn hr hgd I.env0 hb I (.cons rfl (.cons rfl .nil)) ⟨O, _, z, by simp [hl], lv, .cons (.obj h1' h2 h3 rl) (.cons (.obj g1' g2 g3 rl') .nil), e, q⟩) (fun _ _ h => cmpBack_of h) fun _ _ h => h
      · cases e
    | _ => cases e
  | _ => cases e
/-! ### repr(o) -/
theorem c_reprO {k : Nat} {f : Addr} {fd : FuncData} {F : List D → Option D} {cs : List Nat} (ht : ∀ c ∈ cs, SpOk X.K X.mg "__repr__" f c) (hf : PySem.W.isFn X.K (.ref f) = true) (Fn : FnG X.prog X.w X.K X.mg X.base k f fd ["self"] (spD X.K X.mg 1 F)) (hr : Room (k + 1) X.A) (hgd : X.A.guards = some []) (hb : Binds X.K fd ["self"] []) :
    CallD X (.builtin "repr") (strO cs F) := fun pins s σ H xs us Q I rx ⟨O, ds, z, lv, r, e, q⟩ => by
  match ds, r, e with
  | [.obj c fs], .cons (@Rep.obj _ _ _ ad C1 dx _ xs1 _ h1 h2 h3 rl) .nil, e =>
    simp only [strO] at e
    split at e
    · rename_i hc
      obtain ⟨C0, hF, hs⟩ := (ht c hc).ex
      rw [hF.g] at h1; cases h1
      cases e1 : F [.obj c fs] with
      | none => simp [e1] at e
      | some z' =>
        cases z' with
        | str y =>
          simp only [e1] at e
          cases e
          obtain ⟨u, rfl, ru⟩ := vals1 rx
          cases (show u = Value.ref ad from ru)
          obtain ⟨mA, Om, _⟩ := ins_get I.hok (cut_some h2).2
          obtain ⟨od, J, _⟩ := Om.look
          obtain ⟨m, fr⟩ := inv_fr I
          refine PySem.W.repr_K hr.in1.units0 fr I.ok.mod.kin J hs hf ?_
          refine wpAny_mono (wp_at (us := [.ref ad]) (vs := [.ref ad]) (Q := fun v H' => v = .str y ∧ Grow H H') Fn hr.in1 hgd I.env0.in1 hb I (.cons rfl .nil) ⟨O, _, _, rfl, lv, .cons (.obj hF.g h2 h3 rl) .nil, e1, fun v H' g' rz => ⟨rep_str rz, g'⟩⟩) (fun u' s' h => ?_) fun _ _ h => h
          obtain ⟨v', H', I', rv, rfl, g'⟩ := h
          obtain ⟨t, rfl⟩ := (show ∃ t, u' = Value.str y t from rv)
          exact ⟨.str y, H', I', ⟨t, rfl⟩, q _ H' g' (.str _)⟩
        | _ => simp [e1] at e
    · cases e
/-! ### the truth of an own instance -/
def truO (cs : List Nat) (F : List D → Option D) : D → Option Bool
  | .obj c ds => if c ∈ cs then (match F [.obj c ds] with
    | some (.bl b) => some b
    | _ => none) else none
  | _ => none
theorem truO_some {cs : List Nat} {F : List D → Option D} {d : D} {b : Bool} (h : truO cs F d = some b) : ∃ c ds, d = .obj c ds ∧ c ∈ cs ∧ F [.obj c ds] = some (.bl b) := by
  cases d with
  | obj c ds =>
    simp only [truO] at h
    split at h
    · rename_i hc
      split at h
      · rename_i b' e; cases h; exact ⟨c, ds, rfl, hc, e⟩
      · cases h
    · cases h
  | _ => cases h
theorem truthy_own {k : Nat} {f : Addr} {fd : FuncData} {F : List D → Option D} {cs : List Nat} {A : Around} {E : Value → Shared → Prop} (ht : ∀ c ∈ cs, SpOk X.K X.mg "__bool__" f c) (hf : PySem.W.isFn X.K (.ref f) = true) (Fn : FnG X.prog X.w X.K X.mg X.base k f fd ["self"] (spD X.K X.mg 1 F)) (hr : Room k A) (hgd : A.guards = some []) (hb : Binds X.K fd ["self"] [])
    {pins : List (Addr × Obj)} {σ : St} {H : Hp} {s : Shared} {O : List Addr} {x : V} {v : Value} {d : D} {b : Bool} {Q : Bool → Hp → Prop} (I : Inv X pins σ H s) (e0 : Env0 X.prog X.w X.K X.mg X.base A X.stack s H) (rv : RelV x v) (lv : Live H O) (r : Rep X.K X.mg (cut H O) x d) (e : truO cs F d = some b) (q : ∀ H', Grow H H' → Q b H') :
    wpAny (model X.prog X.w) A (truthy v) (TP X pins σ Q) E s := by
  obtain ⟨c, ds, rfl, hc, e1⟩ := truO_some e
  cases r with
  | @obj ad C dx _ xs _ h1 h2 h3 rl =>
    obtain ⟨C0, hF, hs⟩ := (ht c hc).ex
    have h1' := h1
    rw [hF.g] at h1; cases h1
    cases (show v = Value.ref ad from rv)
    obtain ⟨mA, Om, _⟩ := ins_get I.hok (cut_some h2).2
    obtain ⟨od, J, _⟩ := Om.look
    obtain ⟨m, fr⟩ := inv_fr I
    refine PySem.W.truthy_K fr I.ok.mod.kin J hs hf ?_
    refine wpAny_mono (wp_at (us := [.ref ad]) (vs := [.ref ad]) (Q := fun v H' => v = .bl b ∧ Grow H H') Fn hr hgd e0 hb I (.cons rfl .nil) ⟨O, _, _, rfl, lv, .cons (.obj h1' h2 h3 rl) .nil, e1, fun v H' g' rz => ⟨rep_bl rz, g'⟩⟩) (fun u' s' h => ?_) fun _ _ h => h
    obtain ⟨v', H', I', rv', rfl, g'⟩ := h
    cases (show u' = Value.bool b from rv')
    exact ⟨H', I', q H' g'⟩
/-- bool(o) -/
def bolO (cs : List Nat) (F : List D → Option D) : List D → Option D
  | [d] => (truO cs F d).map D.bl
  | _ => none
theorem meets_bool_in {prog : Program} {w : World} {x : Value} :
    MeetsIn prog w (Builtin.«bool.__new__» ⟨[.type "bool", x], []⟩) (fun A R s => wpAny (model prog w) A.in1 (truthy x) (fun b s' => R (.ok (.ret (.bool b))) s') (fun e s' => R (.error e) s') s) :=
  MeetsIn.of_wp fun A R s hs' => by
    have f1 := F.conv_sub_bool
    obtain ⟨hp, g, d, tk, os⟩ := s
    wp_walk
    refine wpAny_mono hs' (fun b s' h => ?_) fun _ _ h => h
    wp_walk
    exact ⟨_, rfl, h⟩
theorem c_bolO {k : Nat} {f : Addr} {fd : FuncData} {F : List D → Option D} {cs : List Nat} (ht : ∀ c ∈ cs, SpOk X.K X.mg "__bool__" f c) (hf : PySem.W.isFn X.K (.ref f) = true) (Fn : FnG X.prog X.w X.K X.mg X.base k f fd ["self"] (spD X.K X.mg 1 F)) (hr : Room (k + 2) X.A) (hgd : X.A.guards = some []) (hb : Binds X.K fd ["self"] []) :
    CallD X (.type "bool") (bolO cs F) := fun pins s σ H xs us Q I rx ⟨O, ds, z, lv, r, e, q⟩ => by
  match ds, r, e with
  | [d], .cons r1 .nil, e =>
    obtain ⟨b, e1, rfl⟩ := map_some e
    obtain ⟨u, rfl, ru⟩ := vals1 rx
    refine callType_newIn PySem.F.called_bool PySem.F.newNe_bool (PySem.F.typeCall_bool_1 _) (PySem.F.newCall_bool_1 _) (fun obj => PySem.F.args_object_init_2 obj _) PySem.F.entry_bool_new meets_bool_in ?_
    refine wpAny_mono (truthy_own (A := X.A.in1.in1) (Q := fun b' H' => b' = b ∧ Grow H H') ht hf Fn hr.in1.in1 hgd hb I I.env0.in1.in1 ru lv r1 e1 fun H' g' => ⟨rfl, g'⟩) (fun b' s' h => ?_) fun _ _ h => h
    obtain ⟨H', I', rfl, g'⟩ := h
    exact ⟨rfl, .bl b', H', I', rfl, q _ H' g' (.bl _)⟩
end
end Dv
set_option Elab.async false
set_option linter.all false
set_option maxRecDepth 100000
set_option maxHeartbeats 4000000
/-! DV25: the rules of DV23, DV24 as the printed texts use them -/
namespace Dv
open PySem L2
section
variable {X : Cx} {G : Gx} {d : DefX} {k k' : Nat} {ps : List Str} {cs : List Nat}
theorem dbin {op : Operator} {F : List D → Option D} (ht : ∀ c ∈ cs, BinOk X.K X.mg op.info.2 (d.at_ X.K) c) (hf : PySem.W.isFn X.K (.ref (d.at_ X.K)) = true) (h : Dn X.prog X.w X.K X.mg X.base d k' ps (spD X.K X.mg ps.length F)) (hl : ps.length = 2) (hb : Bds X.K d ps) (hr : Room k X.A) (hgd : X.A.guards = some []) (hk : k' ≤ k := by decide) : OpD X (binaryOp op) (binO cs F) := by
  obtain ⟨fd, F1, F2⟩ := h.ex
  exact op_binO ht hf F2 hl (hr.mono hk) hgd (hb fd F1)
theorem drepr {F : List D → Option D} (ht : ∀ c ∈ cs, SpOk X.K X.mg "__repr__" (d.at_ X.K) c) (hf : PySem.W.isFn X.K (.ref (d.at_ X.K)) = true) (h : Dn X.prog X.w X.K X.mg X.base d k' ["self"] (spD X.K X.mg 1 F)) (hb : Bds X.K d ["self"]) (hr : Room k X.A) (hgd : X.A.guards = some []) (hk : k' + 1 ≤ k := by decide) : CallD X (.builtin "repr") (strO cs F) := by
  obtain ⟨fd, F1, F2⟩ := h.ex
  exact c_reprO ht hf F2 (hr.mono hk) hgd (hb fd F1)
theorem dbol {F : List D → Option D} (ht : ∀ c ∈ cs, SpOk X.K X.mg "__bool__" (d.at_ X.K) c) (hf : PySem.W.isFn X.K (.ref (d.at_ X.K)) = true) (h : Dn X.prog X.w X.K X.mg X.base d k' ["self"] (spD X.K X.mg 1 F)) (hb : Bds X.K d ["self"]) (hr : Room k X.A) (hgd : X.A.guards = some []) (hk : k' + 2 ≤ k := by decide) : CallD X (.type "bool") (bolO cs F) := by
  obtain ⟨fd, F1, F2⟩ := h.ex
  exact c_bolO ht hf F2 (hr.mono hk) hgd (hb fd F1)
theorem dmeth {F : List D → Option D} {o e : Expr} {es : List Expr} {m : Str} {apos pos : Pos} {fo : M D} {fa : M (List D)} {pl : Sem Bool} (ho : DE X G o fo) (hcs : ∀ c ∈ cs, ∃ C, ClsF X.K X.mg c C ∧ Meth X.K C m (d.at_ X.K) ∧ m ∉ clsFlds c) (h : Dn X.prog X.w X.K X.mg X.base d k' ps (spD X.K X.mg ps.length F)) (hb : Bds X.K d ps) (hr : Room k X.A) (hgd : X.A.guards = some [])
    (ha : DA X G (e :: es) fa) (hk : k' ≤ k := by decide) (hst : starEach (e :: es) X.env = (false, eval e X.env) :: starEach es X.env := by rfl) (hpl : (backTo pos (starEach es X.env)).any (·.1) = false := by rfl)
    (ht : eval (.Call (.Attribute o m apos) (e :: es) [] pos) X.env = (do
      let ov ← eval o X.env
      standAt apos.atName
      let (f, first) ← holding [ov] (getMethod ov m pl)
      callWith pos f first (backTo pos (starEach (e :: es) X.env)) (backToKw pos (keywordEach [] X.env))) := by rfl) : DE X G (.Call (.Attribute o m apos) (e :: es) [] pos) (mMe ps.length cs F fo fa) := by
  obtain ⟨fd, F1, F2⟩ := h.ex
  exact de_meth ho hcs F2 (hr.mono hk) hgd (hb fd F1) ha hst hpl ht
theorem dmeth0 {F : List D → Option D} {o : Expr} {m : Str} {apos pos : Pos} {fo : M D} {pl : Sem Bool} (ho : DE X G o fo) (hcs : ∀ c ∈ cs, ∃ C, ClsF X.K X.mg c C ∧ Meth X.K C m (d.at_ X.K) ∧ m ∉ clsFlds c) (h : Dn X.prog X.w X.K X.mg X.base d k' ["self"] (spD X.K X.mg 1 F)) (hb : Bds X.K d ["self"]) (hr : Room k X.A) (hgd : X.A.guards = some []) (hk : k' ≤ k := by decide)
    (ht : eval (.Call (.Attribute o m apos) [] [] pos) X.env = (do
      let ov ← eval o X.env
      standAt apos.atName
      let (f, first) ← holding [ov] (getMethod ov m pl)
      callWith pos f first (backTo pos (starEach [] X.env)) (backToKw pos (keywordEach [] X.env))) := by rfl) : DE X G (.Call (.Attribute o m apos) [] [] pos) (mMe0 cs F fo) := by
  obtain ⟨fd, F1, F2⟩ := h.ex
  exact de_meth0 ho hcs F2 (hr.mono hk) hgd (hb fd F1) ht
/-! ### << -/
def shlOk (i j : Int) : Bool := decide (0 ≤ j ∧ (Builtin.Int.intBits i : Int) + j ≤ 134217728)
def shlD : D → D → Option D := int2 shlOk fun i j => .int (i * 2 ^ j.toNat)
theorem op_shlD : OpD X (binaryOp .LShift) shlD := op_int2 op_shlW (fun _ _ h => by
  have h := of_decide_eq_true h
  exact h) fun _ _ _ => .int _
/-! ### any, all of tuples -/
def anyT : List D → Option D
  | [.tup l] => (asBls l).map fun bs => .bl (bs.any id)
  | _ => none
def allT : List D → Option D
  | [.tup l] => (asBls l).map fun bs => .bl (bs.all id)
  | _ => none
theorem toPs_bls : ∀ {l : List D} {bs : List Bool}, asBls l = some bs → toPs l = some (bs.map PyData.bool)
  | [], _, e => by cases e; rfl
  | d :: r, bs, e => by
    cases d with
    | bl b =>
      simp only [asBls] at e
      obtain ⟨bs', e1, rfl⟩ := map_some e
      simp only [toPs, toP, Option.bind_some, toPs_bls e1, Option.map_some, List.map_cons]
    | _ => cases e
theorem plain_bls : ∀ bs : List Bool, PyData.plainAll (bs.map PyData.bool) = true
  | [] => rfl
  | b :: bs => by
    show (true && _) = true
    rw [Bool.true_and]
    exact plain_bls bs
theorem any_bls (bs : List Bool) : (bs.map PyData.bool).any PyData.truthy = bs.any id := by
  rw [List.any_map]; rfl
theorem all_bls (bs : List Bool) : (bs.map PyData.bool).all PyData.truthy = bs.all id := by
  rw [List.all_map]; rfl
theorem c_anyT (hc : X.calm = true) : CallD X (.builtin "any") anyT := fun pins s σ H xs us Q I rx ⟨O, ds, z, lv, r, e, q⟩ => by
  match ds, r, e with
  | [.tup l], .cons (.tup hq rl) .nil, e =>
    obtain ⟨bs, e1, rfl⟩ := map_some e
    obtain ⟨u, rfl, ru⟩ := vals1 rx
    cases ru
    obtain ⟨its, rv, pt, _⟩ := I.tuple (SqT.grow (Grow.ofCut H O) hq)
    obtain ⟨as, hr⟩ := Dp.readsAll I _ _ _ (repL_dp rl (toPs_bls e1)) rv
    refine PySem.W.any_tuple_data (vs := its.toArray) (I.ok.hd hc) pt (by simpa using hr) (plain_bls bs) (fun x hx => ?_) fun h' tk hk => ?_
    · obtain ⟨b, _, rfl⟩ := List.mem_map.mp hx
      trivial
    · exact ⟨.bl _, H, I.kept hk, by rw [any_bls]; rfl, q _ H (Grow.refl _) (.bl _)⟩
theorem c_allT (hc : X.calm = true) : CallD X (.builtin "all") allT := fun pins s σ H xs us Q I rx ⟨O, ds, z, lv, r, e, q⟩ => by
  match ds, r, e with
  | [.tup l], .cons (.tup hq rl) .nil, e =>
    obtain ⟨bs, e1, rfl⟩ := map_some e
    obtain ⟨u, rfl, ru⟩ := vals1 rx
    cases ru
    obtain ⟨its, rv, pt, _⟩ := I.tuple (SqT.grow (Grow.ofCut H O) hq)
    obtain ⟨as, hr⟩ := Dp.readsAll I _ _ _ (repL_dp rl (toPs_bls e1)) rv
    refine PySem.W.all_tuple_data (vs := its.toArray) (I.ok.hd hc) pt (by simpa using hr) (plain_bls bs) (fun x hx => ?_) fun h' tk hk => ?_
    · obtain ⟨b, _, rfl⟩ := List.mem_map.mp hx
      trivial
    · exact ⟨.bl _, H, I.kept hk, by rw [all_bls]; rfl, q _ H (Grow.refl _) (.bl _)⟩
def anyX (ds : List D) : Option D := (anyD ds).or (anyT ds)
def allX (ds : List D) : Option D := (allD ds).or (allT ds)
theorem c_anyX (hc : X.calm = true) : CallD X (.builtin "any") anyX := callD_or (c_any hc) (c_anyT hc)
theorem c_allX (hc : X.calm = true) : CallD X (.builtin "all") allX := callD_or (c_all hc) (c_allT hc)
/-! ### a new list out of what is looked at -/
def borF (f : M (List D)) : M (List D) := fun τ => match f (view τ) with
  | some (l, _) => if LFs l = true then some (l, τ) else none
  | none => none
theorem df_bor {e : Expr} {f : M (List D)} (h : ∀ G, DF X G e f) : DF X G e (borF f) := ⟨fun pins s σ H Q I q => by
  obtain ⟨O, τ, l, τ', R, e1, q⟩ := q
  unfold borF at e1
  split at e1
  · rename_i l0 τ1 e2
    split at e1
    · rename_i hl
      cases e1
      refine (h (gx H [] G.B none)).run pins s σ H Q I ⟨G.B, view τ, l, τ1, R.view, e2, fun p xs H1 O1 hp l1 R1 r1 => ?_⟩
      have gr : Grow H H1 := fun a o ha => R1.keep a o ha (by simp) (.inl rfl)
      exact q p xs H1 O hp (Le.grow gr) (R.grow gr) (LFs.ok (R.live.grow gr) hl (RepL.grow (Grow.ofCut _ _).w r1))
    · cases e1
  · cases e1⟩
/-! ### a, b, c = x, y, z -/
def sPar3 (i j l : Nat) (f : M (List D)) : M Fl := mBind f fun ds => fun τ => match ds with
  | [a, b, c] => some (.nx, ((τ.set i (some (.val a))).set j (some (.val b))).set l (some (.val c)))
  | _ => none
theorem ds_par3 {x y z : Str} {a b c : Expr} {px py pz pt pos : Pos} {kt k2 pt2} {f : M (List D)} (i j l : Nat) (hc : X.calm = true) (hN : X.N.Nodup) (hi : X.N[i]? = some x) (hj : X.N[j]? = some y) (hl : X.N[l]? = some z) (hij : i ≠ j) (hil : i ≠ l) (hjl : j ≠ l)
    (hx : X.env.scope.names.lookup x = some .local) (hy : X.env.scope.names.lookup y = some .local) (hz : X.env.scope.names.lookup z = some .local) (ha : DA X G [a, b, c] f)
    (hw : swappedStores [.Tuple [.Name x px, .Name y py, .Name z pz] kt pt] (.Tuple [a, b, c] k2 pt2) X.env = pure (some [x, y, z]))
    (hs : swapsWithSole [.Tuple [.Name x px, .Name y py, .Name z pz] kt pt] (.Tuple [a, b, c] k2 pt2) pos.line X.env = pure false := by rfl) :
    DS X G (.Assign [.Tuple [.Name x px, .Name y py, .Name z pz] kt pt] (.Tuple [a, b, c] k2 pt2) pos) (sPar3 i j l f) := ps_imp (ps_par3 hc hN hi hj hl hij hil hjl hx hy hz ha hw hs) fun N σ H q => by
  obtain ⟨O, τ, fl, τ', R, e1, q⟩ := q
  obtain ⟨ds, τ1, e2, e1⟩ := mBind_some e1
  refine ⟨O, τ, ds, τ1, R, e2, fun vs H' O' l R' r => ?_⟩
  match ds, e1, r with
  | [a, b, c], e1, .cons ra (.cons rb (.cons rc .nil)) =>
    cases e1
    exact ⟨_, _, _, rfl, q _ H' O' l (((R'.setV ra).setV rb).setV rc)⟩
theorem propSub {K : PySem.W.Frag} {C a b : Addr} {m : Str} (e : a = b) (p : PropOf K C m a (pGet K a)) : PropOf K C m b (pGet K b) := e ▸ p
theorem methSub {K : PySem.W.Frag} {C a b : Addr} {m : Str} (e : a = b) (p : Meth K C m a) : Meth K C m b := e ▸ p
end
end Dv
set_option Elab.async false
set_option linter.all false
set_option maxRecDepth 100000
set_option maxHeartbeats 4000000
/-! DV26: steps for loops over ranges, rows of truth values, while -/
namespace Dv
open PySem L2
section
variable {τ : Sd}
theorem i_star {fa : M D} {fr : M (List D)} {Q : List D → Sd → Prop} (h : Ok fa τ fun a τ1 => Op (itemsD a) fun l => Ok fr τ1 fun r τ2 => Q (l ++ r) τ2) : Ok (aStar fa fr) τ Q := by
  unfold aStar
  refine i_bind (h.mono fun a τ1 q => ?_)
  refine i_bind (i_lift ?_)
  obtain ⟨l, e, q⟩ := q
  exact ⟨l, e, i_bind (q.mono fun r τ2 q => i_pure q)⟩
theorem i_spar3 {i j l : Nat} {f : M (List D)} {Q : Fl → Sd → Prop} (h : Ok f τ fun ds τ1 => ∃ a b c, ds = [a, b, c] ∧ Q .nx (((τ1.set i (some (.val a))).set j (some (.val b))).set l (some (.val c)))) : Ok (sPar3 i j l f) τ Q := by
  unfold sPar3
  refine i_bind (h.mono fun ds τ1 q => ?_)
  obtain ⟨a, b, c, rfl, q⟩ := q
  exact ⟨_, _, rfl, q⟩
theorem i_me {n : Nat} {cs : List Nat} {F : List D → Option D} {fo : M D} {fa : M (List D)} {Q : D → Sd → Prop} (h : Ok fo τ fun d τ1 => isOb cs d = true ∧ Ok fa τ1 fun ds τ2 => ds.length + 1 = n ∧ Got (F (d :: ds)) fun z => Q z τ2) : Ok (mMe n cs F fo fa) τ Q := by
  unfold mMe
  refine i_bind (h.mono fun d τ1 q => ?_)
  obtain ⟨h1, q⟩ := q
  rw [if_pos h1]
  refine i_bind (q.mono fun ds τ2 q => i_lift ?_)
  obtain ⟨h2, z, e, q⟩ := q
  exact ⟨z, by rw [if_pos h2]; exact e, q⟩
theorem i_brk {Q : Fl → Sd → Prop} (h : Q .bk τ) : Ok sBrk τ Q := i_pure h
theorem i_cnt {Q : Fl → Sd → Prop} (h : Q .ct τ) : Ok sCnt τ Q := i_pure h
theorem i_or2 {α : Type} {f g : M α} {Q : α → Sd → Prop} (h : Ok f τ Q) : Ok (mOr2 f g) τ Q := by
  obtain ⟨a, τ', e, q⟩ := h
  exact ⟨a, τ', by unfold mOr2; rw [e]; rfl, q⟩
/-- while: something falls -/
theorem i_while {t : M Bool} {b : M Fl} {Q : Fl → Sd → Prop} (I : Nat → Sd → Prop) (step : ∀ n τ, I n τ → Ok t τ fun c τ1 => Br c (Ok b τ1 fun fl τ2 => fl = .nx ∧ ∃ m, m < n ∧ I m τ2) (Q .nx τ1)) {n : Nat} (h0 : I n τ) : Ok (sWhile t b) τ Q := by
  have key : ∀ n τ, I n τ → ∃ r, whF t b (n + 1) τ = some r ∧ Q r.1 r.2 := by
    intro n
    induction n using Nat.strongRecOn with
    | ind n ih =>
      intro τ h
      obtain ⟨c, τ1, e1, q⟩ := step n τ h
      cases c with
      | false =>
        refine ⟨(.nx, τ1), ?_, q⟩
        unfold whF
        simp only [e1]
      | true =>
        obtain ⟨fl, τ2, e2, rfl, m, hm, hI⟩ := (q : Ok b τ1 _)
        obtain ⟨r, e3, q3⟩ := ih m hm τ2 hI
        refine ⟨r, ?_, q3⟩
        unfold whF
        simp only [e1, e2]
        exact whF_le (by omega) e3
  obtain ⟨r, e, q⟩ := key n τ h0
  exact ⟨r.1, r.2, sWhile_of e, q⟩
end
/-! ### ranges -/
def nats (l : List Nat) : List D := l.map fun (k : Nat) => D.int k
theorem rangeD0 (n : Nat) : rangeD 0 n 1 = nats (List.range n) := by
  unfold rangeD nats
  refine List.map_congr_left fun k _ => ?_
  simp
theorem rangeD_nat (a n : Nat) : rangeD (a : Int) n 1 = nats ((List.range n).map (a + ·)) := by
  unfold rangeD nats
  rw [List.map_map]
  refine List.map_congr_left fun k _ => ?_
  simp
theorem o_rngN {i : Int} {n : Nat} {Q : List D → Prop} (e : i = n) (h : n < 2 ^ 62) (q : Q (nats (List.range n))) : Op (rng1 [.int i]) Q := by
  subst e
  exact o_rng1 h (by rw [rangeD0]; exact q)
theorem o_rng2N {i j : Int} {a b : Nat} {Q : List D → Prop} (e1 : i = a) (e2 : j = b) (h1 : a < 2 ^ 62) (h2 : b < 2 ^ 62) (q : Q (nats ((List.range (b - a)).map (a + ·)))) : Op (rng2 [.int i, .int j]) Q := by
  subst e1 e2
  refine ⟨rangeD a (b - a) 1, ?_, by rw [rangeD_nat]; exact q⟩
  have h : -(2 ^ 62) ≤ (a : Int) ∧ (a : Int) < 2 ^ 62 ∧ -(2 ^ 62) ≤ (b : Int) ∧ (b : Int) < 2 ^ 62 := by omega
  have e : ((b : Int) - (a : Int)).toNat = b - a := by omega
  simp only [rng2, h, if_true, and_self, e]
theorem nats_mem {l : List Nat} {d : D} (h : d ∈ nats l) : ∃ k ∈ l, d = .int (k : Nat) := by
  obtain ⟨k, hk, rfl⟩ := List.mem_map.mp h
  exact ⟨k, hk, rfl⟩
theorem nats_length (l : List Nat) : (nats l).length = l.length := by simp [nats]
theorem nats_append (l m : List Nat) : nats (l ++ m) = nats l ++ nats m := by simp [nats]
/-- a comprehension with a test, nothing else changes -/
theorem i_lcP {α : Type} {i : Nat} {tt : M Bool} {te : M D} {τ : Sd} {Q : List D → Sd → Prop} (items : List α) (c : α → D) (p : α → Bool) (y : α → D) (hτ : τ.set i none = τ)
    (h1 : ∀ a ∈ items, Ok tt (τ.set i (some (.val (c a)))) fun b τ2 => b = p a ∧ τ2 = τ.set i (some (.val (c a))))
    (h2 : ∀ a ∈ items, p a = true → Ok te (τ.set i (some (.val (c a)))) fun z τ2 => z = y a ∧ τ2 = τ.set i (some (.val (c a))))
    (q : Q ((items.filter p).map y) τ) : Ok (lcL (gN i) tt te [i] (items.map c)) τ Q := by
  refine i_lcL (fun its ys τ' => τ' = τ ∧ ∃ pre post, items = pre ++ post ∧ its = post.map c ∧ ys = (pre.filter p).map y) ⟨rfl, [], items, rfl, rfl, rfl⟩ ?_ ?_
  · rintro d ds ys τ' ⟨rfl, pre, post, e, hi, rfl⟩
    cases post with
    | nil => cases hi
    | cons a post =>
      cases hi
      have ha : a ∈ items := by rw [e]; simp
      refine ⟨_, rfl, (h1 a ha).mono fun b τ2 hb => ?_⟩
      obtain ⟨rfl, rfl⟩ := hb
      have hw : ∀ v, wipeD (τ'.set i v) [i] = τ' := fun v => by
        show (τ'.set i v).set i none = τ'
        rw [List.set_set, hτ]
      cases hp : p a with
      | false => exact ⟨hw _, pre ++ [a], post, by simp [e], rfl, by simp [hp]⟩
      | true =>
        refine (h2 a ha hp).mono fun z τ3 hz => ?_
        obtain ⟨rfl, rfl⟩ := hz
        exact ⟨hw _, pre ++ [a], post, by simp [e], rfl, by simp [hp]⟩
  · rintro ys τ' ⟨rfl, pre, post, e, hi, rfl⟩
    have : post = [] := by simpa using hi.symm
    subst this
    simp at e
    subst e
    exact q
theorem i_lcM {α : Type} {i : Nat} {te : M D} {τ : Sd} {Q : List D → Sd → Prop} (items : List α) (c : α → D) (y : α → D) (hτ : τ.set i none = τ)
    (h2 : ∀ a ∈ items, Ok te (τ.set i (some (.val (c a)))) fun z τ2 => z = y a ∧ τ2 = τ.set i (some (.val (c a))))
    (q : Q (items.map y) τ) : Ok (lcL (gN i) (mPure true) te [i] (items.map c)) τ Q :=
  i_lcP items c (fun _ => true) y hτ (fun a _ => i_pure ⟨rfl, rfl⟩) (fun a ha _ => h2 a ha) (by
    have : items.filter (fun _ => true) = items := List.filter_eq_self.mpr fun _ _ => rfl
    rw [this]; exact q)
/-! ### rows of truth values -/
def fl (S : Nat → Bool) (n : Nat) : List D := (List.range n).map fun k => D.bl (S k)
theorem fl_length (S : Nat → Bool) (n : Nat) : (fl S n).length = n := by simp [fl]
theorem fl_get {S : Nat → Bool} {n k : Nat} (h : k < n) : (fl S n)[k]? = some (.bl (S k)) := by
  unfold fl
  rw [List.getElem?_map, List.getElem?_range h]
  rfl
theorem fl_ext {S T : Nat → Bool} {n : Nat} (h : ∀ k, k < n → S k = T k) : fl S n = fl T n := by
  unfold fl
  refine List.map_congr_left fun k hk => ?_
  rw [h k (List.mem_range.mp hk)]
theorem fl_inj {S T : Nat → Bool} {n : Nat} (h : fl S n = fl T n) : ∀ k, k < n → S k = T k := fun k hk => by
  have e := congrArg (fun l => l[k]?) h
  simp only [fl_get hk] at e
  exact D.bl.inj (Option.some.inj e)
theorem at_natI {α : Type} {l : List α} {i : Int} {r : Nat} (e : i = r) (h : r < l.length) : atI l i = some l[r] := by subst e; exact at_nat h
theorem o_ixF {S : Nat → Bool} {n k : Nat} {i : Int} {Q : D → Prop} (e : i = k) (h : k < n) (q : Q (.bl (S k))) : Op (ixD (.lst (fl S n)) (.int i)) Q := by
  refine ⟨.bl (S k), ?_, q⟩
  simp only [ixD]
  rw [at_natI e (by rw [fl_length]; exact h)]
  congr 1
  exact Option.some.inj ((List.getElem?_eq_getElem (by rw [fl_length]; exact h)).symm.trans (fl_get h))
theorem o_ixFT {S : Nat → Bool} {n k : Nat} {i : Int} {Q : D → Prop} (e : i = k) (h : k < n) (q : Q (.bl (S k))) : Op (ixD (.tup (fl S n)) (.int i)) Q := by
  refine ⟨.bl (S k), ?_, q⟩
  simp only [ixD]
  rw [at_natI e (by rw [fl_length]; exact h)]
  congr 1
  exact Option.some.inj ((List.getElem?_eq_getElem (by rw [fl_length]; exact h)).symm.trans (fl_get h))
theorem nices_fl (S : Nat → Bool) (n : Nat) : nices (fl S n) = true := nices_ok.mpr fun d hd => by
  obtain ⟨k, _, rfl⟩ := List.mem_map.mp hd
  rfl
theorem deps_fl (S : Nat → Bool) (n : Nat) : deps (fl S n) = 0 := by
  unfold fl
  induction List.range n with
  | nil => rfl
  | cons k r ih => simp only [List.map_cons, deps, ih, dep]; rfl
theorem weis_fl (S : Nat → Bool) (n : Nat) : weis (fl S n) = n := by
  have : ∀ l : List Nat, weis (l.map fun k => D.bl (S k)) = l.length := fun l => by
    induction l with
    | nil => rfl
    | cons k r ih => simp only [List.map_cons, weis, ih, wei, List.length_cons]; omega
  unfold fl
  rw [this, List.length_range]
theorem eqv_fl (S T : Nat → Bool) (n : Nat) : eqvD (.lst (fl S n)) (.lst (fl T n)) = decide (∀ k, k < n → S k = T k) := by
  have key : ∀ l : List Nat, PyData.eqvAll (pyDs (l.map fun k => D.bl (S k))) (pyDs (l.map fun k => D.bl (T k))) = decide (∀ k ∈ l, S k = T k) := fun l => by
    induction l with
    | nil => rfl
    | cons k r ih =>
      simp only [List.map_cons, pyDs, pyD, PyData.eqvAll, PyData.eqv, ih]
      by_cases h : S k = T k <;> simp [h]
  unfold eqvD
  simp only [pyD, PyData.eqv, fl, key]
  congr 1
  exact propext ⟨fun h k hk => h k (List.mem_range.mpr hk), fun h k hk => h k (List.mem_range.mp hk)⟩
theorem o_eqF {S T : Nat → Bool} {n : Nat} {Q : D → Prop} (q : Q (.bl (decide (∀ k, k < n → S k = T k)))) : Op (eqD false (.lst (fl S n)) (.lst (fl T n))) Q :=
  o_eq (nices_fl S n) (nices_fl T n) (by rw [dep, deps_fl]; decide) (by rw [dep, deps_fl]; decide) (by rw [eqv_fl, Bool.bne_false]; exact q)
/-- a part of a row -/
theorem fl_cut {S : Nat → Bool} {n : Nat} {a b : Nat} (h : a ≤ b) (hb : b ≤ n) : cutD (fl S n) (some (a : Int)) (some (b : Int)) = fl (fun k => S (a + k)) (b - a) := by
  unfold cutD
  rw [HT.sIx_nat, HT.sIx_nat, fl_length, Nat.min_eq_left (by omega), Nat.min_eq_left (by omega)]
  refine List.ext_getElem? fun i => ?_
  by_cases hi : i < b - a
  · rw [List.getElem?_take_of_lt hi, List.getElem?_drop, fl_get (by omega), fl_get hi]
  · rw [List.getElem?_eq_none (by simp [fl_length]; omega), List.getElem?_eq_none (by rw [fl_length]; omega)]
theorem fl_to {S : Nat → Bool} {n b : Nat} (hb : b ≤ n) : cutD (fl S n) none (some (b : Int)) = fl S b := by
  unfold cutD
  rw [HT.sIx_none, HT.sIx_nat, fl_length, Nat.min_eq_left hb]
  refine List.ext_getElem? fun i => ?_
  by_cases hi : i < b
  · rw [List.getElem?_take_of_lt (by omega), List.getElem?_drop, fl_get (by omega), fl_get hi, Nat.zero_add]
  · rw [List.getElem?_eq_none (by simp [fl_length]; omega), List.getElem?_eq_none (by rw [fl_length]; omega)]
theorem fl_from {S : Nat → Bool} {n a : Nat} (ha : a ≤ n) : cutD (fl S n) (some (a : Int)) none = fl (fun k => S (a + k)) (n - a) := by
  unfold cutD
  rw [HT.sIx_none, HT.sIx_nat, fl_length, Nat.min_eq_left ha]
  refine List.ext_getElem? fun i => ?_
  by_cases hi : i < n - a
  · rw [List.getElem?_take_of_lt (by omega), List.getElem?_drop, fl_get (by omega), fl_get hi]
  · rw [List.getElem?_eq_none (by simp [fl_length]; omega), List.getElem?_eq_none (by rw [fl_length]; omega)]
/-- a place of a row is set -/
theorem fl_set {S : Nat → Bool} {n k : Nat} (b : Bool) : (fl S n).set k (.bl b) = fl (fun j => if j = k then b else S j) n := by
  refine List.ext_getElem? fun i => ?_
  by_cases hi : i < n
  · rw [fl_get hi]
    by_cases e : k = i
    · subst e
      rw [List.getElem?_set_self (by rw [fl_length]; exact hi), if_pos rfl]
    · rw [List.getElem?_set_ne e, fl_get hi, if_neg (fun q => e q.symm)]
  · rw [List.getElem?_eq_none (by simp [fl_length]; omega), List.getElem?_eq_none (by rw [fl_length]; omega)]
theorem o_setF {S : Nat → Bool} {n k : Nat} {i : Int} {b : Bool} {Q : List D → Prop} (e : i = k) (h : k < n) (q : Q (fl (fun j => if j = k then b else S j) n)) : Op (setAt (fl S n) (.int i) (.bl b)) Q := by
  subst e
  refine ⟨_, ?_, q⟩
  have : ixN (fl S n).length (k : Int) = some k := by
    unfold ixN
    rw [if_pos (by omega), if_pos (by rw [fl_length]; omega)]
    simp
  simp only [setAt, this, Option.map_some, fl_set]
/-! ### range(a, b, c) -/
theorem size_pos {a b c : Nat} (hc : 1 ≤ c) : ∃ n : Nat, Builtin.Range.rangeSize (a : Int) (b : Int) (c : Int) = n ∧ ∀ k, k < n ↔ a + k * c < b := by
  unfold Builtin.Range.rangeSize
  rw [if_pos (by omega)]
  by_cases h : a < b
  · rw [if_pos (by omega)]
    refine ⟨(b - a - 1) / c + 1, ?_, fun k => ?_⟩
    · have e : ((b : Int) - a - 1) = ((b - a - 1 : Nat) : Int) := by omega
      rw [e, ← Int.natCast_ediv]
      omega
    · rw [Nat.lt_succ_iff, Nat.le_div_iff_mul_le (by omega)]
      omega
  · rw [if_neg (by omega)]
    refine ⟨0, rfl, fun k => ?_⟩
    have : 0 ≤ k * c := Nat.zero_le _
    omega
theorem o_rng3N {i j l : Int} {a b c : Nat} {Q : List D → Prop} (e1 : i = a) (e2 : j = b) (e3 : l = c) (h1 : a < 1000000000) (h2 : b < 1000000000) (hc : 1 ≤ c) (h3 : c < 1000000000)
    (q : ∀ n, (∀ k, k < n ↔ a + k * c < b) → Q (nats ((List.range n).map fun k => a + k * c))) : Op (rng3 [.int i, .int j, .int l]) Q := by
  subst e1 e2 e3
  obtain ⟨n, e, hn⟩ := size_pos (a := a) (b := b) hc
  have hle : n ≤ b := by
    by_cases c0 : n = 0
    · omega
    · have := (hn (n - 1)).mp (by omega)
      have := Nat.le_mul_of_pos_right (n - 1) (show 0 < c by omega)
      omega
  have hs : Builtin.Range.small (a : Int) (b : Int) (c : Int) = true := by
    unfold Builtin.Range.small
    rw [e, if_pos (by omega)]
    have F : ∀ x : Int, -(2 ^ 62) ≤ x → x < 2 ^ 62 → Builtin.Range.rangeFitsLong x = true := fun x a b => by
      unfold Builtin.Range.rangeFitsLong
      rw [Bool.and_eq_true, decide_eq_true_eq, decide_eq_true_eq]
      omega
    rw [F a (by omega) (by omega), F b (by omega) (by omega), F c (by omega) (by omega), F n (by omega) (by omega), F _ (by omega) (by omega)]
    simp
  refine ⟨rangeD a n c, ?_, ?_⟩
  · have hR : RgOk3 (a : Int) (b : Int) (c : Int) := ⟨by omega, by omega, hs, by rw [e]; omega⟩
    simp only [rng3, hR, if_true, e, Int.toNat_natCast]
  · have : rangeD (a : Int) n (c : Int) = nats ((List.range n).map fun k => a + k * c) := by
      unfold rangeD nats
      rw [List.map_map]
      refine List.map_congr_left fun k _ => ?_
      simp
    rw [this]
    exact q n hn
/-- [False] * n -/
theorem o_repF {n : Nat} {i : Int} {Q : List D → Prop} (e : i = n) (h : n ≤ sizeLine) (q : Q (fl (fun _ => false) n)) : Op (repF (.lst [.bl false]) (.int i)) Q := by
  subst e
  refine ⟨_, ?_, q⟩
  have hz : sizeLine = 16777216 := sizeLine_eq
  have h' : -(2 ^ 63) ≤ (n : Int) ∧ (n : Int) < 2 ^ 63 ∧ [D.bl false].length * (n : Int).toNat ≤ sizeLine := by simp; omega
  have key : ∀ m : Nat, (List.replicate m [D.bl false]).flatten = fl (fun _ => false) m := fun m => by
    induction m with
    | zero => rfl
    | succ m ih =>
      rw [List.replicate_succ', List.flatten_append, ih]
      unfold fl
      rw [List.range_succ, List.map_append]
      rfl
  unfold repF
  dsimp only
  rw [if_pos (decide_eq_true h'), Int.toNat_natCast, key]
theorem noRep {a b : D} {Q : List D → Prop} (h : False) : Op (repF a b) Q := h.elim
theorem noShl {a b : D} {Q : D → Prop} (h : False) : Op (shlD a b) Q := h.elim
theorem noShr {a b : D} {Q : D → Prop} (h : False) : Op (shrD a b) Q := h.elim
theorem noMul {a b : D} {Q : D → Prop} (h : False) : Op (mulD a b) Q := h.elim
theorem noPow {a b : D} {Q : D → Prop} (h : False) : Op (powD a b) Q := h.elim
theorem noJoin {a b : D} {Q : D → Prop} (h : False) : Op (joinD a b) Q := h.elim
theorem noSl {a : D} {b c : Option Int} {Q : D → Prop} (h : False) : Op (slD a b c) Q := h.elim
theorem noSet {l : List D} {b c : D} {Q : List D → Prop} (h : False) : Op (setAt l b c) Q := h.elim
theorem brXF {c : Bool} {p q : Prop} (h : Br c p q) : Br (c != false) p q := by rw [Bool.bne_false]; exact h
theorem brXT {c : Bool} {p q : Prop} (h : Br c q p) : Br (c != true) p q := by rw [Bool.bne_true]; exact brN h
theorem o_cutF {S : Nat → Bool} {n a b : Nat} {i j : Int} {Q : D → Prop} (e1 : i = a) (e2 : j = b) (h : a ≤ b) (hb : b ≤ n) (q : Q (.lst (fl (fun k => S (a + k)) (b - a)))) : Op (slD (.lst (fl S n)) (some i) (some j)) Q := by
  subst e1 e2
  exact ⟨_, rfl, by rw [fl_cut h hb]; exact q⟩
theorem o_toF {S : Nat → Bool} {n b : Nat} {j : Int} {Q : D → Prop} (e2 : j = b) (hb : b ≤ n) (q : Q (.lst (fl S b))) : Op (slD (.lst (fl S n)) none (some j)) Q := by
  subst e2
  exact ⟨_, rfl, by rw [fl_to hb]; exact q⟩
theorem o_fromFT {S : Nat → Bool} {n a : Nat} {i : Int} {Q : D → Prop} (e1 : i = a) (ha : a ≤ n) (q : Q (.tup (fl (fun k => S (a + k)) (n - a)))) : Op (slD (.tup (fl S n)) (some i) none) Q := by
  subst e1
  exact ⟨_, rfl, by rw [fl_from ha]; exact q⟩
/-- what the walk does not look into -/
def Hold (p : Prop) : Prop := p
theorem hold {p : Prop} (h : p) : Hold p := h
theorem i_lcMR {i n : Nat} {te : M D} {τ : Sd} {Q : List D → Sd → Prop} (y : Nat → D) (hτ : τ.set i none = τ) (h2 : ∀ k, k < n → Ok te (τ.set i (some (.val (.int (k : Nat))))) fun z τ2 => z = y k ∧ τ2 = τ.set i (some (.val (.int (k : Nat)))))
    (q : Q ((List.range n).map y) τ) : Ok (lcL (gN i) (mPure true) te [i] (rangeD 0 n 1)) τ Q := by
  rw [rangeD0]
  exact i_lcM (List.range n) (fun (k : Nat) => D.int k) y hτ (fun k hk => h2 k (List.mem_range.mp hk)) q
theorem i_lcPR {i n : Nat} {tt : M Bool} {te : M D} {τ : Sd} {Q : List D → Sd → Prop} (p : Nat → Bool) (y : Nat → D) (hτ : τ.set i none = τ)
    (h1 : ∀ k, k < n → Ok tt (τ.set i (some (.val (.int (k : Nat))))) fun b τ2 => b = p k ∧ τ2 = τ.set i (some (.val (.int (k : Nat)))))
    (h2 : ∀ k, k < n → p k = true → Ok te (τ.set i (some (.val (.int (k : Nat))))) fun z τ2 => z = y k ∧ τ2 = τ.set i (some (.val (.int (k : Nat)))))
    (q : Q (((List.range n).filter p).map y) τ) : Ok (lcL (gN i) tt te [i] (rangeD 0 n 1)) τ Q := by
  rw [rangeD0]
  exact i_lcP (List.range n) (fun (k : Nat) => D.int k) p y hτ (fun k hk => h1 k (List.mem_range.mp hk)) (fun k hk => h2 k (List.mem_range.mp hk)) q
/-- the same with two names in the target -/
theorem i_lcP2 {α : Type} {i j : Nat} {tt : M Bool} {te : M D} {τ : Sd} {Q : List D → Sd → Prop} (items : List α) (c1 c2 : α → D) (p : α → Bool) (y : α → D) (hτ : (τ.set j none).set i none = τ) (hij : i ≠ j)
    (h1 : ∀ a ∈ items, Ok tt ((τ.set i (some (.val (c1 a)))).set j (some (.val (c2 a)))) fun b τ2 => b = p a ∧ τ2 = (τ.set i (some (.val (c1 a)))).set j (some (.val (c2 a))))
    (h2 : ∀ a ∈ items, p a = true → Ok te ((τ.set i (some (.val (c1 a)))).set j (some (.val (c2 a)))) fun z τ2 => z = y a ∧ τ2 = (τ.set i (some (.val (c1 a)))).set j (some (.val (c2 a))))
    (q : Q ((items.filter p).map y) τ) : Ok (lcL (gT 2 (gsCons (gN i) (gsCons (gN j) gsNil))) tt te [i, j] (items.map fun a => .tup [c1 a, c2 a])) τ Q := by
  refine i_lcL (fun its ys τ' => τ' = τ ∧ ∃ pre post, items = pre ++ post ∧ its = (post.map fun a => .tup [c1 a, c2 a]) ∧ ys = (pre.filter p).map y) ⟨rfl, [], items, rfl, rfl, rfl⟩ ?_ ?_
  · rintro d ds ys τ' ⟨rfl, pre, post, e, hi, rfl⟩
    cases post with
    | nil => cases hi
    | cons a post =>
      cases hi
      have ha : a ∈ items := by rw [e]; simp
      refine ⟨_, rfl, (h1 a ha).mono fun b τ2 hb => ?_⟩
      obtain ⟨rfl, rfl⟩ := hb
      have hw : ∀ v w, wipeD ((τ'.set i v).set j w) [i, j] = τ' := fun v w => by
        show (((τ'.set i v).set j w).set j none).set i none = τ'
        rw [List.set_set, List.set_comm _ _ hij, List.set_set, hτ]
      cases hp : p a with
      | false => exact ⟨hw _ _, pre ++ [a], post, by simp [e], rfl, by simp [hp]⟩
      | true =>
        refine (h2 a ha hp).mono fun z τ3 hz => ?_
        obtain ⟨rfl, rfl⟩ := hz
        exact ⟨hw _ _, pre ++ [a], post, by simp [e], rfl, by simp [hp]⟩
  · rintro ys τ' ⟨rfl, pre, post, e, hi, rfl⟩
    have : post = [] := by simpa using hi.symm
    subst this
    simp at e
    subst e
    exact q
theorem numbered_eq (l : List D) (n : Nat) : numbered n l = (l.zipIdx n).map fun x => .tup [.int (x.2 : Nat), x.1] := by
  induction l generalizing n with
  | nil => rfl
  | cons d r ih => simp [numbered, List.zipIdx_cons, ih]
theorem numbered_fl (S : Nat → Bool) (n : Nat) : numbered 0 (fl S n) = (List.range n).map fun (k : Nat) => .tup [.int k, .bl (S k)] := by
  refine List.ext_getElem? fun i => ?_
  by_cases hi : i < n
  · rw [numbered_eq, List.getElem?_map, List.getElem?_zipIdx, fl_get hi, List.getElem?_map, List.getElem?_range hi]
    simp
  · rw [List.getElem?_eq_none (by rw [numbered_length, fl_length]; omega), List.getElem?_eq_none (by simp; omega)]
/-! ### words joined -/
theorem sum_le {α : Type} (f : α → Nat) (b : Nat) : ∀ l : List α, (∀ x ∈ l, f x ≤ b) → (l.map f).sum ≤ l.length * b
  | [], _ => by simp
  | x :: l, h => by
    have h1 := h x (by simp)
    have h2 := sum_le f b l fun y hy => h y (by simp [hy])
    simp only [List.map_cons, List.sum_cons, List.length_cons, Nat.add_mul]
    omega
theorem o_joinW {x : Str} {ws : List Str} {Q : D → Prop} (hx : x.length ≤ 2) (hw : ∀ w ∈ ws, w.length ≤ 100) (hn : ws.length ≤ 100000) (q : Q (.str (Txt.join x ws))) : Op (joinD (.str x) (.lst (ws.map D.str))) Q := by
  have h1 := sum_le (fun w : Str => w.length) 100 ws hw
  have h2 : ws.length * x.length ≤ ws.length * 2 := Nat.mul_le_mul_left _ hx
  refine ⟨_, ?_, q⟩
  simp only [joinD, asStrs_map, Option.bind_some]
  rw [if_pos (by omega)]
theorem join_len {x : Str} {ws : List Str} (hx : x.length ≤ 2) (hw : ∀ w ∈ ws, w.length ≤ 100) (hn : ws.length ≤ 100000) : (Txt.join x ws).length ≤ 10200000 := by
  have h1 := sum_le (fun w : Str => w.length) 100 ws hw
  have h2 : ws.length * x.length ≤ ws.length * 2 := Nat.mul_le_mul_left _ hx
  have h3 : (Txt.join x ws).length ≤ (ws.map (·.length)).sum + ws.length * x.length := by
    show (Builtin.Str.glued x ws).length ≤ _
    rw [StrLaws.glued_eq_join]
    exact StrLaws.join_length_le x ws
  omega
end Dv
set_option Elab.async false
set_option linter.all false
set_option maxRecDepth 100000
set_option maxHeartbeats 4000000
/-! DV27: o.m(x=..) -/
namespace Dv
open PySem L2
section
variable {X : Cx} {G : Gx} {k k' n : Nat} {f C : Addr} {fd : FuncData} {ps ks : List Str} {m x : Str} {p pos apos : Pos} {o e : Expr} {es : List Expr} {kws : List Keyword} {fk : M (List D)} {fo : M D} {cs : List Nat} {gD : List D → List D → List D} {d : DefX}
def mMeK (n : Nat) (cs : List Nat) (gD : List D → List D → List D) (F : List D → Option D) (fo : M D) (fk : M (List D)) : M D := mBind fo fun d => if isOb cs d = true then mBind fk (fun ds => mLift (if ds.length = n then F (gD [d] ds) else none)) else fun _ => none
theorem mMeK_some {n : Nat} {F : List D → Option D} {τ τ' : Sd} {z : D} (h : mMeK n cs gD F fo fk τ = some (z, τ')) : ∃ c fs ds τ1, fo τ = some (.obj c fs, τ1) ∧ c ∈ cs ∧ fk τ1 = some (ds, τ') ∧ ds.length = n ∧ F (gD [.obj c fs] ds) = some z := by
  obtain ⟨d, τ1, e1, e⟩ := mBind_some h
  split at e
  · rename_i ho
    obtain ⟨ds, e2, e3⟩ := mL_some e
    split at e3
    · rename_i hl
      cases d with
      | obj c fs => exact ⟨c, fs, ds, τ1, e1, by simpa [isOb] using ho, e2, hl, e3⟩
      | _ => simp [isOb] at ho
    · cases e3
  · cases e
theorem de_methK {F : List D → Option D} {pl : Sem Bool} (ho : DE X G o fo) (hcs : ∀ c ∈ cs, ∃ C, ClsF X.K X.mg c C ∧ Meth X.K C m f ∧ m ∉ clsFlds c) (Fn : FnG X.prog X.w X.K X.mg X.base k f fd ps (spD X.K X.mg ps.length F)) (hr : Room k X.A) (hgd : X.A.guards = some []) (hb : KB X.K X.mg fd ps 1 ks gD) (hkw : DK X G kws fk)
    (hall : (backToKw pos (keywordEach kws X.env)).all (·.1.isSome) = true := by rfl) (hks : (backToKw pos (keywordEach kws X.env)).filterMap (·.1) = ks := by rfl) (hpl : ((backTo pos (starEach [] X.env)).any (·.1) || (backToKw pos (keywordEach kws X.env)).any (·.1.isNone)) = false := by rfl)
    (ht : eval (.Call (.Attribute o m apos) [] kws pos) X.env = (do
      let ov ← eval o X.env
      standAt apos.atName
      let (f, first) ← holding [ov] (getMethod ov m pl)
      callWith pos f first (backTo pos (starEach [] X.env)) (backToKw pos (keywordEach kws X.env))) := by rfl) : DE X G (.Call (.Attribute o m apos) [] kws pos) (mMeK ks.length cs gD F fo fk) := ⟨fun pins s σ H Q I q => by
  obtain ⟨O, τ, z, τ', R, e1, q⟩ := q
  obtain ⟨c, fs, es', τ1, e2, hc, e3, n2, e4⟩ := mMeK_some e1
  obtain ⟨C, hF, hm, hn⟩ := hcs c hc
  obtain ⟨g, gV, kb, rep⟩ := hb.b
  refine PySem.W.methodCall_KW (pl := pl) (thn (ho.run pins s σ H (fun v H1 => ∃ O1, Le H O H1 O1 ∧ SR X.K X.mg G H1 O1 σ τ1 ∧ Rep X.K X.mg (cut H1 O1) v (.obj c fs)) I ⟨O, τ, _, τ1, R, e2, fun v H1 O1 l1 R1 r1 => ⟨O1, l1, R1, r1⟩⟩) ?_) ht
  rintro u s1 ⟨v, H1, I1, rv, O1, l1, R1, r1⟩
  cases r1 with
  | @obj a C' dx _ xs _ h1 h2 h3 rl =>
    rw [hF.g] at h1; cases h1
    obtain rfl : u = Value.ref a := rv
    refine getmeth_ok I1 (cut_some h2).2 hF.cl hm (lookup_zip_none hn) ?_
    refine PySem.W.callWith_KW0 (first := [.ref a]) (h₀ := X.base) I.ok.mod.kin hm.kp hall ?_ hpl
    refine thn (hkw.run pos pins s1 σ H1 (fun zs H2 => ∃ O2, Le H1 O1 H2 O2 ∧ SR X.K X.mg G H2 O2 σ τ' ∧ RepL X.K X.mg (cut H2 O2) zs es') I1 ⟨O1, τ1, es', τ', R1, e3, fun zs H2 O2 l2 R2 r2 => ⟨O2, l2, R2, r2⟩⟩) ?_
    rintro ws s2 ⟨zs, H2, I2, rz, O2, l2, R2, r2⟩
    refine ⟨I2.kIn, ?_⟩
    rw [hks]
    have m2 : zs.length = ks.length := r2.length.trans n2
    obtain ⟨rg, hl⟩ := rep _ [.ref a] zs [.obj c fs] es' (.cons (Rep.grow l2 (.obj hF.g h2 h3 rl)) .nil) r2 rfl m2
    exact run_G (us := [.ref a]) (vs := [.ref a]) Fn hr hgd kb I2 (.cons rfl .nil) rz rfl m2 (call_D (gV := gV) (gD := gD) hl rg (l1.trans l2) R2 e4 q)⟩
theorem dmethK {F : List D → Option D} {pl : Sem Bool} (ho : DE X G o fo) (hcs : ∀ c ∈ cs, ∃ C, ClsF X.K X.mg c C ∧ Meth X.K C m (d.at_ X.K) ∧ m ∉ clsFlds c) (h : Dn X.prog X.w X.K X.mg X.base d k' ps (spD X.K X.mg ps.length F)) (kb : KBs X.K X.mg d ps 1 ks gD) (hr : Room k X.A) (hgd : X.A.guards = some []) (hkw : DK X G kws fk) (hk : k' ≤ k := by decide)
    (hall : (backToKw pos (keywordEach kws X.env)).all (·.1.isSome) = true := by rfl) (hks : (backToKw pos (keywordEach kws X.env)).filterMap (·.1) = ks := by rfl) (hpl : ((backTo pos (starEach [] X.env)).any (·.1) || (backToKw pos (keywordEach kws X.env)).any (·.1.isNone)) = false := by rfl)
    (ht : eval (.Call (.Attribute o m apos) [] kws pos) X.env = (do
      let ov ← eval o X.env
      standAt apos.atName
      let (f, first) ← holding [ov] (getMethod ov m pl)
      callWith pos f first (backTo pos (starEach [] X.env)) (backToKw pos (keywordEach kws X.env))) := by rfl) : DE X G (.Call (.Attribute o m apos) [] kws pos) (mMeK ks.length cs gD F fo fk) := by
  obtain ⟨fd, F1, F2⟩ := h.ex
  exact de_methK ho hcs F2 (hr.mono hk) hgd (kb fd F1) hkw hall hks hpl ht
theorem i_meK {τ : Sd} {n : Nat} {F : List D → Option D} {Q : D → Sd → Prop} (h : Ok fo τ fun d τ1 => isOb cs d = true ∧ Ok fk τ1 fun ds τ2 => ds.length = n ∧ Got (F (gD [d] ds)) fun z => Q z τ2) : Ok (mMeK n cs gD F fo fk) τ Q := by
  obtain ⟨d, τ1, e1, h1, ds, τ2, e2, h2, z, e3, q⟩ := h
  refine ⟨z, τ2, ?_, q⟩
  unfold mMeK
  simp only [mBind, e1, h1, if_true, e2, mLift, h2, e3]
end
end Dv
set_option Elab.async false
set_option linter.all false
set_option maxRecDepth 100000
set_option maxHeartbeats 4000000
/-! DV28: xs[::-1] -/
namespace Dv
open PySem L2
section
variable {X : Cx} {G : Gx}
def revD : D → Option D
  | .lst l => some (.lst l.reverse)
  | _ => none
theorem RepL.rev {K : PySem.W.Frag} {mg : Str → Option Value} {H : Hp} : ∀ {vs : List V} {ds : List D}, RepL K mg H vs ds → RepL K mg H vs.reverse ds.reverse
  | _, _, .nil => .nil
  | _, _, .cons h r => by
    rw [List.reverse_cons, List.reverse_cons]
    exact (RepL.rev r).append (.cons h .nil)
theorem de_rev {e : Expr} {k : Nat} {p1 p2 p3 pos : Pos} {fa : M D} (he : DE X G e fa) : DE X G (.Subscript e (.Slice none none (some (.UnaryOp .USub (.Constant (.int 1) k p1) p2)) p3) pos) (m1 revD fa) :=
  pe_imp (pe_revL he) fun σ H Q q => by
    obtain ⟨O, τ, z, τ', R, e, q⟩ := q
    obtain ⟨a, e1, e2⟩ := m1_some e
    refine ⟨O, τ, a, τ', R, e1, fun v H1 O1 l1 R1 r1 => ?_⟩
    cases r1 with
    | lst hq rl =>
      cases e2
      exact ⟨_, _, rfl, SqL.of (cut_some hq).2, fun p hp => q _ _ O1 (l1.trans (Le.grow (Grow.new hp))) (R1.grow (Grow.new hp)) (new_list R1.live hp rl.rev)⟩
    | _ => cases e2
end
end Dv
set_option Elab.async false
set_option linter.all false
set_option maxRecDepth 100000
set_option maxHeartbeats 4000000
/-! DV29: a + b, b of another own class that is none below a's -/
namespace PySem.W
open PySem PySem.Calls PyProof.Rows Builtin
section
variable {prog : Program} {w : World} {A : Around} {E : Value → Shared → Prop} {s : Shared} {K : Frag} {x C C' L f f' : Addr} {h₀ : Heap} {m : Str → Option Value} {ox : Obj} {od : Option Obj}
theorem binop_mix {op : Operator} {b : Value} {rc rc' : Option Value} {Q : Value → Shared → Prop} (F : Fr h₀ L s.heap m) (X₀ : K.In h₀) (I : InstAt s.heap x ox C od) (hb : Looks (model prog w) s.heap (typeOf b) (.ref C')) (hne : (Value.ref C == Value.ref C') = false) (hc : selfFirst K C = true) (hc' : selfFirst K C' = true)
    (hs : findIn K (.ref C) (PySem.dunder op.info.2) = some (some (.ref f))) (hf : isFn K (.ref f) = true) (hr : findIn K (.ref C) (dunderR op.info.2) = some rc) (hp : rc = none ∨ ∃ g : Addr, rc = some (.ref g))
    (hs' : findIn K (.ref C') (PySem.dunder op.info.2) = some (some (.ref f'))) (hr' : findIn K (.ref C') (dunderR op.info.2) = some rc') (hp' : rc' = none ∨ ∃ g : Addr, rc' = some (.ref g)) (hsub : subIn K (.ref C') (.ref C) = some false)
    (h : wpAny (model prog w) A (call (.ref f) [.ref x, b]) (CmpBack Q) E s) : wpAny (model prog w) A (binaryOp op (.ref x) b) Q E s := by
  have X := X₀.keeps F.keep
  obtain ⟨cd, rest, hcd, hm⟩ := ksp_first hc
  obtain ⟨cd', rest', hcd', hm'⟩ := ksp_first hc'
  rcases hi : op.info with ⟨sym, nm'⟩
  rw [hi] at hs hr hs' hr'
  dsimp only at hs hr hs' hr'
  have one := ksp_try X I hs hf h
  obtain ⟨hh, g, d, tt, os⟩ := s
  have L1 : Looks (model prog w) hh (typeOf (.ref x)) (.ref C) := I.type
  have L2 : Looks (model prog w) hh (typeOf b) (.ref C') := hb
  have L3 : Looks (model prog w) hh (fillsNumberSlot (.ref C) nm') true := fills_K X hcd hm hs
  have L4 : Looks (model prog w) hh (fillsNumberSlot (.ref C') nm') true := fills_K X hcd' hm' hs'
  have L5 : Looks (model prog w) hh (isSubtype (.ref C') (.ref C)) false := looks_subIn X hsub
  have L6 : Looks (model prog w) hh (numberSlotInPython (.ref C) nm') true := ksp_inPy X hs hr hp
  have L7 : Looks (model prog w) hh (numberSlotInPython (.ref C') nm') true := ksp_inPy X hs' hr' hp'
  simp only [binaryOp, hi]
  refine wpAny_holding (wpAny_bind ?_)
  unfold binaryOp1
  refine wpAny_bind (L1.at (wpAny_bind (L2.at (wpAny_bind (L3.at ?_)))))
  simp only [hne, Bool.false_eq_true, if_false]
  ksp_lk
  refine wpAny_mono one (fun r s' hr' => ?_) fun _ _ e => e
  obtain ⟨v, rfl, hq⟩ := hr'
  ksp_lk
  exact hq
end
end PySem.W
set_option Elab.async false
set_option linter.all false
/-! Lag: sets of numbers that come again (plain) -/
namespace Lg
def Per (S : Nat → Bool) (f p : Nat) : Prop := 1 ≤ p ∧ ∀ k, f ≤ k → S (k + p) = S k
structure Least (S : Nat → Bool) (f p : Nat) : Prop where
  per : Per S f p
  lp : ∀ g q, Per S g q → p ≤ q
  lf : ∀ g, Per S g p → f ≤ g
section
variable {S T : Nat → Bool} {f g p q d : Nat}
theorem Per.mul (h : Per S f p) : ∀ (n k : Nat), f ≤ k → S (k + n * p) = S k
  | 0, k, _ => by simp
  | n + 1, k, hk => by
    have e : k + (n + 1) * p = k + n * p + p := by rw [Nat.add_mul]; omega
    rw [e, h.2 _ (by omega), Per.mul h n k hk]
theorem Per.mono (h : Per S f p) (hg : f ≤ g) : Per S g p := ⟨h.1, fun k hk => h.2 k (by omega)⟩
theorem Per.times (h : Per S f p) {n : Nat} (hn : 1 ≤ n) : Per S f (n * p) := ⟨by
  have := h.1
  exact Nat.mul_pos (by omega) (by omega), fun k hk => h.mul n k hk⟩
theorem Per.dvd (h : Per S f p) (hq : p ∣ q) (h1 : 1 ≤ q) : Per S f q := by
  obtain ⟨n, rfl⟩ := hq
  rw [Nat.mul_comm]
  refine h.times ?_
  cases n with
  | zero => simp at h1
  | succ n => omega
/-- periods do not hang on the start -/
theorem Per.start (h : Per S f p) (h' : Per S g q) : Per S f q := ⟨h'.1, fun k hk => by
  have hp := h.1
  have e1 := h.mul g k hk
  have e2 := h.mul g (k + q) (by omega)
  have e3 := h'.2 (k + g * p) (by
    have : g * 1 ≤ g * p := Nat.mul_le_mul_left _ hp
    omega)
  have e4 : k + q + g * p = k + g * p + q := by omega
  rw [e4] at e2
  rw [← e2, e3, e1]⟩
theorem Per.congr (h : Per S f p) (e : ∀ k, S k = T k) : Per T f p := by
  have : S = T := funext e
  subst this
  exact h
theorem per_least (h : Per S f p) : ∃ m, m ≤ p ∧ Per S f m ∧ ∀ q, Per S f q → m ≤ q := by
  induction p using Nat.strongRecOn with
  | ind p ih =>
    by_cases c : ∃ q, Per S f q ∧ q < p
    · obtain ⟨q, hq, hl⟩ := c
      obtain ⟨m, h1, h2, h3⟩ := ih q hl hq
      exact ⟨m, by omega, h2, h3⟩
    · exact ⟨p, Nat.le_refl _, h, fun q hq => by
        by_cases hl : q < p
        · exact (c ⟨q, hq, hl⟩).elim
        · omega⟩
theorem least_dvd (h : Per S f q) (hm : Per S f p) (hl : ∀ q, Per S f q → p ≤ q) : p ∣ q := by
  have hp := hm.1
  by_cases hr : q % p = 0
  · exact Nat.dvd_of_mod_eq_zero hr
  · have e := Nat.div_add_mod q p
    have hlt := Nat.mod_lt q (show p > 0 by omega)
    have : Per S f (q % p) := ⟨by omega, fun k hk => by
      have e1 := hm.mul (q / p) (k + q % p) (by omega)
      have e2 : k + q % p + q / p * p = k + q := by rw [Nat.mul_comm]; omega
      rw [e2] at e1
      rw [← e1, h.2 k hk]⟩
    have := hl _ this
    omega
theorem Per.mod (h : Per S f p) (x : Nat) : S (f + x % p) = S (f + x) := by
  have e := Nat.div_add_mod x p
  have e1 := h.mul (x / p) (f + x % p) (by omega)
  have e2 : f + x % p + x / p * p = f + x := by rw [Nat.mul_comm]; omega
  rw [e2] at e1
  exact e1.symm
/-- the same round by d -/
theorem cyc_iff (h : Per S f p) (hd : 1 ≤ d) : (∀ k, k < p → S (f + (k + d) % p) = S (f + k)) ↔ Per S f d := by
  constructor
  · intro c
    refine ⟨hd, fun k hk => ?_⟩
    have hp := h.1
    obtain ⟨x, rfl⟩ : ∃ x, k = f + x := ⟨k - f, by omega⟩
    have e1 := c (x % p) (Nat.mod_lt _ (by omega))
    rw [h.mod, h.mod] at e1
    have e2 := h.mod (x % p + d)
    have e3 := h.mod (x + d)
    have e4 : (x % p + d) % p = (x + d) % p := by rw [Nat.add_mod, Nat.mod_mod, ← Nat.add_mod]
    rw [e4] at e2
    rw [← e2, e3] at e1
    have e5 : f + x + d = f + (x + d) := by omega
    rw [e5]
    exact e1
  · intro c k hk
    rw [h.mod]
    have e5 : f + (k + d) = f + k + d := by omega
    rw [e5]
    exact c.2 _ (by omega)
theorem least_of (h : Per S f p) (hl : ∀ q, Per S f q → p ≤ q) (hs : f = 0 ∨ S (f - 1) ≠ S (f - 1 + p)) : Least S f p where
  per := h
  lp := fun g q hq => hl q (h.start hq)
  lf := fun g hg => by
    rcases hs with rfl | hs
    · omega
    · by_cases c : g < f
      · exact (hs (hg.2 (f - 1) (by omega)).symm).elim
      · omega
theorem Least.uniq (h : Least S f p) (h' : Least S g q) : f = g ∧ p = q := by
  have a := h.lp _ _ h'.per
  have b := h'.lp _ _ h.per
  have e : p = q := by omega
  subst e
  have c := h.lf _ h'.per
  have d := h'.lf _ h.per
  exact ⟨by omega, rfl⟩
theorem Least.congr (h : Least S f p) (e : ∀ k, S k = T k) : Least T f p := by
  have : S = T := funext e
  subst this
  exact h
/-- membership, as a form tells it -/
theorem Per.look (h : Per S f p) (k : Nat) (hk : ¬ k < f + p) : S (f + (k - f) % p) = S k := by
  rw [h.mod]
  congr 1
  omega
end
/-! ### single ones, ones that come again -/
def setS (a b : List Nat) (p : Nat) (k : Nat) : Bool := decide (k ∈ a) || b.any fun t => decide (t ≤ k) && decide ((k - t) % p = 0)
theorem setS_iff {a b : List Nat} {p k : Nat} : setS a b p k = true ↔ k ∈ a ∨ ∃ t ∈ b, t ≤ k ∧ (k - t) % p = 0 := by
  unfold setS
  simp only [Bool.or_eq_true, decide_eq_true_eq, List.any_eq_true, Bool.and_eq_true]
theorem setS_per {a b : List Nat} {p f : Nat} (hp : 1 ≤ p) (ha : ∀ x ∈ a, x < f) (hb : ∀ x ∈ b, x < f) : Per (setS a b p) f p := by
  refine ⟨hp, fun k hk => ?_⟩
  rw [Bool.eq_iff_iff, setS_iff, setS_iff]
  constructor
  · rintro (h | ⟨t, ht, h1, h2⟩)
    · have := ha _ h; omega
    · have hl := hb t ht
      refine .inr ⟨t, ht, by omega, ?_⟩
      have e : k + p - t = k - t + p := by omega
      rw [e, Nat.add_mod_right] at h2
      exact h2
  · rintro (h | ⟨t, ht, h1, h2⟩)
    · have := ha _ h; omega
    · refine .inr ⟨t, ht, by omega, ?_⟩
      have e : k + p - t = k - t + p := by omega
      rw [e, Nat.add_mod_right]
      exact h2
/-! ### sums -/
def sumS (A B : Nat → Bool) (k : Nat) : Bool := (List.range (k + 1)).any fun i => A i && B (k - i)
theorem sumS_iff {A B : Nat → Bool} {k : Nat} : sumS A B k = true ↔ ∃ i j, i + j = k ∧ A i = true ∧ B j = true := by
  unfold sumS
  simp only [List.any_eq_true, Bool.and_eq_true, List.mem_range]
  constructor
  · rintro ⟨i, hi, h1, h2⟩
    exact ⟨i, k - i, by omega, h1, h2⟩
  · rintro ⟨i, j, rfl, h1, h2⟩
    exact ⟨i, by omega, h1, by rwa [show i + j - i = j by omega]⟩
theorem sumS_comm (A B : Nat → Bool) : sumS A B = sumS B A := by
  funext k
  rw [Bool.eq_iff_iff, sumS_iff, sumS_iff]
  constructor <;> (rintro ⟨i, j, e, h1, h2⟩; exact ⟨j, i, by omega, h2, h1⟩)
theorem sumS_per {A B : Nat → Bool} {f g p q L s : Nat} (hA : Per A f p) (hB : Per B g q) (h1 : p ∣ L) (h2 : q ∣ L) (hL : 1 ≤ L) (hs : f + g + L ≤ s + 1) : Per (sumS A B) s L := by
  have pA := hA.dvd h1 hL
  have pB := hB.dvd h2 hL
  refine ⟨hL, fun k hk => ?_⟩
  rw [Bool.eq_iff_iff, sumS_iff, sumS_iff]
  constructor
  · rintro ⟨i, j, e, a, b⟩
    by_cases c : f + L ≤ i
    · refine ⟨i - L, j, by omega, ?_, b⟩
      have := pA.2 (i - L) (by omega)
      rw [show i - L + L = i by omega] at this
      rw [← this]; exact a
    · refine ⟨i, j - L, by omega, a, ?_⟩
      have := pB.2 (j - L) (by omega)
      rw [show j - L + L = j by omega] at this
      rw [← this]; exact b
  · rintro ⟨i, j, e, a, b⟩
    by_cases c : f ≤ i
    · exact ⟨i + L, j, by omega, by rw [pA.2 i c]; exact a, b⟩
    · exact ⟨i, j + L, by omega, a, by rw [pB.2 j (by omega)]; exact b⟩
end Lg
set_option Elab.async false
set_option linter.all false
set_option maxRecDepth 100000
set_option maxHeartbeats 4000000
/-! DX1: own exception classes over any built-in base: made, their attributes set -/
namespace Dv
open PySem PySem.Spec PyProof.Rows L2
/-- what is to be known of a built-in base -/
structure BaseF (B nw ini : String) (mb : List Value) : Prop where
  fa : ExcBaseFacts B nw ini mb
  pass : ∀ self, refuseLoop self "__setattr__" mb = pure ()
  obj : mb.contains (.type "object") = true
  ne : mb.isEmpty = false
theorem refsB_cases {mb : List Value} (l : List Value) (e : refsB mb l = true) : (∃ c r, l = .ref c :: r ∧ refsB mb r = true) ∨ l = mb := by
  cases l with
  | nil => exact .inr (beq_iff_eq.mp e)
  | cons a r => cases a with
    | ref c => exact .inl ⟨c, r, rfl, e⟩
    | _ => exact .inr (beq_iff_eq.mp e)
section
variable {B nw ini : String} {mb : List Value}
theorem refsB_pass (F : BaseF B nw ini mb) (self : Value) : ∀ l : List Value, refsB mb l = true → refuseLoop self "__setattr__" l = pure ()
  | [], e => by
    have h : mb = [] := (beq_iff_eq.mp e).symm
    have := F.ne
    rw [h] at this; cases this
  | a :: r, e => by
    rcases refsB_cases _ e with ⟨c, r', q, h⟩ | q
    · obtain ⟨rfl, rfl⟩ := List.cons.inj q
      rw [refuseLoop_ref]
      exact refsB_pass F self _ h
    · rw [q]; exact F.pass self
theorem refsB_has (X : String) : ∀ l : List Value, refsB mb l = true → l.contains (.type X) = mb.contains (.type X)
  | [], e => by rw [← beq_iff_eq.mp e]
  | a :: r, e => by
    rcases refsB_cases _ e with ⟨c, r', q, h⟩ | q
    · obtain ⟨rfl, rfl⟩ := List.cons.inj q
      rw [List.contains_cons, refsB_has X _ h]; rfl
    · rw [q]
theorem refsB_ne (F : BaseF B nw ini mb) {l : List Value} (e : refsB mb l = true) : l.isEmpty = false := by
  cases l with
  | nil =>
    have h : mb = [] := (beq_iff_eq.mp e).symm
    have := F.ne
    rw [h] at this; cases this
  | cons _ _ => rfl
end
section
open PySem.W PySem.Calls PySem.HandSPX Builtin Builtin.ObjectAttr
variable {P : Program} {w : World} {A : Around} {R : Result → Shared → Prop} {hp : Heap} {gs : Array GenState} {dr : Drawn} {t : Nat} {os : OsState} {B nw ini : String} {mb : List Value}
/-- the first attribute of an exception: its dict is laid -/
theorem xosa {K : Frag} {nm : Str} {tk : Tok} {v : Value} {x C : Addr} {fv : Array Value} {cd : ClassData} (F : BaseF B nw ini mb) (KX : K.In hp) (hx : hp.get? x = some { cls := .ref C, data := .fields fv }) (hcd : clsIn K C = some cd) (hm : refsB mb cd.mro = true) (hh : cd.hasDict = true) (hno : findIn K (.ref C) nm = some none)
    (hq : ∀ h2 tk2 dx, (∀ b o, b ≠ x → hp.get? b = some o → h2.get? b = some o) → hp.objs.size ≤ dx → dx ≠ x → h2.get? x = some { cls := .ref C, dict := some dx, data := .fields fv } → h2.Ns1 dx (fun y => if y = nm then some v else none) → R (.ok (.ret .none)) ⟨h2, gs, dr, tk2, os⟩) :
    codeAny (model P w) A (.call (.builtin "object.__setattr__") ⟨[.ref x, .str nm tk, v], []⟩) R ⟨hp, gs, dr, t, os⟩ := by
  have J : InstAt hp x { cls := .ref C, data := .fields fv } C none := ⟨hx, rfl, rfl, trivial⟩
  have S := PySem.F.store_object
  have nonE := refsB_ne F hm
  have hasO : cd.mro.contains (.type "object") = true := (refsB_has "object" _ hm).trans F.obj
  have xlt : x ≠ hp.objs.size := Nat.ne_of_lt (Heap.lt_size hx)
  have isO : Looks (model P w) hp (isInstance (.ref x) (.type "object")) true := J.type.andThen (looks_mroIn KX (by unfold mroIn; rw [hcd, Option.bind_some, if_neg (by rw [nonE]; decide), hasO]))
  refine codeAny_call_builtin S.slot.plain S.entry (@check_slot (model P w) _ _ ⟨hp, gs, dr, t, os⟩ "object.__setattr__" "object" "__setattr__" (.ref x) [.str nm tk, v] [] _ S.kind S.split isO (S.args (.ref x) (.str nm tk) v) ?_)
  have order : Looks (model P w) hp (mroOf (.ref C)) cd.mro := (looks_clsIn KX hcd).andThen .now
  have noT : Looks (model P w) hp (storeTaker? none) none := .now
  have clsL : Looks (model P w) hp (classData C) cd := looks_clsIn KX hcd
  rw [osa_eq, refuse_eq]
  refine wpAny_bind (wpAny_bind (J.type.at (wpAny_bind (order.at ?_))))
  rw [refsB_pass F _ _ hm]
  refine wpAny_pure (wpAny_bind (J.type.at (wpAny_bind ((looks_findIn KX hno).at (wpAny_bind (noT.at ?_))))))
  show wpAny _ _ (storeInOwnDict (.ref x) (.ref C) (.str nm tk) nm v false) _ _ _
  obtain ⟨_, _, _, _, _, hd, _, _, _, _, _⟩ := cd
  dsimp only at hh
  subst hh
  unfold storeInOwnDict ownDictForStores
  repeat (first | with_reducible refine store_in_new ?_ ?_ | with_reducible refine wpAny_loadPart_at hx ?_ | with_reducible refine clsL.at ?_ | wp_step)
  · exact ⟨_, #[], _, (Heap.get?_update_ne _ _ _ _ xlt.symm).trans (Heap.get?_push_at rfl rfl), rfl, fun e z => absurd z (by simp), fun _ => rfl⟩
  · intro h2 tk2 ns2 same
    have hx2 : (hp.push { cls := .type "dict", data := .dict #[] }).get? x = some { cls := .ref C, data := .fields fv } := Heap.get?_push_of_some _ hx
    refine hq h2 tk2 hp.objs.size (fun b o nb ho => ?_) (Nat.le_refl _) xlt.symm ((same.2 x xlt).trans (Heap.get?_update_self _ hx2 rfl)) ns2
    exact (same.2 b (Nat.ne_of_lt (Heap.lt_size ho))).trans ((Heap.get?_update_ne _ _ _ _ nb).trans (Heap.get?_push_of_some _ ho))
/-- a further one -/
theorem xosaO {K : Frag} {nm : Str} {tk : Tok} {v : Value} {x C dx : Addr} {fv : Array Value} {cd : ClassData} {m0 : Str → Option Value} {nl : List Str} (F : BaseF B nw ini mb) (KX : K.In hp) (hx : hp.get? x = some { cls := .ref C, dict := some dx, data := .fields fv }) (hns : hp.Ns1 dx m0) (hw : Within m0 nl) (hz : nl.length ≤ 1000) (hcd : clsIn K C = some cd) (hm : refsB mb cd.mro = true) (hh : cd.hasDict = true) (hno : findIn K (.ref C) nm = some none)
    (hq : ∀ h2 tk2, (∀ b o, b ≠ dx → hp.get? b = some o → h2.get? b = some o) → h2.Ns1 dx (fun y => if y = nm then some v else m0 y) → R (.ok (.ret .none)) ⟨h2, gs, dr, tk2, os⟩) :
    codeAny (model P w) A (.call (.builtin "object.__setattr__") ⟨[.ref x, .str nm tk, v], []⟩) R ⟨hp, gs, dr, t, os⟩ := by
  obtain ⟨oD, esD, epD, hoD, _, _⟩ := hns.count hw
  have J : InstAt hp x { cls := .ref C, dict := some dx, data := .fields fv } C (some oD) := ⟨hx, rfl, rfl, hoD⟩
  have S := PySem.F.store_object
  have nonE := refsB_ne F hm
  have hasO : cd.mro.contains (.type "object") = true := (refsB_has "object" _ hm).trans F.obj
  have isO : Looks (model P w) hp (isInstance (.ref x) (.type "object")) true := J.type.andThen (looks_mroIn KX (by unfold mroIn; rw [hcd, Option.bind_some, if_neg (by rw [nonE]; decide), hasO]))
  refine codeAny_call_builtin S.slot.plain S.entry (@check_slot (model P w) _ _ ⟨hp, gs, dr, t, os⟩ "object.__setattr__" "object" "__setattr__" (.ref x) [.str nm tk, v] [] _ S.kind S.split isO (S.args (.ref x) (.str nm tk) v) ?_)
  have order : Looks (model P w) hp (mroOf (.ref C)) cd.mro := (looks_clsIn KX hcd).andThen .now
  have noT : Looks (model P w) hp (storeTaker? none) none := .now
  have clsL : Looks (model P w) hp (classData C) cd := looks_clsIn KX hcd
  rw [osa_eq, refuse_eq]
  refine wpAny_bind (wpAny_bind (J.type.at (wpAny_bind (order.at ?_))))
  rw [refsB_pass F _ _ hm]
  refine wpAny_pure (wpAny_bind (J.type.at (wpAny_bind ((looks_findIn KX hno).at (wpAny_bind (noT.at ?_))))))
  show wpAny _ _ (storeInOwnDict (.ref x) (.ref C) (.str nm tk) nm v false) _ _ _
  obtain ⟨_, _, _, _, _, hd, _, _, _, _, _⟩ := cd
  dsimp only at hh
  subst hh
  unfold storeInOwnDict ownDictForStores
  repeat (first | with_reducible refine OEX.store_in_old hns hw hz ?_ | with_reducible refine wpAny_loadPart_at hx ?_ | with_reducible refine clsL.at ?_ | wp_step)
  intro h2 tk2 ns2 same
  exact hq h2 tk2 (fun b o nb ho => (same.2 b nb).trans ho) ns2
end
/-- what the written part says of an exception class -/
structure XcC (K : PySem.W.Frag) (C : Addr) : Prop where
  cls : ∃ nm q N bs bm sn sub ab col dd k0 k1 k2 k3 k5 B nw ini mb, K.lookup C = some (excClassObj nm q C N bs bm true sn sub ab col dd k0 k1 k2 k3 k5 nw) ∧ refsB mb bm = true ∧ BaseF B nw ini mb
  sa : PySem.W.findIn K (.ref C) "__setattr__" = some (some (.builtin "object.__setattr__"))
  exC : PySem.W.subIn K (.ref C) (.type "BaseException") = some true
  tyC : PySem.W.typeIn K (.ref C) = some (.type "type")
  kC : PySem.W.keepIn K (.ref C) = true
theorem base_V : BaseF "ValueError" "ValueError.__new__" "ValueError.__init__" [.type "ValueError", .type "Exception", .type "BaseException", .type "object"] := ⟨PySem.F.excBase_ValueError, PySem.F.store_ValueError.passes, by decide, rfl⟩
theorem base_L : BaseF "LookupError" "LookupError.__new__" "LookupError.__init__" [.type "LookupError", .type "Exception", .type "BaseException", .type "object"] := ⟨PySem.F.excBase_LookupError, PySem.F.store_LookupError.passes, by decide, rfl⟩
theorem base_A : BaseF "ArithmeticError" "ArithmeticError.__new__" "ArithmeticError.__init__" [.type "ArithmeticError", .type "Exception", .type "BaseException", .type "object"] := ⟨PySem.F.excBase_ArithmeticError, PySem.F.store_ArithmeticError.passes, by decide, rfl⟩
end Dv
set_option Elab.async false
set_option linter.all false
set_option maxRecDepth 100000
set_option maxHeartbeats 4000000
/-! DX2: self.f = y in an exception's __init__; its promise; C(..) -/
namespace Dv
open PySem PySem.Spec PyProof.Rows L2
section
variable {X : Cx} {pins : List (Addr × Obj)} {σ : L2.St} {H : Hp} {s : Shared} {a C dx : Addr} {f : Str} {y : V} {u : Value} {fs : List (Str × V)} {Q : Unit → Shared → Prop} {E : Value → Shared → Prop} {A : Around}
theorem xset1 (T : XcC X.K C) (I : Inv X pins σ H s) (ea : H a = some (exo a C none)) (hno : PySem.W.findIn X.K (.ref C) f = some none) (ry : RelV y u)
    (h : ∀ dx s2, H dx = none → dx ≠ a → Inv X pins σ (upd (upd H dx (exd dx [(f, y)])) a (exo a C (some dx))) s2 → Q () s2) : wpAny (model X.prog X.w) A (setAttr (.ref a) f u) Q E s := by
  obtain ⟨_, _, _, _, bm, _, _, _, _, _, _, _, _, _, _, B, nw, ini, mb, hC, hbm, BF⟩ := T.cls
  have hcl := show ∃ cd, PySem.W.clsIn X.K C = some cd ∧ cd.mro = .ref C :: bm ∧ cd.hasDict = true from ⟨_, by unfold PySem.W.clsIn; rw [hC] <;> rfl, rfl, rfl⟩
  obtain ⟨cd, hcl, hmr, hhd⟩ := hcl
  obtain ⟨t1, ho⟩ := exo_at I.hok ea
  obtain ⟨hp, gs, dr, t, os⟩ := s
  refine PySem.W.set_plain I.kIn (ox := { cls := .ref C, dict := none, data := .fields #[.ref t1, .none, .none, .none, .bool false, .none] }) (od := none) ⟨ho, rfl, rfl, trivial⟩ T.sa ?_
  refine xosa BF I.kIn ho hcl (by rw [hmr]; exact hbm) hhd hno (fun h2 tk2 dx k big ndx hx2 ns2 => ?_)
  have n0 : H dx = none := I.hok.fresh big
  have old : ∀ {b : Addr} {o : Obj}, hp.get? b = some o → b ≠ dx := fun z => Nat.ne_of_lt (Nat.lt_of_lt_of_le (Heap.lt_size z) big)
  have notA : ∀ {b : Addr}, H b = none → b ≠ a := fun n z => by rw [z, ea] at n; cases n
  have U : Un X.fs [] H (upd (upd H dx (exd dx [(f, y)])) a (exo a C (some dx))) hp h2 := ⟨fun b o z n _ _ => k b o (notA n) z, fun b o z n _ _ => ⟨o.slots, k b o (notA n) z⟩, fun b o z n _ => by rw [upd_ne (notA n), upd_ne (old z)]; exact n, fun b o z _ => by
      by_cases hb : b = a
      · exact ⟨_, hb ▸ hx2⟩
      · exact ⟨o, k b o hb z⟩, fun b xs z => by rw [upd_ne (at_ne ea z exo_tup), upd_ne (ne_of_none z n0)]; exact z, fun b o v z => by rw [upd_ne (at_ne ea z exo_frz), upd_ne (ne_of_none z n0)]; exact z, fun b ps z => ⟨#[], by rw [upd_ne (at_ne ea z exo_tbl), upd_ne (ne_of_none z n0), z]; simp⟩⟩
  refine h dx _ n0 ndx (I.un (t' := tk2) U fun b o z => ?_)
  by_cases hb : b = a
  · subst hb
    rw [upd_same] at z; cases z
    exact exo_ok hx2
  · rw [upd_ne hb] at z
    by_cases hd : b = dx
    · subst hd
      rw [upd_same] at z; cases z
      exact exd_ok ns2 (relO_put (fs := []) ry fun _ => True.intro)
    · rw [upd_ne hd] at z
      exact (I.hok b o z).stay (fun c v hc q => k c v (hc.elim (fun e => e ▸ hb) fun e => at_ne ea e exo_own) q) (fun c hc => by rw [upd_ne (at_ne ea hc exo_own), upd_ne (ne_of_none hc n0)]; exact hc) (fun c xs hc => by rw [upd_ne (at_ne ea hc exo_tup), upd_ne (ne_of_none hc n0)]; exact hc)
theorem xset2 (T : XcC X.K C) (I : Inv X pins σ H s) (ea : H a = some (exo a C (some dx))) (ed : H dx = some (exd dx fs)) (hl : fs.length ≤ 900) (hno : PySem.W.findIn X.K (.ref C) f = some none) (ry : RelV y u)
    (h : ∀ s2, Inv X pins σ (upd H dx (exd dx ((f, y) :: fs))) s2 → Q () s2) : wpAny (model X.prog X.w) A (setAttr (.ref a) f u) Q E s := by
  obtain ⟨_, _, _, _, bm, _, _, _, _, _, _, _, _, _, _, B, nw, ini, mb, hC, hbm, BF⟩ := T.cls
  have hcl := show ∃ cd, PySem.W.clsIn X.K C = some cd ∧ cd.mro = .ref C :: bm ∧ cd.hasDict = true from ⟨_, by unfold PySem.W.clsIn; rw [hC] <;> rfl, rfl, rfl⟩
  obtain ⟨cd, hcl, hmr, hhd⟩ := hcl
  obtain ⟨t1, ho⟩ := exo_at I.hok ea
  obtain ⟨mA, hns, rel⟩ := exd_at I.hok ed
  have hw := within_of rel
  obtain ⟨hp, gs, dr, t, os⟩ := s
  obtain ⟨oD, _, _, hoD, _, _⟩ := hns.count hw
  refine PySem.W.set_plain I.kIn (ox := { cls := .ref C, dict := some dx, data := .fields #[.ref t1, .none, .none, .none, .bool false, .none] }) (od := some oD) ⟨ho, rfl, rfl, hoD⟩ T.sa ?_
  refine xosaO BF I.kIn ho hns hw (by rw [List.length_map]; omega) hcl (by rw [hmr]; exact hbm) hhd hno (fun h2 tk2 k ns2 => ?_)
  have hd : ∃ o, h2.get? dx = some o := let ⟨o, _, _, z, _⟩ := ns2; ⟨o, z⟩
  exact h _ (I.write (t' := tk2) (x := dx) (e := dx) (o := exd dx ((f, y) :: fs)) (by rw [ed]; exact True.intro) (.inl rfl) k hd (exd_ok ns2 (relO_put ry rel)))
end
/-- self.f = e in an exception's __init__ -/
def tXset (K : PySem.W.Frag) (f : Str) (to te : TE) : TS := fun N σ H => te σ H fun y H1 => to σ H1 fun x H2 => ∃ a C : Addr, x = .ref a ∧ XcC K C ∧ PySem.W.findIn K (.ref C) f = some none ∧
  ((H2 a = some (exo a C none) ∧ ∀ dx, H2 dx = none → dx ≠ a → N.nx σ (upd (upd H2 dx (exd dx [(f, y)])) a (exo a C (some dx)))) ∨
    ∃ (dx : Addr) (fs : List (Str × V)), H2 a = some (exo a C (some dx)) ∧ H2 dx = some (exd dx fs) ∧ fs.length ≤ 900 ∧ N.nx σ (upd H2 dx (exd dx ((f, y) :: fs))))
theorem ps_xset {X : Cx} {o e : Expr} {to te : TE} {f : Str} {p2 pos : Pos} (ho : PE X o to) (he : PE X e te) (hs : swapsWith e (some (.Attribute o f p2)) pos.line X.env = pure false := by rfl) : PS X (.Assign [.Attribute o f p2] e pos) (tXset X.K f to te) := by
  refine ⟨fun pins s σ H N I h => plainObj_wpAny_Assign_Attribute (thn (he.run pins s σ H _ I h) fun v s1 ⟨y, H1, I1, r1, q1⟩ => thn (ho.run pins s1 σ H1 _ I1 q1) fun u s2 ⟨x, H2, I2, r2, a, C, ex, T, hno, q⟩ => ?_) hs⟩
  subst ex
  obtain rfl : u = Value.ref a := r2
  rcases q with ⟨ea, q⟩ | ⟨dx, fs, ea, ed, hl, q⟩
  · exact xset1 T I2 ea hno r1 fun dx s3 n ne J => ⟨σ, _, J, q dx n ne⟩
  · exact xset2 T I2 ea ed hl hno r1 fun s3 J => ⟨σ, _, J, q⟩
/-- an exception's __init__: the attributes fl are set, one behind another -/
def spXc (K : PySem.W.Frag) (fl : List Str) : Sp := fun vs H Q _ => ∃ a C xs, vs = .ref a :: xs ∧ xs.length = fl.length ∧ XcC K C ∧ (∀ f ∈ fl, PySem.W.findIn K (.ref C) f = some none) ∧ H a = some (exo a C none) ∧
  ∀ dx, H dx = none → dx ≠ a → Q .non (upd (upd H dx (exd dx (fl.zip xs).reverse)) a (exo a C (some dx)))
section
variable {P : Program} {w : World} {K : PySem.W.Frag} {mg : Str → Option Value} {base : Heap} {x qual : Str} {params : Arguments} {scope : Scope} {dvs : List V} {kws : List (Str × V)} {f : Addr} {fd : FuncData} {CX : CXT}
theorem fn_xc1 {g : Str} {p1 p2 p3 pos : Pos} (F : FunD K x qual params [.Assign [.Attribute (.Name "self" p1) g p2] (.Name g p3) pos] scope dvs kws f fd) (S : FnScope ["self", g] ["self", g] scope) (hd : (g == ("__debug__" : Str)) = false) (hcd : (g == ("__classdict__" : Str)) = false) : FnOk P w K mg base CX 1 f fd ["self", g] (spXc K [g]) := by
  refine F.ok (k := 0) S (fun vs H Q E h => ?_) fun cdv A outer s H vs Q E hr h => ?_
  · obtain ⟨a, C, xs, rfl, l, _⟩ := h
    simpa using l
  · obtain ⟨a, C, xs, rfl, l, T, hno, ea, q⟩ := h
    obtain ⟨y, rfl⟩ : ∃ y, xs = [y] := by
      match xs, l with
      | [y], _ => exact ⟨y, rfl⟩
    have vis : ∀ z ∈ (["self", g] : List Str), Vis (cxOf CX P w K mg base ["self", g] qual scope f cdv A outer s H E).env.scope z := fun z hz => (S.par z hz).elim .inl fun k => .inr (.inl k)
    refine ⟨_, pss_one (ps_xset (X := cxOf CX P w K mg base ["self", g] qual scope f cdv A outer s H E) (pe_var (i := 0) rfl (vis "self" (by simp)) (by decide) (by decide)) (pe_var (i := 1) rfl (vis g (by simp)) hd hcd) (by rfl)), ?_⟩
    exact ⟨y, rfl, .ref a, rfl, a, C, rfl, T, hno g (by simp), .inl ⟨ea, fun dx n ne => q dx n ne⟩⟩
theorem fn_xc2 {g g' : Str} {p1 p2 p3 pos q1 q2 q3 pos' : Pos} (F : FunD K x qual params [.Assign [.Attribute (.Name "self" p1) g p2] (.Name g p3) pos, .Assign [.Attribute (.Name "self" q1) g' q2] (.Name g' q3) pos'] scope dvs kws f fd) (S : FnScope ["self", g, g'] ["self", g, g'] scope)
    (hd : (g == ("__debug__" : Str)) = false) (hcd : (g == ("__classdict__" : Str)) = false) (hd' : (g' == ("__debug__" : Str)) = false) (hcd' : (g' == ("__classdict__" : Str)) = false) : FnOk P w K mg base CX 1 f fd ["self", g, g'] (spXc K [g, g']) := by
  refine F.ok (k := 0) S (fun vs H Q E h => ?_) fun cdv A outer s H vs Q E hr h => ?_
  · obtain ⟨a, C, xs, rfl, l, _⟩ := h
    simpa using l
  · obtain ⟨a, C, xs, rfl, l, T, hno, ea, q⟩ := h
    obtain ⟨y, z, rfl⟩ : ∃ y z, xs = [y, z] := by
      match xs, l with
      | [y, z], _ => exact ⟨y, z, rfl⟩
    have vis : ∀ z ∈ (["self", g, g'] : List Str), Vis (cxOf CX P w K mg base ["self", g, g'] qual scope f cdv A outer s H E).env.scope z := fun z hz => (S.par z hz).elim .inl fun k => .inr (.inl k)
    refine ⟨_, pss_cons (ps_xset (X := cxOf CX P w K mg base ["self", g, g'] qual scope f cdv A outer s H E) (pe_var (i := 0) rfl (vis "self" (by simp)) (by decide) (by decide)) (pe_var (i := 1) rfl (vis g (by simp)) hd hcd) (by rfl))
      (pss_one (ps_xset (pe_var (i := 0) rfl (vis "self" (by simp)) (by decide) (by decide)) (pe_var (i := 2) rfl (vis g' (by simp)) hd' hcd') (by rfl))), ?_⟩
    refine ⟨y, rfl, .ref a, rfl, a, C, rfl, T, hno g (by simp), .inl ⟨ea, fun dx n ne => ?_⟩⟩
    refine ⟨z, rfl, .ref a, rfl, a, C, rfl, T, hno g' (by simp), .inr ⟨dx, [(g, y)], upd_same, by rw [upd_ne ne, upd_same], by simp, ?_⟩⟩
    have e : upd (upd (upd H dx (exd dx [(g, y)])) a (exo a C (some dx))) dx (exd dx ((g', z) :: [(g, y)])) = upd (upd H dx (exd dx ([g, g'].zip [y, z]).reverse)) a (exo a C (some dx)) := by
      funext b
      unfold upd
      by_cases h1 : b = dx
      · subst h1
        rw [if_pos rfl, if_neg ne, if_pos rfl]
        rfl
      · rw [if_neg h1, if_neg h1]
        by_cases h2 : b = a
        · rw [if_pos h2, if_pos h2]
        · rw [if_neg h2, if_neg h2, if_neg h1]
    rw [e]
    exact q dx n ne
end
/-! ### C(e, ..) -/
section
variable {X : Cx} {pins : List (Addr × Obj)} {σ : L2.St} {H : Hp} {s : Shared} {C fI : Addr} {fl : List Str} {fd : FuncData} {us : List Value} {vs : List V}
/-- a new exception, known to the last -/
def NewX (X : Cx) (pins : List (Addr × Obj)) (σ : L2.St) (H : Hp) (s : Shared) (C : Addr) (fs : List (Str × V)) (u : Value) (s2 : Shared) : Prop :=
  ∃ a d, u = .ref a ∧ s.heap.objs.size ≤ a ∧ H a = none ∧ H d = none ∧ d ≠ a ∧ s2.os = s.os ∧ AllBare s2.gens ∧ Inv X pins σ (upd (upd H d (exd d fs)) a (exo a C (some d))) s2 ∧
    ∃ hp2 : Heap, (∀ b o, s.heap.get? b = some o → hp2.get? b = some o) ∧ Un (frs X.stack) [] (upd H a (exo a C none)) (upd (upd H d (exd d fs)) a (exo a C (some d))) hp2 s2.heap
theorem run_newx {k : Nat} (T : XcC X.K C) (iC : PySem.W.findIn X.K (.ref C) "__init__" = some (some (.ref fI))) (tI : PySem.W.typeIn X.K (.ref fI) = some (.type "function")) (hno : ∀ f ∈ fl, PySem.W.findIn X.K (.ref C) f = some none)
    (F1 : FnOk X.prog X.w X.K X.mg X.base CX0 k fI fd ("self" :: fl) (spXc X.K fl)) (hr : Room (k + 1) X.A) (hb : Binds X.K fd ("self" :: fl) []) (I : Inv X pins σ H s) (r : Vals vs us) (hl : vs.length = fl.length) (hs : fl.length ≤ 1000) :
    wpAny (model X.prog X.w) X.A (call (.ref C) us) (NewX X pins σ H s C (fl.zip vs).reverse) X.xe s := by
  obtain ⟨nm, q, N, bs, bm, sn, sub, ab, col, dd, k0, k1, k2, k3, k5, B, nw, ini, mb, hC, hbm, BF⟩ := T.cls
  obtain ⟨hp, gs, dr, tk, os⟩ := s
  have up : hp.objs.size ≤ hp.objs.size + 1 := Nat.le_succ _
  have na : H (hp.objs.size + 1) = none := I.hok.fresh up
  have kk : ∀ b o, hp.get? b = some o → ((hp.push (PySem.W.kdv_tup us)).push (PySem.HandSPX.excO C hp.objs.size)).get? b = some o := fun b o z => Heap.get?_push_of_some _ (Heap.get?_push_of_some _ z)
  have hget : ((hp.push (PySem.W.kdv_tup us)).push (PySem.HandSPX.excO C hp.objs.size)).get? (hp.objs.size + 1) = some (PySem.HandSPX.excO C hp.objs.size) := by heap_get
  have I2 := I.laid (t' := tk) (a := hp.objs.size + 1) (o := exo (hp.objs.size + 1) C none) (h' := (hp.push (PySem.W.kdv_tup us)).push (PySem.HandSPX.excO C hp.objs.size)) kk up (exo_ok hget)
  have r2 : Vals (V.ref (hp.objs.size + 1) :: vs) (Value.ref (hp.objs.size + 1) :: us) := .cons rfl r
  have lu : us.length = fl.length := r.length.symm.trans hl
  have hb2 := hb (s := ⟨(hp.push (PySem.W.kdv_tup us)).push (PySem.HandSPX.excO C hp.objs.size), gs, dr, tk, os⟩) (Value.ref (hp.objs.size + 1) :: us) I2.kIn (by simp [lu])
  rw [List.append_nil] at hb2
  refine wpAny_call (PySem.HandSPX.call_own BF.fa (fun Y => refsB_has Y bm hbm) (I.kIn _ _ hC) (PySem.W.looks_findIn I.kIn iC) (fun self => PySem.W.bind_fn I.kIn self tI) (by rw [lu, sizeLine_eq]; omega)
    (codeAny_mono (F1.run _ X.stack _ _ ⟨Value.ref (hp.objs.size + 1) :: us, []⟩ (Value.ref (hp.objs.size + 1) :: us) _ (fun v H2 => v = .non ∧ ∃ d, H d = none ∧ d ≠ hp.objs.size + 1 ∧ H2 = upd (upd H d (exd d (fl.zip vs).reverse)) (hp.objs.size + 1) (exo (hp.objs.size + 1) C (some d))) (fun _ _ _ => False) (hr.make C us []) (I2.env0.make C us []) hb2 r2
      ⟨hp.objs.size + 1, C, vs, rfl, hl, T, hno, upd_same, fun d n ne => ⟨rfl, d, by rw [upd_ne ne] at n; exact n, ne, ?_⟩⟩) fun res s2 hq => ?_))
  · funext b
    unfold upd
    by_cases h1 : b = hp.objs.size + 1
    · rw [if_pos h1, if_pos h1]
    · rw [if_neg h1, if_neg h1, if_neg h1]
  · match res, hq with
    | .ok (.ret u), hq =>
      obtain ⟨v, H2, os2, bare2, un2, hok2, rv, rfl, d, nd, ne, rfl⟩ := hq
      obtain ⟨h2, g2, d2, t2, os'⟩ := s2
      refine ⟨rv, hp.objs.size + 1, d, rfl, up, na, nd, ne, os2, bare2, ?_, _, kk, un2⟩
      have J := I2.after (Q := fun v H2 => v = .non ∧ H2 = upd (upd H d (exd d (fl.zip vs).reverse)) (hp.objs.size + 1) (exo (hp.objs.size + 1) C (some d))) ⟨.non, _, os2, bare2, un2, hok2, rv, rfl, rfl⟩
      obtain ⟨_, _, J, _, _, rfl⟩ := J
      exact J
/-- as a value -/
theorem newx_val {fs : List (Str × V)} {u : Value} {s2 : Shared} {Q : VK} (h : NewX X pins σ H s C fs u s2) (q : ∀ a d, H a = none → H d = none → d ≠ a → Q (.ref a) (upd (upd H d (exd d fs)) a (xco a C (some d)))) : EP X pins σ Q u s2 := by
  obtain ⟨a, d, rfl, _, na, nd, ne, _, _, J, _⟩ := h
  refine ⟨.ref a, _, ?_, rfl, q a d na nd ne⟩
  obtain ⟨t1, ho⟩ := exo_at (e := a) J.hok upd_same
  have J2 := J.write (t' := s2.toks) (x := a) (e := a) (o := xco a C (some d)) (h' := s2.heap) (by rw [upd_same]; exact True.intro) (.inl rfl) (fun _ _ _ z => z) ⟨_, ho⟩ ⟨⟨_, _, ho⟩, ⟨_, ho⟩, fun h1 h2 ⟨vs, sl, z⟩ k => ⟨vs, sl, k _ z⟩⟩
  rw [upd_upd] at J2
  exact J2
/-- to be raised -/
theorem newx_raise {fs : List (Str × V)} {u : Value} {s2 : Shared} {Q : XK} (T : XcC X.K C) (I : Inv X pins σ H s) (h : NewX X pins σ H s C fs u s2) (q : ∀ d, H d = none → Q (.ref C) (some d) (upd H d (.xd fs))) : MkP X pins σ Q u s2 := by
  obtain ⟨a, d, rfl, up, na, nd, ne, os2, bare2, J, hp2, kk, un2⟩ := h
  obtain ⟨hp, gs, dr, tk, os⟩ := s
  obtain ⟨h2, g2, d2, t2, os'⟩ := s2
  have ed : upd (upd H d (exd d fs)) a (exo a C (some d)) d = some (exd d fs) := by rw [upd_ne ne, upd_same]
  have M := mk_end (Q := fun cls dd H2 => cls = .ref C ∧ dd = some d ∧ H2 = upd (del (upd (upd H d (exd d fs)) a (exo a C (some d))) a) d (.xd fs)) (d2 := d2) (t2 := t2) (raises_own T.exC T.tyC) I up kk un2 J.hok os2 bare2 upd_same ed nd ⟨rfl, rfl, rfl⟩
  obtain ⟨a', oe, vs, sI, H', cls, dd, e1, J', k', hne, ha, hz, hd, h1, na', o', ag, rr, rfl, rfl, rfl⟩ := M
  have e : upd (del (upd (upd H d (exd d fs)) a (exo a C (some d))) a) d (.xd fs) = upd H d (.xd fs) := by
    funext b
    unfold upd del
    by_cases h1 : b = d
    · rw [if_pos h1, if_pos h1]
    · rw [if_neg h1, if_neg h1]
      by_cases h2 : b = a
      · rw [if_pos h2, h2, na]
      · rw [if_neg h2]
        show (if b = a then _ else if b = d then _ else H b) = H b
        rw [if_neg h2, if_neg h1]
  rw [e] at J' na'
  exact ⟨a', oe, vs, sI, _, _, _, e1, J', k', hne, ha, hz, hd, h1, na', o', ag, rr, q d nd⟩
end
end Dv
set_option Elab.async false
set_option linter.all false
set_option maxRecDepth 100000
set_option maxHeartbeats 4000000
/-! DX3: what may raise: expressions, calls, statements, defs -/
namespace Dv
open PySem L2
/-- a value, or an exception of the class c with its attributes -/
inductive Out (α : Type) where
  | ok (a : α)
  | ex (c : Nat) (ds : List D)
def mUp {α : Type} (f : M α) : M (Out α) := mBind f fun a => mPure (.ok a)
def xBind {α β : Type} (f : M (Out α)) (g : α → M (Out β)) : M (Out β) := mBind f fun r => match r with
  | .ok a => g a
  | .ex c ds => mPure (.ex c ds)
theorem xBind_cases {α β : Type} {f : M (Out α)} {g : α → M (Out β)} {τ τ' : Sd} {r : Out β} (h : xBind f g τ = some (r, τ')) : (∃ a τ1, f τ = some (.ok a, τ1) ∧ g a τ1 = some (r, τ')) ∨ ∃ c ds, f τ = some (.ex c ds, τ') ∧ r = .ex c ds := by
  obtain ⟨o, τ1, e1, e2⟩ := mBind_some h
  cases o with
  | ok a => exact .inl ⟨a, τ1, e1, e2⟩
  | ex c ds => cases e2; exact .inr ⟨c, ds, e1, rfl⟩
section
variable (K : PySem.W.Frag) (mg : Str → Option Value) (G : Gx)
/-- what is wanted of an exception -/
def XW (σ : St) (H : Hp) (O : List Addr) (τ' : Sd) (c : Nat) (ds : List D) : Prop := ∀ cls dd H' O', Le H O H' O' → SR K mg G H' O' σ τ' → RepX K mg (cut H' O') cls dd c ds → G.wx cls dd σ H'
def tEX (f : M (Out D)) : TE := fun σ H Q => ∃ O τ r τ', SR K mg G H O σ τ ∧ f τ = some (r, τ') ∧ match r with
  | .ok d => ∀ v H' O', Le H O H' O' → SR K mg G H' O' σ τ' → Rep K mg (cut H' O') v d → Q v H'
  | .ex c ds => XW K mg G σ H O τ' c ds
def tAX (f : M (Out (List D))) : TA := fun σ H Q => ∃ O τ r τ', SR K mg G H O σ τ ∧ f τ = some (r, τ') ∧ match r with
  | .ok ds => ∀ vs H' O', Le H O H' O' → SR K mg G H' O' σ τ' → RepL K mg (cut H' O') vs ds → Q vs H'
  | .ex c ds => XW K mg G σ H O τ' c ds
end
def EX (X : Cx) (G : Gx) (e : Expr) (f : M (Out D)) : Prop := PE X e (tEX X.K X.mg G f)
def AX (X : Cx) (G : Gx) (es : List Expr) (f : M (Out (List D))) : Prop := PA X es (tAX X.K X.mg G f)
def KX (X : Cx) (G : Gx) (kws : List Keyword) (f : M (Out (List D))) : Prop := PK X kws (tAX X.K X.mg G f)
section
variable {X : Cx} {G : Gx}
theorem XW.le {K : PySem.W.Frag} {mg : Str → Option Value} {σ : St} {H H1 : Hp} {O O1 : List Addr} {τ' : Sd} {c : Nat} {ds : List D} (l : Le H O H1 O1) (q : XW K mg G σ H O τ' c ds) : XW K mg G σ H1 O1 τ' c ds := fun cls dd H' O' l' => q cls dd H' O' (l.trans l')
theorem mUp_some {α : Type} {f : M α} {τ τ' : Sd} {r : Out α} (h : mUp f τ = some (r, τ')) : ∃ a, f τ = some (a, τ') ∧ r = .ok a := by
  obtain ⟨a, τ1, e1, e2⟩ := mBind_some h
  cases e2
  exact ⟨a, e1, rfl⟩
theorem ex_up {e : Expr} {f : M D} (h : DE X G e f) : EX X G e (mUp f) := pe_imp h fun σ H Q q => by
  obtain ⟨O, τ, r, τ', R, e, q⟩ := q
  obtain ⟨a, e1, rfl⟩ := mUp_some e
  exact ⟨O, τ, a, τ', R, e1, q⟩
theorem ax_up {es : List Expr} {f : M (List D)} (h : DA X G es f) : AX X G es (mUp f) := pa_imp h fun σ H Q q => by
  obtain ⟨O, τ, r, τ', R, e, q⟩ := q
  obtain ⟨a, e1, rfl⟩ := mUp_some e
  exact ⟨O, τ, a, τ', R, e1, q⟩
theorem kx_up {kws : List Keyword} {f : M (List D)} (h : DK X G kws f) : KX X G kws (mUp f) := pk_imp h fun σ H Q q => by
  obtain ⟨O, τ, r, τ', R, e, q⟩ := q
  obtain ⟨a, e1, rfl⟩ := mUp_some e
  exact ⟨O, τ, a, τ', R, e1, q⟩
def xCons (fa : M (Out D)) (fr : M (Out (List D))) : M (Out (List D)) := xBind fa fun a => xBind fr fun r => mPure (.ok (a :: r))
theorem ax_cons {e : Expr} {es : List Expr} {fa : M (Out D)} {fr : M (Out (List D))} (ha : EX X G e fa) (hr : AX X G es fr) (hs : starEach (e :: es) X.env = (false, eval e X.env) :: starEach es X.env := by rfl) : AX X G (e :: es) (xCons fa fr) :=
  pa_imp (pa_cons ha hr hs) fun σ H Q q => by
    obtain ⟨O, τ, r, τ', R, e, q⟩ := q
    rcases xBind_cases e with ⟨a, τ1, e1, e2⟩ | ⟨c, ds, e1, rfl⟩
    · refine ⟨O, τ, .ok a, τ1, R, e1, fun x H1 O1 l1 R1 r1 => ?_⟩
      rcases xBind_cases e2 with ⟨b, τ2, e3, e4⟩ | ⟨c, ds, e3, rfl⟩
      · cases e4
        exact ⟨O1, τ1, .ok b, _, R1, e3, fun xs H2 O2 l2 R2 r2 => q (x :: xs) H2 O2 (l1.trans l2) R2 (.cons (Rep.grow l2 r1) r2)⟩
      · exact ⟨O1, τ1, .ex c ds, τ', R1, e3, XW.le l1 q⟩
    · exact ⟨O, τ, .ex c ds, τ', R, e1, q⟩
theorem kx_cons {nm : Option Str} {e : Expr} {kpos : Pos} {kws : List Keyword} {fa : M (Out D)} {fr : M (Out (List D))} (ha : EX X G e fa) (hr : KX X G kws fr) : KX X G (⟨nm, e, kpos⟩ :: kws) (xCons fa fr) := pk_imp (pk_cons ha hr) fun σ H Q q => by
    obtain ⟨O, τ, r, τ', R, e, q⟩ := q
    rcases xBind_cases e with ⟨a, τ1, e1, e2⟩ | ⟨c, ds, e1, rfl⟩
    · refine ⟨O, τ, .ok a, τ1, R, e1, fun x H1 O1 l1 R1 r1 => ?_⟩
      rcases xBind_cases e2 with ⟨b, τ2, e3, e4⟩ | ⟨c, ds, e3, rfl⟩
      · cases e4
        exact ⟨O1, τ1, .ok b, _, R1, e3, fun xs H2 O2 l2 R2 r2 => q (x :: xs) H2 O2 (l1.trans l2) R2 (.cons (Rep.grow l2 r1) r2)⟩
      · exact ⟨O1, τ1, .ex c ds, τ', R1, e3, XW.le l1 q⟩
    · exact ⟨O, τ, .ex c ds, τ', R, e1, q⟩
/-! ### operators, tuples -/
def xOp (g : D → D → Option D) (fa fb : M (Out D)) : M (Out D) := xBind fa fun a => xBind fb fun b => mLift ((g a b).map .ok)
theorem tOpX_of {r : R2} {g : D → D → Option D} {fa fb : M (Out D)} (hr : V2 X r g) : ∀ σ H Q, tEX X.K X.mg G (xOp g fa fb) σ H Q → tOp r (tEX X.K X.mg G fa) (tEX X.K X.mg G fb) σ H Q := fun σ H Q q => by
  obtain ⟨O, τ, z, τ', R, e, q⟩ := q
  rcases xBind_cases e with ⟨a, τ1, e1, e2⟩ | ⟨c, ds, e1, rfl⟩
  · refine ⟨O, τ, .ok a, τ1, R, e1, fun x H1 O1 l1 R1 r1 => ?_⟩
    rcases xBind_cases e2 with ⟨b, τ2, e3, e4⟩ | ⟨c, ds, e3, rfl⟩
    · unfold mLift at e4
      cases e5 : g a b with
      | none => simp [e5] at e4
      | some w =>
        simp only [e5, Option.map_some] at e4
        cases e4
        refine ⟨O1, τ1, .ok b, _, R1, e3, fun y H2 O2 l2 R2 r2 => ?_⟩
        exact hr H2 O2 x y a b w Q R2.live (Rep.grow l2 r1) r2 e5 fun v H' g' rz => q v H' O2 ((l1.trans l2).trans (Le.grow g')) (R2.grow g') rz
    · exact ⟨O1, τ1, .ex c ds, τ', R1, e3, XW.le l1 q⟩
  · exact ⟨O, τ, .ex c ds, τ', R, e1, q⟩
theorem ex_opD {a b : Expr} {op : Operator} {pos : Pos} {g : D → D → Option D} {fa fb : M (Out D)} (ho : OpD X (binaryOp op) g) (ha : EX X G a fa) (hb : EX X G b fb) : EX X G (.BinOp a op b pos) (xOp g fa fb) := pe_imp (pe_op ho ha hb) (tOpX_of (v2_D g))
theorem ex_ix {a b : Expr} {pos : Pos} {fa fb : M (Out D)} (ha : EX X G a fa) (hb : EX X G b fb) (hs : PlainIx b := by intro _ _; rfl) : EX X G (.Subscript a b pos) (xOp ixD fa fb) := pe_imp (pe_ix ix_seq ha hb hs) (tOpX_of ixR_D)
def xTup (f : M (Out (List D))) : M (Out D) := xBind f fun l => mLift ((fit l).map fun m => .ok (.tup m))
theorem ex_tup {es : List Expr} {x1} {pos : Pos} {f : M (Out (List D))} (h : AX X G es f) : EX X G (.Tuple es x1 pos) (xTup f) := pe_imp (pe_tup h) fun σ H Q q => by
  obtain ⟨O, τ, z, τ', R, e, q⟩ := q
  rcases xBind_cases e with ⟨l, τ1, e1, e2⟩ | ⟨c, ds, e1, rfl⟩
  · unfold mLift at e2
    cases e3 : fit l with
    | none => simp [e3] at e2
    | some m =>
      obtain ⟨rfl, hl⟩ := fit_some e3
      simp only [e3, Option.map_some] at e2
      cases e2
      refine ⟨O, τ, .ok m, _, R, e1, fun vs H1 O1 l1 R1 r1 => ⟨by rw [r1.length]; exact hl, fun p hp => ?_⟩⟩
      exact q _ _ O1 (l1.trans (Le.grow (Grow.new hp))) (R1.grow (Grow.new hp)) (new_tup R1.live hp r1)
  · exact ⟨O, τ, .ex c ds, τ', R, e1, q⟩
def xIf {α : Type} (t : M Bool) (fa fb : M (Out α)) : M (Out α) := mIf t fa fb
theorem ex_if {c a b : Expr} {pos : Pos} {t : M Bool} {fa fb : M (Out D)} (hc : DT X G c t) (ha : EX X G a fa) (hb : EX X G b fb) : EX X G (.IfExp c a b pos) (xIf t fa fb) := pe_imp (pe_ifExp hc ha hb) fun σ H Q q => by
  obtain ⟨O, τ, d, τ', R, e1, q⟩ := q
  obtain ⟨x, τ1, e2, e3⟩ := mBind_some e1
  refine ⟨O, τ, x, τ1, R, e2, fun H1 O1 l1 R1 => ?_⟩
  cases d with
  | ok d =>
    cases x with
    | true => exact ⟨O1, τ1, _, τ', R1, e3, fun v H2 O2 l2 R2 r2 => q v H2 O2 (l1.trans l2) R2 r2⟩
    | false => exact ⟨O1, τ1, _, τ', R1, e3, fun v H2 O2 l2 R2 r2 => q v H2 O2 (l1.trans l2) R2 r2⟩
  | ex c ds =>
    cases x with
    | true => exact ⟨O1, τ1, _, τ', R1, e3, XW.le l1 q⟩
    | false => exact ⟨O1, τ1, _, τ', R1, e3, XW.le l1 q⟩
end
/-! ### defs that may raise -/
structure FnX (P : Program) (w : World) (K : PySem.W.Frag) (mg : Str → Option Value) (base : Heap) (k : Nat) (f : Addr) (fd : FuncData) (ps : List Str) (sp : Sp) : Prop where
  len : ∀ vs H Q E, sp vs H Q E → vs.length = ps.length
  run : ∀ (A : Around) (outer : List Env) (s : Shared) (H : Hp) (args : Args) (us : List Value) (vs : List V) (Q : VK) (E : XK), Room k A → A.guards = some [] → Env0 P w K mg base A outer s H → BindsTo s fd args (ps.zip us) → Vals vs us → sp vs H Q E →
    codeAny (model P w) A (.call (.ref f) args) (CR (CX P w) outer P w H s Q E) s
section
variable {P : Program} {w : World} {K : PySem.W.Frag} {mg : Str → Option Value} {base : Heap}
theorem FnX.mono {j k : Nat} {f : Addr} {fd : FuncData} {ps : List Str} {sp : Sp} (F : FnX P w K mg base j f fd ps sp) (h : j ≤ k) : FnX P w K mg base k f fd ps sp :=
  ⟨F.len, fun A outer s H args us vs Q E hr => F.run A outer s H args us vs Q E (hr.mono h)⟩
theorem FnG.x {k : Nat} {f : Addr} {fd : FuncData} {ps : List Str} {sp : Sp} (F : FnG P w K mg base k f fd ps sp) : FnX P w K mg base k f fd ps sp :=
  ⟨F.len, fun A outer s H args us vs Q E h1 h2 h3 h4 h5 h6 => codeAny_mono (F.run A outer s H args us vs Q E h1 h2 h3 h4 h5 h6) fun r s' h => by
    match r, h with
    | .ok (.ret u), h => exact h⟩
/-- where nothing is raised -/
theorem FnX.g {k : Nat} {f : Addr} {fd : FuncData} {ps : List Str} {sp sp' : Sp} (F : FnX P w K mg base k f fd ps sp) (len : ∀ vs H Q E, sp' vs H Q E → vs.length = ps.length) (h : ∀ vs H Q E, sp' vs H Q E → sp vs H Q fun _ _ _ => False) : FnG P w K mg base k f fd ps sp' :=
  ⟨len, fun A outer s H args us vs Q E h1 h2 h3 h4 h5 h6 => codeAny_mono (F.run A outer s H args us vs Q (fun _ _ _ => False) h1 h2 h3 h4 h5 (h vs H Q E h6)) fun r s' h => by
    match r, h with
    | .ok (.ret u), h => exact h
    | .error e, h => obtain ⟨_, _, _, _, _, _, _, _, _, _, _, _, z⟩ := h; exact z.elim⟩
theorem fnX_of {x qual : Str} {params : Arguments} {body : List Stmt} {scope : Scope} {dvs : List V} {kws : List (Str × V)} {f : Addr} {fd : FuncData} {N ps : List Str} {k : Nat} {sp : Sp} (F : FunD K x qual params body scope dvs kws f fd) (S : FnScope N ps scope) (len : ∀ vs H Q E, sp vs H Q E → vs.length = ps.length)
    (hb : ∀ (cdv : Value) (A : Around) (outer : List Env) (s : Shared) (H : Hp) (vs : List V) (Q : VK) (E : XK), Room k (A.deeper (PyProof.Rows.envOfC qual scope s.heap.objs.size f cdv)) → A.guards = some [] → sp vs H Q E →
      ∃ t, PSs (cxOf (CX P w) P w K mg base N qual scope f cdv A outer s H E) body t ∧ t { nx := fun _ H' => Q .non H', rt := Q } (L2.start N vs) H) : FnX P w K mg base (k + 1) f fd ps sp := by
  obtain ⟨oc, od, dV, kV, doc, pm, an, cdv, ct, osl, rfl, lk, hcd, _, _⟩ := F.ex
  refine ⟨len, ?_⟩
  intro A outer s H args us vs Q E hr hgd e0 hbd r hsp
  have hIn : K.In s.heap := e0.mod.kin.keeps fun b o e => (e0.bs b o e).1
  have hLim : s.heap.NoLimit := e0.mod.nolimit.keeps fun b o e => (e0.bs b o e).1
  refine codeAny_call_function hr.depth (hIn _ _ lk) rfl S.co S.gen rfl (PySem.W.codeRec_of hIn hcd) (hbd _ _ _ _ ?_)
  refine wpAny_newFunctionEnv_cells S.kind ?_ ?_
  · rintro ⟨n, v⟩ hy
    rcases S.par n (List.of_mem_zip hy).1 with q | q
    · exact .inl q
    · exact .inr ⟨q, PySem.W.cellsFrom_some _ _ _ (.inl q)⟩
  · rintro env rfl s1 ic
    refine ⟨hLim.keeps ic.toInCall.keep, codeAny_func ?_⟩
    obtain ⟨t, ht, hq⟩ := hb cdv A outer s H vs Q E (hr.deeper _) hgd hsp
    have inv0 := inv_start (CX := CX P w) (E := E) S hr.hd e0 (len _ _ _ _ hsp) r ic
    refine wpAny_mono (ht.run [] s1 (L2.start N vs) H _ inv0 hq) ?_ fun _ _ hs => hs
    intro fl s' hs
    cases fl with
    | ret u => obtain ⟨v, σ', H', J, rv, q⟩ := hs; exact ⟨v, H', J.os, J.bare, J.base, J.hok, rv, q⟩
    | next => obtain ⟨σ', H', J, q⟩ := hs; exact ⟨.non, H', J.os, J.bare, J.base, J.hok, rfl, q⟩
    | brk => obtain ⟨_, _, _, q⟩ := hs; exact q.elim
    | cont => obtain ⟨_, _, _, q⟩ := hs; exact q.elim
end
section
variable (K : PySem.W.Frag) (mg : Str → Option Value)
def spX (n : Nat) (F : List D → Option (Out D)) : Sp := fun vs H Q E => ∃ O ds r, vs.length = n ∧ Live H O ∧ RepL K mg (cut H O) vs ds ∧ F ds = some r ∧ match r with
  | .ok d => ∀ v H', Grow H H' → Rep K mg (cut H' O) v d → Q v H'
  | .ex c es => ∀ cls dd H', Grow H H' → RepX K mg (cut H' O) cls dd c es → E cls dd H'
/-- __init__ that may raise -/
def spXI (n : Nat) (c : Nat) (F : List D → Option (Out (List D))) : Sp := fun vs H Q E => ∃ O p C dx vs' ds r, vs = .ref p :: vs' ∧ vs.length = n ∧ Live H O ∧ p ∈ O ∧ mg (clsName c) = some (.ref C) ∧ H p = some (.ins C dx []) ∧ RepL K mg (cut H O) vs' ds ∧ F ds = some r ∧ match r with
  | .ok fs => ∀ H' dx' xs', (∀ a o, a ≠ p → H a = some o → H' a = some o) → H' p = some (.ins C dx' ((clsFlds c).zip xs')) → (clsFlds c).length = xs'.length → RepL K mg (cut H' O) xs' fs → Q .non H'
  | .ex c es => ∀ cls dd H', (∀ a o, a ≠ p → H a = some o → H' a = some o) → RepX K mg (cut H' (O.filter (· ≠ p))) cls dd c es → E cls dd H'
end
def retX : Option (Fl × Sd) → Option (Out D)
  | some (.rt d, _) => some (.ok d)
  | some (.rf l, _) => some (.ok (.lst l))
  | some (.nx, _) => some (.ok .non)
  | some (.xc c ds, _) => some (.ex c ds)
  | _ => none
def runX (n : Nat) (f : M Fl) (ds : List D) : Option (Out D) := retX (f (start0 n ds))
def retXI (c : Nat) : Option (Fl × Sd) → Option (Out (List D))
  | some (.nx, τ) => (obOf c τ).map .ok
  | some (.rt .non, τ) => (obOf c τ).map .ok
  | some (.xc c ds, _) => some (.ex c ds)
  | _ => none
def runXI (n : Nat) (c : Nat) (f : M Fl) (ds : List D) : Option (Out (List D)) := retXI c (f (some (.ob c [] []) :: start0 (n - 1) ds))
theorem SR.ground {K : PySem.W.Frag} {mg : Str → Option Value} {H0 H : Hp} {W B O : List Addr} {pin : Option Addr} {T : List (Addr × Str)} {wx wx' : WX} {σ : St} {τ : Sd} (R : SR K mg ⟨H0, W, B, pin, T, wx⟩ H O σ τ) : SR K mg ⟨H0, W, B, pin, T, wx'⟩ H O σ τ :=
  ⟨R.len, R.keep, R.tab, R.base, R.own0, R.live, fun i s h => by
    obtain ⟨v, e, q⟩ := R.slot i s h
    exact ⟨v, e, by cases s <;> exact q⟩, R.inj, R.pin⟩
/-- the ground of such a def -/
abbrev gX (H0 : Hp) (W B : List Addr) (pin : Option Addr) (E : XK) : Gx := ⟨H0, W, B, pin, [], fun cls d _ H => E cls d H⟩
section
variable {P : Program} {w : World} {K : PySem.W.Frag} {mg : Str → Option Value} {base : Heap} {x qual : Str} {params : Arguments} {body : List Stmt} {scope : Scope} {dvs : List V} {kws : List (Str × V)} {f : Addr} {fd : FuncData} {N ps : List Str} {k : Nat} {m : M Fl}
abbrev cxX (P : Program) (w : World) (K : PySem.W.Frag) (mg : Str → Option Value) (base : Heap) (N : List Str) (qual : Str) (scope : Scope) (f : Addr) (cdv : Value) (A : Around) (outer : List Env) (s : Shared) (H : Hp) (E : XK) : Cx := cxOf (CX P w) P w K mg base N qual scope f cdv A outer s H E
abbrev BodyR (P : Program) (w : World) (K : PySem.W.Frag) (mg : Str → Option Value) (base : Heap) (N : List Str) (qual : Str) (scope : Scope) (f : Addr) (k : Nat) (body : List Stmt) (m : M Fl) : Prop :=
  ∀ (cdv : Value) (A : Around) (outer : List Env) (s : Shared) (H : Hp) (E : XK), Room k (cxX P w K mg base N qual scope f cdv A outer s H E).A → (cxX P w K mg base N qual scope f cdv A outer s H E).A.guards = some [] → ∀ G : Gx, Takes (cxX P w K mg base N qual scope f cdv A outer s H E) G.wx → PassesOwn (model P w) (cxX P w K mg base N qual scope f cdv A outer s H E).A (cxX P w K mg base N qual scope f cdv A outer s H E).env (cxX P w K mg base N qual scope f cdv A outer s H E).xe → DSs (cxX P w K mg base N qual scope f cdv A outer s H E) G body m
theorem takes_X {cdv : Value} {A : Around} {outer : List Env} {s : Shared} {H : Hp} {E : XK} : Takes (cxX P w K mg base N qual scope f cdv A outer s H E) (fun cls d _ H => E cls d H) := takes_of (E₁ := fun e' s'' => CX P w outer H s E e' s'') rfl rfl rfl rfl
theorem passes_X {cdv : Value} {A : Around} {outer : List Env} {s : Shared} {H : Hp} {E : XK} : PassesOwn (model P w) (cxX P w K mg base N qual scope f cdv A outer s H E).A (cxX P w K mg base N qual scope f cdv A outer s H E).env (cxX P w K mg base N qual scope f cdv A outer s H E).xe :=
  passes_of (X := cxX P w K mg base N qual scope f cdv A outer s H E) (K := fun e s'' => CX P w outer H s E e s'') (E₁ := fun e' s'' => CX P w outer H s E e' s'') rfl
theorem RepX.grow {H H' : Hp} {cls : Value} {d : Option Addr} {c : Nat} {ds : List D} (g : GrowW H H') (r : RepX K mg H cls d c ds) : RepX K mg H' cls d c ds := by
  obtain ⟨C, xs, h1, h2, h3, h4, h5⟩ := r
  exact ⟨C, xs, h1, h2, h3.growW g, h4, RepL.grow g h5⟩
theorem fnX (F : FunD K x qual params body scope dvs kws f fd) (S : FnScope N ps scope) (hb : BodyR P w K mg base N qual scope f k body m) : FnX P w K mg base (k + 1) f fd ps (spX K mg ps.length (runX N.length m)) := by
  have hpl : ps.length ≤ N.length := by have := congrArg List.length S.pre; rw [List.length_take] at this; omega
  refine fnX_of F S (fun vs H Q E h => ?_) (fun cdv A outer s H vs Q E hr hg h => ?_)
  · obtain ⟨O, ds, d, h1, _⟩ := h; exact h1
  · obtain ⟨O, ds, r0, h1, lv, r, e, q⟩ := h
    refine ⟨_, hb cdv A outer s H E hr hg (gX H [] O none E) takes_X passes_X, ?_⟩
    have R : SR K mg (gX H [] O none E) H O (L2.start N vs) (start0 N.length ds) := (SR.start (N := N) lv r (by omega)).ground
    unfold runX at e
    cases e1 : m (start0 N.length ds) with
    | none => rw [e1] at e; cases e
    | some pr =>
      obtain ⟨fl, τ'⟩ := pr
      rw [e1] at e
      refine ⟨O, start0 N.length ds, fl, τ', R, e1, ?_⟩
      have gr : ∀ {σ' : St} {H' : Hp} {O' : List Addr}, SR K mg (gX H [] O none E) H' O' σ' τ' → Grow H H' := fun R' a o h => R'.keep a o h (by simp) (.inl rfl)
      cases fl with
      | nx => cases e; exact fun σ' H' O' l R' => q _ _ (gr R') .non
      | rt d' => cases e; exact fun v σ' H' O' l R' r' => q _ _ (gr R') (Rep.grow (Grow.less R'.base).w r')
      | rf d' => cases e; exact fun p xs σ' H' O' l hp R' r' => q _ _ (gr (R'.grow (Grow.new hp))) (Rep.grow (Grow.less R'.base).w (new_list R'.live hp r'))
      | bk => cases e
      | ct => cases e
      | xc c es => cases e; exact fun cls d σ' H' O' l R' r' => q _ _ _ (gr R') (r'.grow (Grow.less R'.base).w)
theorem fnXI {c : Nat} (F : FunD K x qual params body scope dvs kws f fd) (S : FnScope N ps scope) (hb : BodyR P w K mg base N qual scope f k body m) : FnX P w K mg base (k + 1) f fd ps (spXI K mg ps.length c (runXI N.length c m)) := by
  have hpl : ps.length ≤ N.length := by have := congrArg List.length S.pre; rw [List.length_take] at this; omega
  refine fnX_of F S (fun vs H Q E h => ?_) (fun cdv A outer s H vs Q E hr hg h => ?_)
  · obtain ⟨O, p, C, dx, vs', ds, fs, _, h1, _⟩ := h; exact h1
  · obtain ⟨O, p, C, dx, vs', ds, r0, rfl, h1, lv, hpO, hC, hp, r, e, q⟩ := h
    refine ⟨_, hb cdv A outer s H E hr hg (gX H [p] (O.filter (· ≠ p)) (some p) E) takes_X passes_X, ?_⟩
    have R : SR K mg (gX H [p] (O.filter (· ≠ p)) (some p) E) H O (L2.start N (.ref p :: vs')) (some (.ob c [] []) :: start0 (N.length - 1) ds) := (SR.startO (N := N) (s0 := .ob c [] []) lv hpO r (by simp at h1; omega) rfl ⟨p, C, dx, [], rfl, hpO, fun z => by simpa using (List.mem_filter.mp z).2, .inr (by simp), hC, hp, rfl, .nil⟩).ground
    unfold runXI at e
    cases e1 : m (some (.ob c [] []) :: start0 (N.length - 1) ds) with
    | none => rw [e1] at e; cases e
    | some pr =>
      obtain ⟨fl, τ'⟩ := pr
      rw [e1] at e
      refine ⟨O, _, fl, τ', R, e1, ?_⟩
      have kp : ∀ {σ' : St} {H' : Hp} {O' : List Addr}, SR K mg (gX H [p] (O.filter (· ≠ p)) (some p) E) H' O' σ' τ' → ∀ a o, a ≠ p → H a = some o → H' a = some o := fun R' a o na h => R'.keep a o h (by simpa using na) (.inl rfl)
      have fin : ∀ {σ' : St} {H' : Hp} {O' : List Addr}, SR K mg (gX H [p] (O.filter (· ≠ p)) (some p) E) H' O' σ' τ' → (obOf c τ').map Out.ok = some r0 → Q .non H' := fun {σ' H' O'} R' eo => by
        unfold obOf at eo
        split at eo
        · rename_i c' ns' ds' e2
          split at eo
          case isFalse => cases eo
          rename_i ec
          cases eo
          obtain ⟨v, ev, p', C', dx', xs', rfl, hO', k2, k3, k4, k5, k6, k7⟩ := R'.slot 0 _ e2
          have e0 := R'.pin p _ rfl e2 rfl
          rw [ev] at e0; cases e0
          have sub : ∀ a ∈ O, a ∈ O' := fun a z => by
            by_cases ea : a = p
            · subst ea; exact hO'
            · exact R'.base a (List.mem_filter.mpr ⟨z, by simpa using ea⟩)
          obtain ⟨ec, en⟩ := ec
          subst en
          rw [ec, hC] at k4
          cases k4
          exact q H' dx' xs' (kp R') k5 k6 (RepL.grow (Grow.less sub).w k7)
        · cases eo
      cases fl with
      | nx => exact fun σ' H' O' l R' => fin R' e
      | rt d' =>
        cases d' with
        | non => exact fun v σ' H' O' l R' r' => by cases r'; exact fin R' e
        | _ => cases e
      | xc c' es =>
        cases e
        intro cls d σ' H' O' l R' r'
        exact q cls d H' (kp R') (r'.grow (Grow.less R'.base).w)
      | _ => cases e
end
end Dv
set_option Elab.async false
set_option linter.all false
set_option maxRecDepth 100000
set_option maxHeartbeats 4000000
/-! DX4: calls of defs, classes, methods that may raise; raise; statements -/
namespace Dv
open PySem L2
section
variable {X : Cx} {G : Gx} {k n : Nat} {f C : Addr} {fd : FuncData} {ps ks : List Str} {sp : Sp}
theorem run_X {pins : List (Addr × Obj)} {σ : St} {H : Hp} {s : Shared} {Q : VK} {us ws : List Value} {vs zs : List V} {g : List Value → List Value → List Value} {gV : List V → List V → List V} (F : FnX X.prog X.w X.K X.mg X.base k f fd ps sp) (tk : Takes X G.wx) (hr : Room k X.A) (hgd : X.A.guards = some [])
    (hb : KBn X.K fd ps n ks g gV) (I : Inv X pins σ H s) (r : Vals vs us) (rz : Vals zs ws) (l1 : vs.length = n) (l2 : zs.length = ks.length) (h : sp (gV vs zs) H Q fun cls d H' => G.wx cls d σ H') : wpAny (model X.prog X.w) X.A (call (.ref f) us (ks.zip ws)) (EP X pins σ Q) X.xe s := by
  have r2 := hb.rel r rz
  refine wpAny_call (codeAny_mono (F.run X.A X.stack s H ⟨us, ks.zip ws⟩ (g us ws) (gV vs zs) Q (fun cls d H' => G.wx cls d σ H') hr hgd I.env0 (hb.to s us ws I.kIn (r.length.symm.trans l1) (rz.length.symm.trans l2)) r2 h) ?_)
  intro res s' hq
  match res, hq with
  | .ok (.ret u), hq => exact I.after hq
  | .error e, hq => exact tk e s' (XE.of_call I (fun cls d H' z => z) hq)
theorem run_mkX {pins : List (Addr × Obj)} {σ : St} {H : Hp} {s : Shared} {Q : VK} {us ws : List Value} {vs zs : List V} {g : List Value → List Value → List Value} {gV : List V → List V → List V} (Mc : Mk X.K C f) (F : FnX X.prog X.w X.K X.mg X.base k f fd ps sp) (tk : Takes X G.wx) (hr : Room (k + 1) X.A) (hgd : X.A.guards = some [])
    (hb : KBn X.K fd ps (n + 1) ks g gV) (I : Inv X pins σ H s) (r : Vals vs us) (rz : Vals zs ws) (l1 : vs.length = n) (l2 : zs.length = ks.length)
    (h : ∀ x dx, H x = none → H dx = none → dx ≠ x → sp (gV (.ref x :: vs) zs) (upd (upd H dx (.own x)) x (.ins C dx [])) (fun v H2 => v = .non ∧ Q (.ref x) H2) fun cls d H' => G.wx cls d σ H') :
    wpAny (model X.prog X.w) X.A (call (.ref C) us (ks.zip ws)) (EP X pins σ Q) X.xe s := by
  have nx : s.heap.objs.size ≠ s.heap.objs.size + 1 := Nat.ne_of_lt (Nat.lt_succ_self _)
  have hq := h (s.heap.objs.size + 1) s.heap.objs.size (I.hok.fresh (Nat.le_succ _)) (I.hok.fresh (Nat.le_refl _)) nx
  have J := Inv.made (C := C) I
  have n1 : (Value.ref (s.heap.objs.size + 1) :: us).length = n + 1 := by simp [← r.length, l1]
  have r1 : Vals (V.ref (s.heap.objs.size + 1) :: vs) (Value.ref (s.heap.objs.size + 1) :: us) := .cons rfl r
  have gd : (X.A.under (.builtin "type.__call__" ⟨.ref C :: us, ks.zip ws⟩)).guards = some [] := by
    simp [Around.under, pushGuards, Code.guards, Code.isGuard, guardIds, hgd]
  refine wpAny_call (make_map (f := f) I.kIn Mc.makes Mc.init (beq_iff_eq.mp Mc.fn) (codeAny_mono (F.run _ X.stack _ _ ⟨_ :: us, ks.zip ws⟩ (g (_ :: us) ws) _ _ _ (hr.make C us (ks.zip ws)) gd (J.env0.make C us (ks.zip ws)) (hb.to _ _ ws J.kIn n1 (rz.length.symm.trans l2)) (hb.rel r1 rz) hq) ?_))
  intro res s' hq'
  match res, hq' with
  | .ok (.ret u), hq' =>
    obtain ⟨v, H', I3, rv, ev, q3⟩ := J.after hq'
    subst ev
    exact ⟨rv, ⟨V.ref (s.heap.objs.size + 1), H', I3, rfl, q3⟩⟩
  | .error e, hq' => exact tk e s' (XE.of_call J (fun cls d H' z => z) hq')
end
/-! ### f(a, .., k = b, ..) -/
def xFn {α : Type} (n m : Nat) (gD : List D → List D → List D) (F : List D → Option (Out α)) (fa fk : M (Out (List D))) : M (Out α) := xBind fa fun ds => xBind fk fun es => mLift (if ds.length = n ∧ es.length = m then F (gD ds es) else none)
section
variable {X : Cx} {G : Gx} {k n : Nat} {f C : Addr} {fd : FuncData} {ps ks : List Str} {x m : Str} {p pos apos : Pos} {o e : Expr} {es : List Expr} {kws : List Keyword} {fo : M (Out D)} {fa fk : M (Out (List D))} {gD : List D → List D → List D} {nn : Nat} {cs : List Nat}
/-- an exception in the middle -/
theorem tEX_stop {e : Expr} {f : M (Out D)} {g : D → M (Out D)} {pins : List (Addr × Obj)} {s : Shared} {σ : St} {H : Hp} {α : Type} {Z : Value → Shared → Prop} {O : List Addr} {τ τ' : Sd} {c : Nat} {ds : List D} (h : EX X G e f) (I : Inv X pins σ H s) (R : SR X.K X.mg G H O σ τ) (e1 : f τ = some (.ex c ds, τ')) (q : XW X.K X.mg G σ H O τ' c ds) : wpAny (model X.prog X.w) X.A (eval e X.env) Z X.xe s :=
  thn (h.run pins s σ H (fun _ _ => False) I ⟨O, τ, _, τ', R, e1, q⟩) fun u s1 ⟨_, _, _, _, z⟩ => z.elim
theorem tAX_stop {es : List Expr} {f : M (Out (List D))} {pos : Pos} {pins : List (Addr × Obj)} {s : Shared} {σ : St} {H : Hp} {Z : List Value → Shared → Prop} {O : List Addr} {τ τ' : Sd} {c : Nat} {ds : List D} (h : AX X G es f) (I : Inv X pins σ H s) (R : SR X.K X.mg G H O σ τ) (e1 : f τ = some (.ex c ds, τ')) (q : XW X.K X.mg G σ H O τ' c ds) : wpAny (model X.prog X.w) X.A (spliced (backTo pos (starEach es X.env))) Z X.xe s :=
  thn (h.run pos pins s σ H (fun _ _ => False) I ⟨O, τ, _, τ', R, e1, q⟩) fun u s1 ⟨_, _, _, _, z⟩ => z.elim
theorem tKX_stop {kws : List Keyword} {f : M (Out (List D))} {pos : Pos} {pins : List (Addr × Obj)} {s : Shared} {σ : St} {H : Hp} {Z : List Value → Shared → Prop} {O : List Addr} {τ τ' : Sd} {c : Nat} {ds : List D} (h : KX X G kws f) (I : Inv X pins σ H s) (R : SR X.K X.mg G H O σ τ) (e1 : f τ = some (.ex c ds, τ')) (q : XW X.K X.mg G σ H O τ' c ds) : wpAny (model X.prog X.w) X.A (evalAll ((backToKw pos (keywordEach kws X.env)).map (·.2))) Z X.xe s :=
  thn (h.run pos pins s σ H (fun _ _ => False) I ⟨O, τ, _, τ', R, e1, q⟩) fun u s1 ⟨_, _, _, _, z⟩ => z.elim
/-- the arguments of a call, then what is behind them -/
theorem args_X {α : Type} {n' m' : Nat} {F : List D → Option (Out α)} {pins : List (Addr × Obj)} {s : Shared} {σ : St} {H : Hp} {O : List Addr} {τ τ' : Sd} {r : Out α} {Z : List Value → Shared → Prop} {Z2 : List Value → List Value → Shared → Prop} (ha : AX X G es fa) (hkw : KX X G kws fk) (I : Inv X pins σ H s) (R : SR X.K X.mg G H O σ τ)
    (e1 : xFn n' m' gD F fa fk τ = some (r, τ')) (qx : ∀ c ds, r = .ex c ds → XW X.K X.mg G σ H O τ' c ds)
    (hZ : ∀ us s1, wpAny (model X.prog X.w) X.A (evalAll ((backToKw pos (keywordEach kws X.env)).map (·.2))) (fun ws s2 => Z2 us ws s2) X.xe s1 → Z us s1)
    (h : ∀ us ws s2 vs zs H2 O2 ds es', Inv X pins σ H2 s2 → Vals vs us → Vals zs ws → Le H O H2 O2 → SR X.K X.mg G H2 O2 σ τ' → RepL X.K X.mg (cut H2 O2) vs ds → RepL X.K X.mg (cut H2 O2) zs es' → ds.length = n' → es'.length = m' → F (gD ds es') = some r → Z2 us ws s2) :
    wpAny (model X.prog X.w) X.A (spliced (backTo pos (starEach es X.env))) Z X.xe s := by
  rcases xBind_cases e1 with ⟨ds, τ1, e2, e3⟩ | ⟨c, ds, e2, rfl⟩
  · refine thn (ha.run pos pins s σ H (fun vs H1 => ∃ O1, Le H O H1 O1 ∧ SR X.K X.mg G H1 O1 σ τ1 ∧ RepL X.K X.mg (cut H1 O1) vs ds) I ⟨O, τ, _, τ1, R, e2, fun vs H1 O1 l1 R1 r1 => ⟨O1, l1, R1, r1⟩⟩) ?_
    rintro us s1 ⟨vs, H1, I1, rv, O1, l1, R1, r1⟩
    refine hZ us s1 ?_
    rcases xBind_cases e3 with ⟨es', τ2, e4, e5⟩ | ⟨c, ds, e4, rfl⟩
    · refine thn (hkw.run pos pins s1 σ H1 (fun zs H2 => ∃ O2, Le H1 O1 H2 O2 ∧ SR X.K X.mg G H2 O2 σ τ2 ∧ RepL X.K X.mg (cut H2 O2) zs es') I1 ⟨O1, τ1, _, τ2, R1, e4, fun zs H2 O2 l2 R2 r2 => ⟨O2, l2, R2, r2⟩⟩) ?_
      rintro ws s2 ⟨zs, H2, I2, rz, O2, l2, R2, r2⟩
      unfold mLift at e5
      split at e5
      · rename_i a e6
        cases e5
        split at e6
        · rename_i hl
          exact h us ws s2 vs zs H2 O2 ds es' I2 rv rz (l1.trans l2) R2 (RepL.grow l2 r1) r2 hl.1 hl.2 e6
        · cases e6
      · cases e5
    · exact tKX_stop hkw I1 R1 e4 (XW.le l1 (qx _ _ rfl))
  · exact tAX_stop ha I R e2 (qx _ _ rfl)
theorem ex_call {F : List D → Option (Out D)} (tk : Takes X G.wx) (Fn : FnX X.prog X.w X.K X.mg X.base k f fd ps (spX X.K X.mg ps.length F)) (hr : Room k X.A) (hgd : X.A.guards = some []) (hg : Gl X x) (hm : X.mg x = some (.ref f)) (hk : PySem.W.keepIn X.K (.ref f) = true) (hb : KB X.K X.mg fd ps n ks gD)
    (ha : AX X G (e :: es) fa) (hkw : KX X G kws fk) (hall : (backToKw pos (keywordEach kws X.env)).all (·.1.isSome) = true := by rfl) (hks : (backToKw pos (keywordEach kws X.env)).filterMap (·.1) = ks := by rfl)
    (hdb : (x == ("__debug__" : Str)) = false := by decide) (he : starEach (e :: es) X.env = (false, eval e X.env) :: starEach es X.env := by rfl)
    (hpl : ((backTo pos (starEach (e :: es) X.env)).any (·.1) || (backToKw pos (keywordEach kws X.env)).any (·.1.isNone)) = false := by rfl) :
    EX X G (.Call (.Name x p) (e :: es) kws pos) (xFn n ks.length gD F fa fk) := ⟨fun pins s σ H Q I q => by
  obtain ⟨O, τ, r, τ', R, e1, q⟩ := q
  obtain ⟨g, gV, kb, rep⟩ := hb.b
  refine wpAny_Call_Name_kw (ld_glob I hg hm ?_ hdb)
  refine PySem.W.callWith_KW (h₀ := X.base) I.ok.mod.kin hk hall (args_X ha hkw I R e1 (fun c ds z => by subst z; exact q) (fun us s1 z => z) fun us ws s2 vs zs H2 O2 ds es' I2 rv rz l R2 r1 r2 n1 n2 e4 => ⟨I2.kIn, ?_⟩) hpl he
  rw [hks]
  have m1 : vs.length = n := r1.length.trans n1
  have m2 : zs.length = ks.length := r2.length.trans n2
  obtain ⟨rg, hl⟩ := rep _ vs zs ds es' r1 r2 m1 m2
  refine run_X Fn tk hr hgd kb I2 rv rz m1 m2 ⟨O2, gD ds es', r, hl, R2.live, rg, e4, ?_⟩
  cases r with
  | ok d => exact fun v H' g r => q v H' O2 (l.trans (Le.grow g)) (R2.grow g) r
  | ex c es => exact fun cls dd H' g r => q cls dd H' O2 (l.trans (Le.grow g)) (R2.grow g) r⟩
/-! ### C(a, .., k = b, ..) -/
def xMk (c n m : Nat) (gD : List D → List D → List D) (F : List D → Option (Out (List D))) (fa fk : M (Out (List D))) : M (Out D) := xBind (xFn n m gD F fa fk) fun ds => mPure (.ok (.obj c ds))
theorem mkX_side {c : Nat} {F : List D → Option (Out (List D))} {σ : St} {H2 : Hp} {O2 : List Addr} {τ' : Sd} {ws : List V} {ds : List D} {r : Out (List D)} {Q : VK} {H : Hp} {O : List Addr} (hC : X.mg (clsName c) = some (.ref C)) (hn : ws.length + 1 = nn) (rw_ : RepL X.K X.mg (cut H2 O2) ws ds) (l : Le H O H2 O2) (R2 : SR X.K X.mg G H2 O2 σ τ') (e3 : F ds = some r)
    (q : ∀ fs, r = .ok fs → ∀ v H' O', Le H O H' O' → SR X.K X.mg G H' O' σ τ' → Rep X.K X.mg (cut H' O') v (.obj c fs) → Q v H') (qx : ∀ c ds, r = .ex c ds → XW X.K X.mg G σ H O τ' c ds) (x dx : Addr) (hx : H2 x = none) (hdx : H2 dx = none) (nx : dx ≠ x) :
    spXI X.K X.mg nn c F (.ref x :: ws) (upd (upd H2 dx (.own x)) x (.ins C dx [])) (fun v H3 => v = .non ∧ Q (.ref x) H3) fun cls d H' => G.wx cls d σ H' := by
  have hx1 : upd H2 dx (.own x) x = none := by rw [upd_ne (Ne.symm nx)]; exact hx
  have g2 : Grow H2 (upd (upd H2 dx (.own x)) x (.ins C dx [])) := (Grow.new hdx).trans (Grow.new hx1)
  have gc : Grow (cut H2 O2) (cut (upd (upd H2 dx (.own x)) x (.ins C dx [])) (x :: O2)) := fun a o h => by
    obtain ⟨n1, e1⟩ := cut_some h
    have na : a ≠ x := ne_of_none e1 hx
    exact cut_of (by simp [na, n1]) (g2 _ _ e1)
  have nO : x ∉ O2 := R2.live.ne hx
  refine ⟨x :: O2, x, C, dx, ws, ds, r, rfl, by simpa using hn, ?_, List.mem_cons_self, hC, upd_same, RepL.grow gc rw_, e3, ?_⟩
  · intro a z
    rcases List.mem_cons.mp z with z | z
    · subst z; exact .inr ⟨C, dx, [], upd_same⟩
    · exact R2.live.grow g2 a z
  · cases r with
    | ok fs =>
      intro H' dx' xs' kp hp hl rx
      have g3 : Grow H2 H' := fun a o h => kp a o (ne_of_none h hx) (g2 _ _ h)
      exact ⟨rfl, q fs rfl (.ref x) H' O2 (l.trans (Le.grow g3)) (R2.grow g3) (.obj hC (cut_of nO hp) hl (RepL.grow (Grow.less fun a z => List.mem_cons_of_mem _ z).w rx))⟩
    | ex c' es =>
      intro cls dd H' kp rx
      have g3 : Grow H2 H' := fun a o h => kp a o (ne_of_none h hx) (g2 _ _ h)
      exact qx c' es rfl cls dd H' O2 (l.trans (Le.grow g3)) (R2.grow g3) (rx.grow (Grow.less fun a z => List.mem_filter.mpr ⟨List.mem_cons_of_mem _ z, by simp only [ne_eq, decide_not, Bool.not_eq_eq_eq_not, Bool.not_true, decide_eq_false_iff_not]; intro e; exact nO (by rw [← e]; exact z)⟩).w)
theorem xMk_cases {c n' m' : Nat} {F : List D → Option (Out (List D))} {τ τ' : Sd} {r : Out D} (h : xMk c n' m' gD F fa fk τ = some (r, τ')) : ∃ r0, xFn n' m' gD F fa fk τ = some (r0, τ') ∧ ((∃ fs, r0 = .ok fs ∧ r = .ok (.obj c fs)) ∨ ∃ c' ds, r0 = .ex c' ds ∧ r = .ex c' ds) := by
  rcases xBind_cases h with ⟨fs, τ1, e1, e2⟩ | ⟨c', ds, e1, rfl⟩
  · cases e2; exact ⟨_, e1, .inl ⟨fs, rfl, rfl⟩⟩
  · exact ⟨_, e1, .inr ⟨c', ds, rfl, rfl⟩⟩
theorem ex_mk {c : Nat} {F : List D → Option (Out (List D))} (tk : Takes X G.wx) (Mc : Mk X.K C f) (Fn : FnX X.prog X.w X.K X.mg X.base k f fd ps (spXI X.K X.mg ps.length c F)) (hr : Room (k + 1) X.A) (hgd : X.A.guards = some []) (hg : Gl X (clsName c)) (hm : X.mg (clsName c) = some (.ref C)) (hb : KI X.K X.mg fd ps n ks gD)
    (hx : x = clsName c) (ha : AX X G (e :: es) fa) (hkw : KX X G kws fk) (hall : (backToKw pos (keywordEach kws X.env)).all (·.1.isSome) = true := by rfl) (hks : (backToKw pos (keywordEach kws X.env)).filterMap (·.1) = ks := by rfl)
    (hdb : (x == ("__debug__" : Str)) = false := by decide) (he : starEach (e :: es) X.env = (false, eval e X.env) :: starEach es X.env := by rfl)
    (hpl : ((backTo pos (starEach (e :: es) X.env)).any (·.1) || (backToKw pos (keywordEach kws X.env)).any (·.1.isNone)) = false := by rfl) :
    EX X G (.Call (.Name x p) (e :: es) kws pos) (xMk c n ks.length gD F fa fk) := ⟨fun pins s σ H Q I q => by
  subst hx
  obtain ⟨O, τ, r, τ', R, e1, q⟩ := q
  obtain ⟨r0, e1, hr0⟩ := xMk_cases e1
  have qx : ∀ c ds, r0 = .ex c ds → XW X.K X.mg G σ H O τ' c ds := fun c ds z => by
    rcases hr0 with ⟨fs, rfl, rfl⟩ | ⟨c', ds', rfl, rfl⟩
    · cases z
    · cases z; exact q
  have qo : ∀ fs, r0 = .ok fs → ∀ v H' O', Le H O H' O' → SR X.K X.mg G H' O' σ τ' → Rep X.K X.mg (cut H' O') v (.obj c fs) → Q v H' := fun fs z => by
    rcases hr0 with ⟨fs, rfl, rfl⟩ | ⟨c', ds', rfl, rfl⟩
    · cases z; exact q
    · cases z
  obtain ⟨g, gV, gW, kb, rep⟩ := hb.b
  refine wpAny_Call_Name_kw (ld_glob I hg hm ?_ hdb)
  refine PySem.W.callWith_KW (h₀ := X.base) I.ok.mod.kin Mc.kp hall (args_X ha hkw I R e1 qx (fun us s1 z => z) fun us ws s2 vs zs H2 O2 ds es' I2 rv rz l R2 r1 r2 n1 n2 e4 => ⟨I2.kIn, ?_⟩) hpl he
  rw [hks]
  have m1 : vs.length = n := r1.length.trans n1
  have m2 : zs.length = ks.length := r2.length.trans n2
  refine run_mkX Mc Fn tk hr hgd kb I2 rv rz m1 m2 fun xa dx hxa hdx nx => ?_
  obtain ⟨eg, rg, hl⟩ := rep _ (.ref xa) vs zs ds es' r1 r2 m1 m2
  rw [eg]
  exact mkX_side hm hl rg l R2 e4 qo qx xa dx hxa hdx nx⟩
theorem ex_mk0 {c : Nat} {F : List D → Option (Out (List D))} (tk : Takes X G.wx) (Mc : Mk X.K C f) (Fn : FnX X.prog X.w X.K X.mg X.base k f fd ps (spXI X.K X.mg ps.length c F)) (hr : Room (k + 1) X.A) (hgd : X.A.guards = some []) (hg : Gl X (clsName c)) (hm : X.mg (clsName c) = some (.ref C)) (hb : KI X.K X.mg fd ps 0 ks gD)
    (hx : x = clsName c) (hkw : KX X G kws fk) (hall : (backToKw pos (keywordEach kws X.env)).all (·.1.isSome) = true := by rfl) (hks : (backToKw pos (keywordEach kws X.env)).filterMap (·.1) = ks := by rfl)
    (hdb : (x == ("__debug__" : Str)) = false := by decide) (hpl : ((backTo pos (starEach [] X.env)).any (·.1) || (backToKw pos (keywordEach kws X.env)).any (·.1.isNone)) = false := by rfl) :
    EX X G (.Call (.Name x p) [] kws pos) (xMk c 0 ks.length gD F (mUp aNil) fk) := ⟨fun pins s σ H Q I q => by
  subst hx
  obtain ⟨O, τ, r, τ', R, e1, q⟩ := q
  obtain ⟨r0, e1, hr0⟩ := xMk_cases e1
  have qx : ∀ c ds, r0 = .ex c ds → XW X.K X.mg G σ H O τ' c ds := fun c ds z => by
    rcases hr0 with ⟨fs, rfl, rfl⟩ | ⟨c', ds', rfl, rfl⟩
    · cases z
    · cases z; exact q
  have qo : ∀ fs, r0 = .ok fs → ∀ v H' O', Le H O H' O' → SR X.K X.mg G H' O' σ τ' → Rep X.K X.mg (cut H' O') v (.obj c fs) → Q v H' := fun fs z => by
    rcases hr0 with ⟨fs, rfl, rfl⟩ | ⟨c', ds', rfl, rfl⟩
    · cases z; exact q
    · cases z
  obtain ⟨g, gV, gW, kb, rep⟩ := hb.b
  refine wpAny_Call_Name_kw (ld_glob I hg hm ?_ hdb)
  refine PySem.W.callWith_KW0 (h₀ := X.base) I.ok.mod.kin Mc.kp hall ?_ hpl
  rcases xBind_cases e1 with ⟨ds, τ1, e2, e3⟩ | ⟨c, ds, e2, rfl⟩
  · obtain ⟨a, e2, e2'⟩ := mUp_some e2
    cases e2'
    cases e2
    rcases xBind_cases e3 with ⟨es', τ2, e4, e5⟩ | ⟨c, ds, e4, rfl⟩
    · refine thn (hkw.run pos pins s σ H (fun zs H2 => ∃ O2, Le H O H2 O2 ∧ SR X.K X.mg G H2 O2 σ τ2 ∧ RepL X.K X.mg (cut H2 O2) zs es') I ⟨O, τ, _, τ2, R, e4, fun zs H2 O2 l2 R2 r2 => ⟨O2, l2, R2, r2⟩⟩) ?_
      rintro ws s2 ⟨zs, H2, I2, rz, O2, l2, R2, r2⟩
      unfold mLift at e5
      split at e5
      · rename_i a e6
        cases e5
        split at e6
        · rename_i hl0
          refine ⟨I2.kIn, ?_⟩
          rw [hks]
          have m2 : zs.length = ks.length := r2.length.trans hl0.2
          refine run_mkX (us := []) (vs := []) Mc Fn tk hr hgd kb I2 .nil rz rfl m2 fun xa dx hxa hdx nx => ?_
          obtain ⟨eg, rg, hl⟩ := rep _ (.ref xa) [] zs [] es' .nil r2 rfl m2
          rw [eg]
          exact mkX_side hm hl rg l2 R2 e6 qo qx xa dx hxa hdx nx
        · cases e6
      · cases e5
    · exact tKX_stop hkw I R e4 (qx _ _ rfl)
  · obtain ⟨a, _, z⟩ := mUp_some e2
    cases z⟩
/-! ### o.m(a, ..) -/
theorem wp_atX {A : Around} {pins : List (Addr × Obj)} {σ : St} {H : Hp} {s : Shared} {Q : VK} {us : List Value} {vs : List V} {sp : Sp} (F : FnX X.prog X.w X.K X.mg X.base k f fd ps sp) (tk : Takes X G.wx) (hr : Room k A) (hgd : A.guards = some []) (e0 : Env0 X.prog X.w X.K X.mg X.base A X.stack s H) (hb : Binds X.K fd ps []) (I : Inv X pins σ H s) (r : Vals vs us) (h : sp vs H Q fun cls d H' => G.wx cls d σ H') :
    wpAny (model X.prog X.w) A (call (.ref f) us) (EP X pins σ Q) X.xe s := by
  have hl : us.length = ps.length := by rw [← r.length]; exact F.len _ _ _ _ h
  refine wpAny_call (codeAny_mono (F.run A X.stack s H ⟨us, []⟩ us vs Q _ hr hgd e0 (by have := hb s us I.kIn (by simpa using hl); simpa using this) r h) fun res s' hq => ?_)
  match res, hq with
  | .ok (.ret u), hq => exact I.after hq
  | .error e, hq => exact tk e s' (XE.of_call I (fun cls d H' z => z) hq)
def xMe (n : Nat) (cs : List Nat) (F : List D → Option (Out D)) (fo : M (Out D)) (fa : M (Out (List D))) : M (Out D) := xBind fo fun d => if isOb cs d = true then xBind fa (fun ds => mLift (if ds.length + 1 = n then F (d :: ds) else none)) else fun _ => none
theorem isOb_obj {d : D} (h : isOb cs d = true) : ∃ c fs, d = .obj c fs ∧ c ∈ cs := by
  cases d with
  | obj c fs => exact ⟨c, fs, rfl, by simpa [isOb] using h⟩
  | _ => simp [isOb] at h
theorem ex_meth {F : List D → Option (Out D)} {pl : Sem Bool} (tk : Takes X G.wx) (ho : EX X G o fo) (hcs : ∀ c ∈ cs, ∃ C, ClsF X.K X.mg c C ∧ Meth X.K C m f ∧ m ∉ clsFlds c) (Fn : FnX X.prog X.w X.K X.mg X.base k f fd ps (spX X.K X.mg ps.length F)) (hr : Room k X.A) (hgd : X.A.guards = some []) (hb : Binds X.K fd ps [])
    (ha : AX X G (e :: es) fa) (hst : starEach (e :: es) X.env = (false, eval e X.env) :: starEach es X.env := by rfl) (hpl : (backTo pos (starEach es X.env)).any (·.1) = false := by rfl)
    (ht : eval (.Call (.Attribute o m apos) (e :: es) [] pos) X.env = (do
      let ov ← eval o X.env
      standAt apos.atName
      let (f, first) ← holding [ov] (getMethod ov m pl)
      callWith pos f first (backTo pos (starEach (e :: es) X.env)) (backToKw pos (keywordEach [] X.env))) := by rfl) : EX X G (.Call (.Attribute o m apos) (e :: es) [] pos) (xMe ps.length cs F fo fa) := ⟨fun pins s σ H Q I q => by
  obtain ⟨O, τ, r, τ', R, e1, q⟩ := q
  rcases xBind_cases e1 with ⟨d, τ1, e2, e3⟩ | ⟨c, ds, e2, rfl⟩
  · split at e3
    case isFalse => cases e3
    rename_i hob
    obtain ⟨c, fs, rfl, hc⟩ := isOb_obj hob
    obtain ⟨C, hF, hm, hn⟩ := hcs c hc
    refine PySem.W.methodCall_KW (pl := pl) (thn (ho.run pins s σ H (fun v H1 => ∃ O1, Le H O H1 O1 ∧ SR X.K X.mg G H1 O1 σ τ1 ∧ Rep X.K X.mg (cut H1 O1) v (.obj c fs)) I ⟨O, τ, _, τ1, R, e2, fun v H1 O1 l1 R1 r1 => ⟨O1, l1, R1, r1⟩⟩) ?_) ht
    rintro u s1 ⟨v, H1, I1, rv, O1, l1, R1, r1⟩
    cases r1 with
    | @obj a C' dx _ xs _ h1 h2 h3 rl =>
      rw [hF.g] at h1; cases h1
      obtain rfl : u = Value.ref a := rv
      refine getmeth_ok I1 (cut_some h2).2 hF.cl hm (lookup_zip_none hn) ?_
      rcases xBind_cases e3 with ⟨ds, τ2, e4, e5⟩ | ⟨c', ds, e4, rfl⟩
      · unfold mLift at e5
        split at e5
        · rename_i z e6
          cases e5
          split at e6
          · rename_i n1
            refine PySem.W.callWith_K (first := [.ref a]) (h₀ := X.base) I.ok.mod.kin hm.kp (thn (ha.run pos pins s1 σ H1 (fun vs H2 => ∃ O2, Le H1 O1 H2 O2 ∧ SR X.K X.mg G H2 O2 σ τ' ∧ RepL X.K X.mg (cut H2 O2) vs ds) I1 ⟨O1, τ1, _, τ', R1, e4, fun vs H2 O2 l2 R2 r2 => ⟨O2, l2, R2, r2⟩⟩) ?_) hst hpl
            rintro us s2 ⟨vs, H2, I2, rv2, O2, l2, R2, r2⟩
            refine ⟨I2.kIn, ?_⟩
            refine wp_atX (us := .ref a :: us) (vs := .ref a :: vs) Fn tk hr hgd I2.env0 hb I2 (.cons rfl rv2) ⟨O2, _, r, by simp [r2.length, n1], R2.live, .cons (Rep.grow l2 (.obj hF.g h2 h3 rl)) r2, e6, ?_⟩
            cases r with
            | ok d => exact fun v H' g' rz => q v H' O2 ((l1.trans l2).trans (Le.grow g')) (R2.grow g') rz
            | ex c es => exact fun cls dd H' g' rz => q cls dd H' O2 ((l1.trans l2).trans (Le.grow g')) (R2.grow g') rz
          · cases e6
        · cases e5
      · exact PySem.W.callWith_K (first := [.ref a]) (h₀ := X.base) I.ok.mod.kin hm.kp (tAX_stop ha I1 R1 e4 (XW.le l1 q)) hst hpl
  · exact PySem.W.methodCall_KW (pl := pl) (tEX_stop (α := Unit) (g := fun _ _ => none) ho I R e2 q) ht⟩
def xMe0 (cs : List Nat) (F : List D → Option (Out D)) (fo : M (Out D)) : M (Out D) := xBind fo fun d => mLift (if isOb cs d = true then F [d] else none)
theorem ex_meth0 {F : List D → Option (Out D)} {pl : Sem Bool} (tk : Takes X G.wx) (ho : EX X G o fo) (hcs : ∀ c ∈ cs, ∃ C, ClsF X.K X.mg c C ∧ Meth X.K C m f ∧ m ∉ clsFlds c) (Fn : FnX X.prog X.w X.K X.mg X.base k f fd ["self"] (spX X.K X.mg 1 F)) (hr : Room k X.A) (hgd : X.A.guards = some []) (hb : Binds X.K fd ["self"] [])
    (ht : eval (.Call (.Attribute o m apos) [] [] pos) X.env = (do
      let ov ← eval o X.env
      standAt apos.atName
      let (f, first) ← holding [ov] (getMethod ov m pl)
      callWith pos f first (backTo pos (starEach [] X.env)) (backToKw pos (keywordEach [] X.env))) := by rfl) : EX X G (.Call (.Attribute o m apos) [] [] pos) (xMe0 cs F fo) := ⟨fun pins s σ H Q I q => by
  obtain ⟨O, τ, r, τ', R, e1, q⟩ := q
  rcases xBind_cases e1 with ⟨d, τ1, e2, e3⟩ | ⟨c, ds, e2, rfl⟩
  · unfold mLift at e3
    split at e3
    case h_2 => cases e3
    rename_i z e4
    cases e3
    split at e4
    case isFalse => cases e4
    rename_i hob
    obtain ⟨c, fs, rfl, hc⟩ := isOb_obj hob
    obtain ⟨C, hF, hm, hn⟩ := hcs c hc
    refine PySem.W.methodCall_KW (pl := pl) (thn (ho.run pins s σ H (fun v H1 => ∃ O1, Le H O H1 O1 ∧ SR X.K X.mg G H1 O1 σ τ' ∧ Rep X.K X.mg (cut H1 O1) v (.obj c fs)) I ⟨O, τ, _, τ', R, e2, fun v H1 O1 l1 R1 r1 => ⟨O1, l1, R1, r1⟩⟩) ?_) ht
    rintro u s1 ⟨v, H1, I1, rv, O1, l1, R1, r1⟩
    cases r1 with
    | @obj a C' dx _ xs _ h1 h2 h3 rl =>
      rw [hF.g] at h1; cases h1
      obtain rfl : u = Value.ref a := rv
      refine getmeth_ok I1 (cut_some h2).2 hF.cl hm (lookup_zip_none hn) ?_
      refine PySem.W.callWith_K0 (first := [.ref a]) I1.kIn hm.kp (wp_atX (us := [.ref a]) (vs := [.ref a]) Fn tk hr hgd I1.env0 hb I1 (.cons rfl .nil) ⟨O1, _, r, rfl, R1.live, .cons (.obj hF.g h2 h3 rl) .nil, e4, ?_⟩)
      cases r with
      | ok d => exact fun v H' g' rz => q v H' O1 (l1.trans (Le.grow g')) (R1.grow g') rz
      | ex c es => exact fun cls dd H' g' rz => q cls dd H' O1 (l1.trans (Le.grow g')) (R1.grow g') rz
  · exact PySem.W.methodCall_KW (pl := pl) (tEX_stop (α := Unit) (g := fun _ _ => none) ho I R e2 q) ht⟩
end
/-! ### statements -/
section
variable {X : Cx} {G : Gx}
def sExprX (f : M (Out D)) : M Fl := mBind f fun r => match r with
  | .ok _ => mPure .nx
  | .ex c ds => mPure (.xc c ds)
theorem ds_exprX {e : Expr} {pos : Pos} {f : M (Out D)} (h : EX X G e f) (hs : swapsWith e none pos.line X.env = pure false := by rfl) : DS X G (.Expr e pos) (sExprX f) := ps_imp (ps_expr h hs) fun N σ H q => by
  obtain ⟨O, τ, fl, τ', R, e, q⟩ := q
  obtain ⟨r, τ1, e1, e2⟩ := mBind_some e
  cases r with
  | ok d => cases e2; exact ⟨O, τ, _, _, R, e1, fun v H' O' l R' r => q σ H' O' l R'⟩
  | ex c ds => cases e2; exact ⟨O, τ, _, _, R, e1, fun cls dd H' O' l R' r => q cls dd σ H' O' l R' r⟩
def sRetX (f : M (Out D)) : M Fl := mBind f fun r => match r with
  | .ok d => mPure (.rt d)
  | .ex c ds => mPure (.xc c ds)
theorem ds_retX {e : Expr} {pos : Pos} {f : M (Out D)} (h : EX X G e f) : DS X G (.Return (some e) pos) (sRetX f) := ps_imp (ps_ret h) fun N σ H q => by
  obtain ⟨O, τ, fl, τ', R, e, q⟩ := q
  obtain ⟨r, τ1, e1, e2⟩ := mBind_some e
  cases r with
  | ok d => cases e2; exact ⟨O, τ, _, _, R, e1, fun v H' O' l R' r => q v σ H' O' l R' r⟩
  | ex c ds => cases e2; exact ⟨O, τ, _, _, R, e1, fun cls dd H' O' l R' r => q cls dd σ H' O' l R' r⟩
def sSetX (i : Nat) (f : M (Out D)) : M Fl := mBind f fun r => match r with
  | .ok d => fun τ => some (.nx, τ.set i (some (.val d)))
  | .ex c ds => mPure (.xc c ds)
theorem ds_setX {x : Str} {e : Expr} {pos pos' : Pos} {f : M (Out D)} (i : Nat) (hN : X.N.Nodup) (hi : X.N[i]? = some x) (hx : Loc X.env.scope x) (h : EX X G e f) (hs : swapsWith e (some (.Name x pos')) pos.line X.env = pure false := by rfl) (hf : X.fn x = true ∨ X.env.scope.names.lookup x = some .local := by first | exact .inl rfl | exact .inr rfl) :
    DS X G (.Assign [.Name x pos'] e pos) (sSetX i f) := ps_imp (ps_set hN hi hx h hs hf) fun N σ H q => by
  obtain ⟨O, τ, fl, τ', R, e, q⟩ := q
  obtain ⟨r, τ1, e1, e2⟩ := mBind_some e
  cases r with
  | ok d => cases e2; exact ⟨O, τ, _, τ1, R, e1, fun v H' O' l R' r => q _ H' O' l (R'.setV r)⟩
  | ex c ds => cases e2; exact ⟨O, τ, _, _, R, e1, fun cls dd H' O' l R' r => q cls dd σ H' O' l R' r⟩
/-! ### raise C(e, ..) -/
/-- what is to be known of an exception class numbered c -/
structure XcF (K : PySem.W.Frag) (mg : Str → Option Value) (c : Nat) (fI : Addr) : Prop where
  g : ∃ C, mg (clsName c) = some (.ref C) ∧ XcC K C ∧ PySem.W.findIn K (.ref C) "__init__" = some (some (.ref fI)) ∧ ∀ f ∈ clsFlds c, PySem.W.findIn K (.ref C) f = some none
  t : PySem.W.typeIn K (.ref fI) = some (.type "function")
def sRaise (c : Nat) (f : M (Out (List D))) : M Fl := mBind f fun r => match r with
  | .ok ds => if (clsFlds c).length = ds.length then mPure (.xc c ds.reverse) else fun _ => none
  | .ex c ds => mPure (.xc c ds)
theorem rev_zip {α β : Type} : ∀ {l : List α} {m : List β}, l.length = m.length → (l.zip m).reverse = l.reverse.zip m.reverse
  | [], [], _ => rfl
  | a :: l, b :: m, h => by
    simp only [List.length_cons, Nat.add_right_cancel_iff] at h
    rw [List.zip_cons_cons, List.reverse_cons, List.reverse_cons, List.reverse_cons, rev_zip h, List.zip_append (by simp [h])]
    rfl
theorem pmk_x {x : Str} {p pos : Pos} {e : Expr} {es : List Expr} {c k : Nat} {fI : Addr} {fd : FuncData} {f : M (Out (List D))} (T : XcF X.K X.mg c fI) (F1 : FnOk X.prog X.w X.K X.mg X.base CX0 k fI fd ("self" :: (clsFlds c).reverse) (spXc X.K (clsFlds c).reverse)) (hr : Room (k + 1) X.A) (hb : Binds X.K fd ("self" :: (clsFlds c).reverse) [])
    (hx : x = clsName c) (hg : Gl X (clsName c)) (ha : AX X G (e :: es) f) (hl : (clsFlds c).length ≤ 1000) (hdb : (x == ("__debug__" : Str)) = false := by decide) (he : starEach (e :: es) X.env = (false, eval e X.env) :: starEach es X.env := by rfl) (hpl : (backTo pos (starEach es X.env)).any (·.1) = false := by rfl) :
    PMk X (.Call (.Name x p) (e :: es) [] pos) (fun σ H Q => ∃ O τ r τ', SR X.K X.mg G H O σ τ ∧ f τ = some (r, τ') ∧ match r with
      | .ok ds => (clsFlds c).length = ds.length ∧ ∀ cls dd H' O', Le H O H' O' → SR X.K X.mg G H' O' σ τ' → RepX X.K X.mg (cut H' O') cls dd c ds.reverse → Q cls dd H'
      | .ex c ds => XW X.K X.mg G σ H O τ' c ds) := by
  intro pins s σ H Q I h
  subst hx
  obtain ⟨C, hm, TC, hi, hno⟩ := T.g
  obtain ⟨O, τ, r, τ', R, e1, q⟩ := h
  refine wpAny_Call_Name_kw (ld_glob I hg hm ?_ hdb)
  cases r with
  | ok ds =>
    obtain ⟨hn, q⟩ := q
    refine PySem.W.callWith_K (h₀ := X.base) I.ok.mod.kin TC.kC (thn (ha.run pos pins s σ H (fun vs H1 => ∃ O1, Le H O H1 O1 ∧ SR X.K X.mg G H1 O1 σ τ' ∧ RepL X.K X.mg (cut H1 O1) vs ds) I ⟨O, τ, _, τ', R, e1, fun vs H1 O1 l1 R1 r1 => ⟨O1, l1, R1, r1⟩⟩) ?_) he hpl
    rintro us s1 ⟨vs, H1, I1, rv, O1, l1, R1, r1⟩
    refine ⟨I1.kIn, ?_⟩
    have hv : vs.length = (clsFlds c).length := r1.length.trans hn.symm
    refine thn (run_newx (fl := (clsFlds c).reverse) TC hi T.t (fun f hf => hno f (List.mem_reverse.mp hf)) F1 hr hb I1 rv (by rw [List.length_reverse]; exact hv) (by rw [List.length_reverse]; exact hl)) fun u s2 h => newx_raise TC I1 h fun d nd => ?_
    have g : Grow H1 (upd H1 d (.xd ((clsFlds c).reverse.zip vs).reverse)) := Grow.new nd
    refine q _ _ _ O1 (l1.trans (Le.grow g)) (R1.grow g) ⟨C, vs.reverse, rfl, hm, ?_, by rw [List.length_reverse]; exact hv.symm, RepL.grow (g.cut O1).w r1.reverse⟩
    show cut _ O1 d = _
    rw [cut_of (R1.live.ne nd) upd_same, rev_zip (by rw [List.length_reverse]; exact hv.symm), List.reverse_reverse]
  | ex c' ds => exact PySem.W.callWith_K (h₀ := X.base) I.ok.mod.kin TC.kC (tAX_stop ha I R e1 q) he hpl
theorem ds_raise {x : Str} {p pos pos' : Pos} {e : Expr} {es : List Expr} {c k : Nat} {fI : Addr} {fd : FuncData} {f : M (Out (List D))} (tk : Takes X G.wx) (hc : X.calm = true) (T : XcF X.K X.mg c fI) (F1 : FnOk X.prog X.w X.K X.mg X.base CX0 k fI fd ("self" :: (clsFlds c).reverse) (spXc X.K (clsFlds c).reverse)) (hr : Room (k + 1) X.A) (hb : Binds X.K fd ("self" :: (clsFlds c).reverse) [])
    (hx : x = clsName c) (hg : Gl X (clsName c)) (ha : AX X G (e :: es) f) (hl : (clsFlds c).length ≤ 1000) (hdb : (x == ("__debug__" : Str)) = false := by decide) (he : starEach (e :: es) X.env = (false, eval e X.env) :: starEach es X.env := by rfl) (hpl : (backTo pos (starEach es X.env)).any (·.1) = false := by rfl) :
    DS X G (.Raise (some (.Call (.Name x p) (e :: es) [] pos)) none pos') (sRaise c f) := ps_imp (ps_raise hc tk (pmk_x T F1 hr hb hx hg ha hl hdb he hpl)) fun N σ H q => by
  obtain ⟨O, τ, fl, τ', R, e, q⟩ := q
  obtain ⟨r, τ1, e1, e2⟩ := mBind_some e
  cases r with
  | ok ds =>
    simp only at e2
    split at e2
    · rename_i hn
      cases e2
      exact ⟨O, τ, _, _, R, e1, hn, fun cls dd H' O' l R' r => q cls dd σ H' O' l R' r⟩
    · cases e2
  | ex c ds => cases e2; exact ⟨O, τ, _, _, R, e1, fun cls dd H' O' l R' r => q cls dd σ H' O' l R' r⟩
end
end Dv
set_option Elab.async false
set_option linter.all false
set_option maxRecDepth 100000
set_option maxHeartbeats 4000000
/-! DX5: attributes of exceptions as values; methods of built-in lists; C(..) as a value -/
namespace Dv
open PySem L2
section
variable {X : Cx} {G : Gx} {o e : Expr} {es : List Expr} {m : Str} {pos apos : Pos} {cs : List Nat}
/-! ### e.f, e an exception -/
def xfldD (cs : List Nat) (m : Str) : D → Option D
  | .exc c ds => if c ∈ cs then ((clsFlds c).zip ds).lookup m else none
  | _ => none
theorem lookup_rep {K : PySem.W.Frag} {mg : Str → Option Value} {H : Hp} {m : Str} {d : D} : ∀ {ns : List Str} {xs : List V} {ds : List D}, RepL K mg H xs ds → (ns.zip ds).lookup m = some d → ∃ v, (ns.zip xs).lookup m = some v ∧ Rep K mg H v d
  | [], _, _, _, h => by simp at h
  | n :: ns, _, _, .nil, h => by simp at h
  | n :: ns, x :: xs, y :: ds, .cons r t, h => by
    rw [List.zip_cons_cons, List.lookup_cons] at h ⊢
    cases e : m == n with
    | true => rw [e] at h; cases h; exact ⟨x, rfl, r⟩
    | false => rw [e] at h; exact lookup_rep t h
theorem de_xfld {fo : M D} (ho : DE X G o fo) (hcs : ∀ c ∈ cs, ∃ C, XcI X.K X.mg c C) (hm : ∀ c ∈ cs, m ∈ clsFlds c) (hb : attributeBase o m X.env (eval o X.env) = eval o X.env := by rfl) : DE X G (.Attribute o m pos) (m1 (xfldD cs m) fo) := ⟨fun pins s σ H Q I q => by
  obtain ⟨O, τ, z, τ', R, e, q⟩ := q
  obtain ⟨a, e1, e2⟩ := m1_some e
  refine attr_of hb (thn (ho.run pins s σ H (fun v H1 => ∃ O1, Le H O H1 O1 ∧ SR X.K X.mg G H1 O1 σ τ' ∧ Rep X.K X.mg (cut H1 O1) v a) I ⟨O, τ, _, τ', R, e1, fun v H1 O1 l1 R1 r1 => ⟨O1, l1, R1, r1⟩⟩) ?_)
  rintro u s1 ⟨v, H1, I1, rv, O1, l1, R1, r1⟩
  cases r1 with
  | @exc ad C dd c xs ds h1 h2 h3 h4 rl =>
    simp only [xfldD] at e2
    split at e2
    · rename_i hc
      obtain ⟨C', F⟩ := hcs c hc
      rw [F.g] at h1; cases h1
      obtain rfl : u = Value.ref ad := rv
      obtain ⟨y, ey, ry⟩ := lookup_rep rl e2
      have h3' : XAt H1 ((clsFlds c).zip xs) dd := h3.growW (Grow.ofCut H1 O1).w
      obtain ⟨ox, od, J, hn, hs⟩ := xco_at I1 (cut_some h2).2 h3'
      cases dd with
      | none =>
        have z : (clsFlds c).zip xs = [] := h3
        rw [z] at ey; cases ey
      | some dd =>
        obtain ⟨o1, mA, rfl, ho1, hns, rel⟩ := hs dd rfl
        obtain ⟨od2, ho2, hl⟩ := lookIn_ns hns
        rw [ho1] at ho2; cases ho2
        obtain ⟨w, hw, rw_⟩ := RelO.some_of (v := y) (o := mA m) (by rw [← ey]; exact rel m)
        exact HandSPX.exc_get I1.kIn J F.ga F.gt F.sb (PySem.W.findObj_own F.hd (F.no m (hm c hc)) rfl (by rw [hl, hw])) (handed_of rw_) ⟨y, H1, I1.tok _, rw_, q y H1 O1 l1 R1 ry⟩
    · cases e2
  | _ => simp [xfldD] at e2⟩
/-! ### methods of built-in types -/
def mBm (t : D → Bool) (g : D → List D → Option D) (fo : M D) (fa : M (List D)) : M D := mBind fo fun d => if t d = true then mBind fa (fun ds => mLift (g d ds)) else fun _ => none
/-- the method's reading, of data -/
def MtD (X : Cx) (id T : String) (t : D → Bool) (g : D → List D → Option D) : Prop := ∃ r, MtR X id r ∧ (∀ H O x d, Rep X.K X.mg (cut H O) x d → t d = true → tyV X.K T x H) ∧ ∀ H O x xs d ds z Q, Live H O → Rep X.K X.mg (cut H O) x d → RepL X.K X.mg (cut H O) xs ds → t d = true → g d ds = some z → (∀ v H', Grow H H' → Rep X.K X.mg (cut H' O) v z → Q v H') → r x xs H Q
theorem de_bm {id T : String} {name : Str} {t : D → Bool} {g : D → List D → Option D} {fo : M D} {fa : M (List D)} (h : MtD X id T t g) (pa : PlainAttrs T) (slot : Slot T name id) (hty : typeOf (.builtin id) = pure (.type "method_descriptor")) (ho : DE X G o fo) (ha : DA X G (e :: es) fa)
    (hbase : attributeBase o name X.env (eval o X.env) = eval o X.env := by rfl)
    (hfew : ((backTo pos (starEach (e :: es) X.env)).all (fun x => !x.1) && (backToKw pos (keywordEach [] X.env)).all (fun x => x.1.isSome) && decide ((e :: es).length + ([] : List Keyword).length + (if ([] : List Keyword).isEmpty then 0 else 1) < 30)) = true := by rfl)
    (hline : (apos.endLine == pos.line) = true := by rfl) (hs : starEach (e :: es) X.env = (false, eval e X.env) :: starEach es X.env := by rfl) (hpl : (backTo pos (starEach es X.env)).any (·.1) = false := by rfl) :
    DE X G (.Call (.Attribute o name apos) (e :: es) [] pos) (mBm t g fo fa) := by
  obtain ⟨r, hr, hT, hv⟩ := h
  exact pe_imp (pe_bm pa slot hty hr ho ha hbase hfew hline hs hpl) fun σ H Q q => by
    obtain ⟨O, τ, z, τ', R, e1, q⟩ := q
    obtain ⟨d, τ1, e2, e3⟩ := mBind_some e1
    split at e3
    · rename_i ht
      obtain ⟨ds, e4, e5⟩ := mL_some e3
      refine ⟨O, τ, d, τ1, R, e2, fun x H1 O1 l1 R1 r1 => ⟨hT H1 O1 x d r1 ht, O1, τ1, ds, τ', R1, e4, fun xs H2 O2 l2 R2 r2 => ?_⟩⟩
      exact hv H2 O2 x xs d ds z Q R2.live (Rep.grow l2 r1) r2 ht e5 fun v H' g' rz => q v H' O2 ((l1.trans l2).trans (Le.grow g')) (R2.grow g') rz
    · cases e3
def isLstD : D → Bool
  | .lst _ => true
  | _ => false
theorem isLst_ty {H : Hp} {O : List Addr} {x : V} {d : D} (r : Rep X.K X.mg (cut H O) x d) (h : isLstD d = true) : tyV X.K "list" x H := by
  cases r with
  | lst hq rl => exact .inl ⟨rfl, _, SqL.of (cut_some hq).2⟩
  | _ => simp [isLstD] at h
/-- xs.count(y), plain items -/
def countD : D → List D → Option D
  | .lst l, [y] => if flatD y = true ∧ l.all flatD = true then some (.int ((l.countP fun z => eqF z y : Nat) : Int)) else none
  | _, _ => none
def rCountF (K : PySem.W.Frag) : V → List V → Hp → VK → Prop := fun x xs H Q => ∃ (a : Addr) (ys : List V) (y : V), x = V.ref a ∧ xs = [y] ∧ SqL K H a ys ∧ flatV y = true ∧ ys.all flatV = true ∧ Q (.int ((ys.countP fun z => eqV z y : Nat) : Int)) H
theorem countP_eqU {y : V} : ∀ {ys : List V} {us : List Value}, Vals ys us → ys.all flatV = true → us.countP (eqU y) = ys.countP fun z => eqV z y
  | _, _, .nil, _ => rfl
  | _ :: _, _ :: _, .cons r t, f => by
    rw [List.all_cons, Bool.and_eq_true] at f
    rw [List.countP_cons, List.countP_cons, countP_eqU t f.2, eqU_of r f.1]
theorem mt_countF : MtR X "list.count" (rCountF X.K) := by
  intro pins s σ H x xs v us Q I rx rxs h
  obtain ⟨a, ys, y, rfl, rfl, hs, fy, fys, q⟩ := h
  cases rx
  cases rxs with
  | cons ry rt =>
    rename_i uy ut
    cases rt
    obtain ⟨its, rv, ⟨⟨cls, dd, data, sl⟩, n, ho, hc, hdn, hd⟩, hlen⟩ := I.list hs
    simp only at hc hd
    subst hc hd
    refine call_meets PySem.F.slot_list_count ⟨_, ho, rfl⟩ PySem.F.entry_list_count (PySem.F.args_list_count_2 _ _) (SeqAt.list_countAt a its.toArray n dd sl uy (eqU y)) ⟨ho, fun u' hu' => mem_eqAt ry fy rv fys u' (by simpa using hu'), ?_⟩
    refine ⟨.int ((ys.countP fun z => eqV z y : Nat) : Int), H, I.tok _, ⟨s.toks, ?_⟩, q⟩
    show Value.int ((its.toArray.toList.countP (eqU y) : Nat) : Int) s.toks = _
    rw [← countP_eqU rv fys]
theorem repL_count {K : PySem.W.Frag} {mg : Str → Option Value} {H : Hp} {v : V} {d : D} (r : Rep K mg H v d) : ∀ {vs : List V} {ds : List D}, RepL K mg H vs ds → vs.countP (fun z => eqV z v) = ds.countP fun z => eqF z d
  | _, _, .nil => rfl
  | _, _, .cons q t => by rw [List.countP_cons, List.countP_cons, repL_count r t, rep_eqF q r]
theorem mtd_count : MtD X "list.count" "list" isLstD countD := ⟨_, mt_countF, fun H O x d r h => isLst_ty r h, fun H O x xs d ds z Q lv rx rxs ht e q => by
  cases rx with
  | lst hq rl =>
    match ds, rxs, e with
    | [y], .cons ry .nil, e =>
      simp only [countD] at e
      split at e
      · rename_i hf
        cases e
        refine ⟨_, _, _, rfl, rfl, SqL.of (cut_some hq).2, by rw [rep_flat ry]; exact hf.1, by rw [repL_flat rl]; exact hf.2, ?_⟩
        rw [repL_count ry rl]
        exact q _ H (Grow.refl _) (.int _)
      · cases e
  | _ => simp [isLstD] at ht⟩
/-- xs.index(y), plain items -/
def indexD : D → List D → Option D
  | .lst l, [y] => if flatD y = true ∧ l.all flatD = true then (l.findIdx? fun z => eqF z y).map fun j => .int (j : Nat) else none
  | _, _ => none
theorem mtd_index : MtD X "list.index" "list" isLstD indexD := ⟨_, mt_index, fun H O x d r h => isLst_ty r h, fun H O x xs d ds z Q lv rx rxs ht e q => by
  cases rx with
  | lst hq rl =>
    match ds, rxs, e with
    | [y], .cons ry .nil, e =>
      simp only [indexD] at e
      split at e
      · rename_i hf
        obtain ⟨j, e1, rfl⟩ := map_some e
        rw [List.findIdx?_eq_some_iff_getElem] at e1
        obtain ⟨hj, h1, h2⟩ := e1
        obtain ⟨w, ew, rw_⟩ := rl.get (List.getElem?_eq_getElem hj)
        refine ⟨_, _, _, j, w, rfl, rfl, SqL.of (cut_some hq).2, by rw [rep_flat ry]; exact hf.1, by rw [repL_flat rl]; exact hf.2, ew, by rw [rep_eqF rw_ ry]; exact h1, fun m z' hm hz => ?_, q _ H (Grow.refl _) (.int _)⟩
        obtain ⟨d', ed, rd⟩ := rl.get' hz
        have hm' := h2 m hm
        rw [List.getElem?_eq_getElem (by omega)] at ed
        cases ed
        rw [rep_eqF rd ry]
        simpa using hm'
      · cases e
  | _ => simp [isLstD] at ht⟩
end
/-! ### C(e, ..), an exception as a value -/
section
variable {X : Cx} {G : Gx}
def mMkX (c : Nat) (f : M (List D)) : M D := mBind f fun ds => mLift (if (clsFlds c).length = ds.length then some (.exc c ds.reverse) else none)
theorem de_mkX {x : Str} {p pos : Pos} {e : Expr} {es : List Expr} {c k : Nat} {fI : Addr} {fd : FuncData} {f : M (List D)} (T : XcF X.K X.mg c fI) (F1 : FnOk X.prog X.w X.K X.mg X.base CX0 k fI fd ("self" :: (clsFlds c).reverse) (spXc X.K (clsFlds c).reverse)) (hr : Room (k + 1) X.A) (hb : Binds X.K fd ("self" :: (clsFlds c).reverse) [])
    (hx : x = clsName c) (hg : Gl X (clsName c)) (ha : DA X G (e :: es) f) (hl : (clsFlds c).length ≤ 1000) (hdb : (x == ("__debug__" : Str)) = false := by decide) (he : starEach (e :: es) X.env = (false, eval e X.env) :: starEach es X.env := by rfl) (hpl : (backTo pos (starEach es X.env)).any (·.1) = false := by rfl) :
    DE X G (.Call (.Name x p) (e :: es) [] pos) (mMkX c f) := ⟨fun pins s σ H Q I q => by
  subst hx
  obtain ⟨C, hm, TC, hi, hno⟩ := T.g
  obtain ⟨O, τ, z, τ', R, e1, q⟩ := q
  obtain ⟨ds, e2, e3⟩ := mL_some e1
  split at e3
  · rename_i hn
    cases e3
    refine wpAny_Call_Name_kw (ld_glob I hg hm ?_ hdb)
    refine PySem.W.callWith_K (h₀ := X.base) I.ok.mod.kin TC.kC (thn (ha.run pos pins s σ H (fun vs H1 => ∃ O1, Le H O H1 O1 ∧ SR X.K X.mg G H1 O1 σ τ' ∧ RepL X.K X.mg (cut H1 O1) vs ds) I ⟨O, τ, _, τ', R, e2, fun vs H1 O1 l1 R1 r1 => ⟨O1, l1, R1, r1⟩⟩) ?_) he hpl
    rintro us s1 ⟨vs, H1, I1, rv, O1, l1, R1, r1⟩
    refine ⟨I1.kIn, ?_⟩
    have hv : vs.length = (clsFlds c).length := r1.length.trans hn.symm
    refine thn (run_newx (fl := (clsFlds c).reverse) TC hi T.t (fun f hf => hno f (List.mem_reverse.mp hf)) F1 hr hb I1 rv (by rw [List.length_reverse]; exact hv) (by rw [List.length_reverse]; exact hl)) fun u s2 h => newx_val h fun a d na nd ne => ?_
    have g1 : Grow H1 (upd H1 d (exd d ((clsFlds c).reverse.zip vs).reverse)) := Grow.new nd
    have na1 : upd H1 d (exd d ((clsFlds c).reverse.zip vs).reverse) a = none := by rw [upd_ne (Ne.symm ne)]; exact na
    have g : Grow H1 (upd (upd H1 d (exd d ((clsFlds c).reverse.zip vs).reverse)) a (xco a C (some d))) := g1.trans (Grow.new na1)
    refine q _ _ O1 (l1.trans (Le.grow g)) (R1.grow g) (.exc (xs := vs.reverse) hm (cut_of (R1.live.ne na) upd_same) ?_ (by rw [List.length_reverse]; exact hv.symm) (RepL.grow (g.cut O1).w r1.reverse))
    refine .inl ?_
    rw [cut_of (R1.live.ne nd) (by rw [upd_ne ne, upd_same]), rev_zip (by rw [List.length_reverse]; exact hv.symm), List.reverse_reverse]
  · cases e3⟩
end
end Dv
set_option Elab.async false
set_option linter.all false
set_option maxRecDepth 100000
set_option maxHeartbeats 4000000
/-! DX6: defs that may run while an exception is handled -/
namespace Dv
open PySem L2
/-- the same without the word on what is handled -/
abbrev Cx.loud (X : Cx) (A : Around) : Cx := { X with A := A, calm := false }
theorem Cx.Ok.loud {X : Cx} {A : Around} (ok : X.Ok) (hf : A.frames = X.A.frames) : (Cx.loud X A).Ok :=
  ⟨ok.mod, ok.kind, ok.glob, ok.blt, ok.above, ok.inj, ok.has, ok.cab, (fun z => absurd (show false = true from z) Bool.false_ne_true), hf.trans ok.frames, ok.stk, ok.exf, ok.bs, ok.bsz, ok.noex, ok.exfs, ok.funs, ok.frf⟩
theorem Inv.loud {X : Cx} {A : Around} {pins : List (Addr × Obj)} {σ : St} {H : Hp} {s : Shared} (I : Inv X pins σ H s) (hf : A.frames = X.A.frames) : Inv (Cx.loud X A) pins σ H s :=
  ⟨Cx.Ok.loud I.ok hf, I.os, I.bare, I.base, I.loc, I.cell, I.free, I.freeC, I.pin, I.hok, I.len⟩
structure FnN (P : Program) (w : World) (K : PySem.W.Frag) (mg : Str → Option Value) (base : Heap) (k : Nat) (f : Addr) (fd : FuncData) (ps : List Str) (sp : Sp) : Prop where
  len : ∀ vs H Q E, sp vs H Q E → vs.length = ps.length
  run : ∀ (A : Around) (outer : List Env) (s : Shared) (H : Hp) (args : Args) (us : List Value) (vs : List V) (Q : VK) (E : XK), RoomN k A → A.guards = some [] → Env0 P w K mg base A outer s H → BindsTo s fd args (ps.zip us) → Vals vs us → sp vs H Q E →
    codeAny (model P w) A (.call (.ref f) args) (CR CX0 outer P w H s Q E) s
section
variable {P : Program} {w : World} {K : PySem.W.Frag} {mg : Str → Option Value} {base : Heap} {x qual : Str} {params : Arguments} {body : List Stmt} {scope : Scope} {dvs : List V} {kws : List (Str × V)} {f : Addr} {fd : FuncData} {N ps : List Str} {k : Nat} {m : M Fl}
theorem FnN.mono {j k : Nat} {sp : Sp} (F : FnN P w K mg base j f fd ps sp) (h : j ≤ k) : FnN P w K mg base k f fd ps sp := ⟨F.len, fun A outer s H args us vs Q E hr => F.run A outer s H args us vs Q E (hr.mono h)⟩
theorem FnN.g {k : Nat} {sp : Sp} (F : FnN P w K mg base k f fd ps sp) : FnG P w K mg base k f fd ps sp := ⟨F.len, fun A outer s H args us vs Q E hr => F.run A outer s H args us vs Q E (roomN hr)⟩
abbrev cxN (P : Program) (w : World) (K : PySem.W.Frag) (mg : Str → Option Value) (base : Heap) (N : List Str) (qual : Str) (scope : Scope) (f : Addr) (cdv : Value) (A : Around) (outer : List Env) (s : Shared) (H : Hp) (E : XK) : Cx := { (cxOf CX0 P w K mg base N qual scope f cdv A outer s H E).nox with calm := false }
abbrev BodyN (P : Program) (w : World) (K : PySem.W.Frag) (mg : Str → Option Value) (base : Heap) (N : List Str) (qual : Str) (scope : Scope) (f : Addr) (k : Nat) (body : List Stmt) (m : M Fl) : Prop :=
  ∀ (cdv : Value) (A : Around) (outer : List Env) (s : Shared) (H : Hp) (E : XK), RoomN k (cxN P w K mg base N qual scope f cdv A outer s H E).A → (cxN P w K mg base N qual scope f cdv A outer s H E).A.guards = some [] → ∀ G, DSs (cxN P w K mg base N qual scope f cdv A outer s H E) G body m
theorem fnN (F : FunD K x qual params body scope dvs kws f fd) (S : FnScope N ps scope) (hb : BodyN P w K mg base N qual scope f k body m) : FnN P w K mg base (k + 1) f fd ps (spD K mg ps.length (runD N.length m)) := by
  have hpl : ps.length ≤ N.length := by have := congrArg List.length S.pre; rw [List.length_take] at this; omega
  obtain ⟨oc, od, dV, kV, doc, pm, an, cdv, ct, osl, rfl, lk, hcd, _, _⟩ := F.ex
  have len : ∀ vs H Q E, spD K mg ps.length (runD N.length m) vs H Q E → vs.length = ps.length := fun vs H Q E h => by
    obtain ⟨O, ds, d, h1, _⟩ := h; exact h1
  refine ⟨len, ?_⟩
  intro A outer s H args us vs Q E hr hgd e0 hbd r hsp
  have hIn : K.In s.heap := e0.mod.kin.keeps fun b o e => (e0.bs b o e).1
  have hLim : s.heap.NoLimit := e0.mod.nolimit.keeps fun b o e => (e0.bs b o e).1
  refine codeAny_call_function hr.depth (hIn _ _ lk) rfl S.co S.gen rfl (PySem.W.codeRec_of hIn hcd) (hbd _ _ _ _ ?_)
  refine wpAny_newFunctionEnv_cells S.kind ?_ ?_
  · rintro ⟨n, v⟩ hy
    rcases S.par n (List.of_mem_zip hy).1 with q | q
    · exact .inl q
    · exact .inr ⟨q, PySem.W.cellsFrom_some _ _ _ (.inl q)⟩
  · rintro env rfl s1 ic
    refine ⟨hLim.keeps ic.toInCall.keep, codeAny_func ?_⟩
    have e1 : Env0 P w K mg base { A with handled := none } outer s H := ⟨e0.frames, e0.mod, e0.bs, e0.bsz, e0.funs, e0.frf, e0.hok, e0.bare⟩
    have inv0 := inv_start (CX := CX0) (E := E) S (rfl : ({ A with handled := none } : Around).handled = none) e1 (len _ _ _ _ hsp) r ic
    have inv1 : Inv (cxN P w K mg base N qual scope f cdv A outer s H E) [] (L2.start N vs) H s1 := ⟨⟨inv0.ok.mod, inv0.ok.kind, inv0.ok.glob, inv0.ok.blt, inv0.ok.above, inv0.ok.inj, inv0.ok.has, inv0.ok.cab, (fun z => absurd (show false = true from z) Bool.false_ne_true), inv0.ok.frames, inv0.ok.stk, inv0.ok.exf, inv0.ok.bs, inv0.ok.bsz, inv0.ok.noex, inv0.ok.exfs, inv0.ok.funs, inv0.ok.frf⟩, inv0.os, inv0.bare, inv0.base, inv0.loc, inv0.cell, inv0.free, inv0.freeC, inv0.pin, inv0.hok, inv0.len⟩
    obtain ⟨O, ds, d, h1, lv, rd, e, q⟩ := hsp
    have ht := hb cdv A outer s H E (hr.deeper _) hgd (gx H [] O none)
    have R := SR.start (N := N) lv rd (by omega)
    have hq : tDS K mg (gx H [] O none) m { nx := fun _ H' => Q .non H', rt := Q } (L2.start N vs) H := by
      unfold runD at e
      cases e1 : m (start0 N.length ds) with
      | none => rw [e1] at e; cases e
      | some pr =>
        obtain ⟨fl, τ'⟩ := pr
        rw [e1] at e
        refine ⟨O, start0 N.length ds, fl, τ', R, e1, ?_⟩
        have gr : ∀ {σ' : St} {H' : Hp} {O' : List Addr}, SR K mg (gx H [] O none) H' O' σ' τ' → Grow H H' := fun R' a o h => R'.keep a o h (by simp) (.inl rfl)
        cases fl with
        | nx => cases e; exact fun σ' H' O' l R' => q _ _ (gr R') .non
        | rt d' => cases e; exact fun v σ' H' O' l R' r' => q _ _ (gr R') (Rep.grow (Grow.less R'.base).w r')
        | rf d' => cases e; exact fun p xs σ' H' O' l hp R' r' => q _ _ (gr (R'.grow (Grow.new hp))) (Rep.grow (Grow.less R'.base).w (new_list R'.live hp r'))
        | _ => cases e
    refine wpAny_mono (ht.run [] s1 (L2.start N vs) H _ inv1 hq) ?_ fun _ _ z => False.elim z
    intro fl s' hs
    cases fl with
    | ret u => obtain ⟨v, σ', H', J, rv, q⟩ := hs; exact ⟨v, H', J.os, J.bare, J.base, J.hok, rv, q⟩
    | next => obtain ⟨σ', H', J, q⟩ := hs; exact ⟨.non, H', J.os, J.bare, J.base, J.hok, rfl, q⟩
    | brk => obtain ⟨_, _, _, q⟩ := hs; exact q.elim
    | cont => obtain ⟨_, _, _, q⟩ := hs; exact q.elim
end
/-! ### f(a, ..) there -/
section
variable {X : Cx} {G : Gx} {k n : Nat} {f : Addr} {fd : FuncData} {ps : List Str} {x : Str} {p pos : Pos} {e : Expr} {es : List Expr} {fa : M (List D)}
theorem de_callN {F : List D → Option D} (Fn : FnN X.prog X.w X.K X.mg X.base k f fd ps (spD X.K X.mg ps.length F)) (hr : RoomN k X.A) (hgd : X.A.guards = some []) (hg : Gl X x) (hm : X.mg x = some (.ref f)) (hk : PySem.W.keepIn X.K (.ref f) = true) (hb : Binds X.K fd ps [])
    (ha : DA X G (e :: es) fa) (hdb : (x == ("__debug__" : Str)) = false := by decide) (he : starEach (e :: es) X.env = (false, eval e X.env) :: starEach es X.env := by rfl) (hpl : (backTo pos (starEach es X.env)).any (·.1) = false := by rfl) :
    DE X G (.Call (.Name x p) (e :: es) [] pos) (mFn ps.length 0 (fun ds _ => ds) F fa aNil) := ⟨fun pins s σ H Q I q => by
  obtain ⟨O, τ, d, τ', R, e1, q⟩ := q
  obtain ⟨ds, es', τ1, e2, e3, n1, n2, e4⟩ := mFn_some e1
  cases e3
  refine wpAny_Call_Name_kw (ld_glob I hg hm ?_ hdb)
  refine PySem.W.callWith_K (h₀ := X.base) I.ok.mod.kin hk (thn (ha.run pos pins s σ H (fun vs H1 => ∃ O1, Le H O H1 O1 ∧ SR X.K X.mg G H1 O1 σ τ' ∧ RepL X.K X.mg (cut H1 O1) vs ds) I ⟨O, τ, ds, τ', R, e2, fun vs H1 O1 l1 R1 r1 => ⟨O1, l1, R1, r1⟩⟩) ?_) he hpl
  rintro us s1 ⟨vs, H1, I1, rv, O1, l1, R1, r1⟩
  refine ⟨I1.kIn, ?_⟩
  have lu : us.length = ps.length := rv.length.symm.trans (r1.length.trans n1)
  have b := hb s1 us I1.kIn (by simpa using lu)
  rw [List.append_nil] at b
  refine wpAny_call (codeAny_mono (Fn.run X.A X.stack s1 H1 ⟨us, []⟩ us vs Q E0 hr hgd I1.env0 b rv ⟨O1, ds, d, r1.length.trans n1, R1.live, r1, e4, fun v H' g r => q v H' O1 (l1.trans (Le.grow g)) (R1.grow g) r⟩) fun res s' hq => ?_)
  match res, hq with
  | .ok (.ret u), hq => exact I1.after hq⟩
end
end Dv
set_option Elab.async false
set_option linter.all false
set_option maxRecDepth 100000
set_option maxHeartbeats 4000000
/-! DX7: try: .. / except (A, B, C) as e: .., the exception being data in the suite -/
namespace Dv
open PySem PySem.Spec PyProof.Rows L2
/-- what was in flight stands as an object -/
def trackX (H : Hp) (a : Addr) (cls : Value) (d : Option Addr) : Hp := match cls with
  | .ref C => upd H a (xco a C d)
  | _ => H
/-- the suite's context -/
abbrev Cx.heard (X : Cx) (a : Addr) (pn : List (Addr × Obj)) : Cx := { X with A := X.A.mark (some (.ref a)), calm := false, pn := pn, xe := fun _ _ => False }
section
variable {X : Cx} {pins : List (Addr × Obj)} {σ : L2.St} {H : Hp} {s : Shared}
theorem Cx.Ok.heard (ok : X.Ok) (a : Addr) (pn : List (Addr × Obj)) : (Cx.heard X a pn).Ok :=
  ⟨ok.mod, ok.kind, ok.glob, ok.blt, ok.above, ok.inj, ok.has, ok.cab, (fun z => absurd (show false = true from z) Bool.false_ne_true), ok.frames, ok.stk, ok.exf, ok.bs, ok.bsz, ok.noex, ok.exfs, ok.funs, ok.frf⟩
theorem Inv.heard (I : Inv X pins σ H s) (a : Addr) : Inv (Cx.heard X a (X.pn ++ pins)) [] σ H s :=
  ⟨Cx.Ok.heard I.ok _ _, I.os, I.bare, I.base, I.loc, I.cell, I.free, I.freeC, fun p hp => I.pin p (by rw [List.append_nil] at hp; exact hp), I.hok, I.len⟩
theorem Inv.unheard {a : Addr} {pn' : List (Addr × Obj)} (I : Inv (Cx.heard X a (X.pn ++ pins)) pn' σ H s) (ok : X.Ok) : Inv X pins σ H s :=
  ⟨ok, I.os, I.bare, I.base, I.loc, I.cell, I.free, I.freeC, fun p hp => I.pin p (List.mem_append_left _ hp), I.hok, I.len⟩
/-- from the air to the ground -/
theorem Inv.tracked {a : Addr} {oe : Obj} {vs : Array Value} {cls : Value} {d : Option Addr} {C : Addr} (I : Inv X pins σ H s) (hex : X.ex = []) (ha : s.heap.get? a = some oe) (hz : Zc cls d oe) (hd : oe.data = .fields vs) (hc : cls = .ref C) (na : H a = none)
    (nL : a ≠ X.env.locals) (h0 : X.s_0.heap.get? a = none) (hp : ∀ p ∈ X.pn ++ pins, p.1 ≠ a) : Inv X pins σ (trackX H a cls d) s := by
  subst hc
  have noA : ∀ {b : Addr} {o : HO}, H b = some o → b ≠ a := fun h => ne_of_none h na
  have objA : ∀ (H2 : Hp), ObjOk X.prog X.w H2 s.heap a (xco a C d) := fun H2 => by
    obtain ⟨oc, od, oda, osl⟩ := oe
    obtain ⟨h1, h2⟩ := hz
    dsimp only at h1 h2 hd
    subst h1 h2 hd
    exact ⟨⟨vs, osl, ha⟩, ⟨_, ha⟩, fun h1 h2 ⟨v, sl, z⟩ k => ⟨v, sl, k _ z⟩⟩
  have cellA : ∀ x c, X.env.cells.lookup x = some c → c ≠ a := fun x c e z => by
    obtain ⟨v, o, ho, hdd⟩ := I.cell x c e
    rw [z, ha] at ho; cases ho
    rw [hd] at hdd; cases hdd
  have nex : ∀ b, b ∉ X.ex := fun b hb => by rw [hex] at hb; cases hb
  show Inv X pins σ (upd H a (xco a C d)) s
  have k1 : ∀ b, b ≠ a → H b = none → upd H a (xco a C d) b = none := fun b nb e => by rw [upd_ne nb]; exact e
  have k2 : ∀ b o, H b = some o → upd H a (xco a C d) b = some o := fun b o e => by rw [upd_ne (noA e)]; exact e
  refine ⟨I.ok, I.os, I.bare, ⟨I.base.keep, I.base.slot, fun b o e n hx => k1 b (fun z => by rw [z, h0] at e; cases e) (I.base.free b o e n hx), I.base.there, fun b xs e => k2 b _ (I.base.tups b xs e), fun b o u e => k2 b _ (I.base.frzs b o u e), fun b ps e => by
      obtain ⟨more, q⟩ := I.base.tbls b ps e
      exact ⟨more, k2 b _ q⟩⟩, I.loc, I.cell, k1 _ (Ne.symm nL) I.free, fun x c e => k1 c (cellA x c e) (I.freeC x c e), fun p hpp => by
      obtain ⟨e1, e2, e3⟩ := I.pin p hpp
      exact ⟨e1, k1 _ (hp p hpp) e2, e3⟩, fun b o e => ?_, I.len⟩
  by_cases hb : b = a
  · subst hb
    rw [upd_same] at e; cases e
    exact objA _
  · rw [upd_ne hb] at e
    exact (I.hok b o e).stay (fun _ _ _ z => z) (fun c z => k2 c _ z) fun c xs z => k2 c _ z
end
/-- what the clause wishes of an exception of the body -/
def wHear (K : PySem.W.Frag) (cs : List Value) (i : Nat) (ts : Addr → TS) (Wout : WX) (D : Ends) : WX := fun cls d σ H => ∃ b, PySem.W.exmAny K cls cs = some b ∧
  (b = true → ∃ C, cls = .ref C ∧ ∀ a, H a = none → ts a { nx := fun σ' H' => D.nx (σ'.set i none) H', rt := D.rt, bk := fun σ' H' => D.bk (σ'.set i none) H', ct := fun σ' H' => D.ct (σ'.set i none) H' } (σ.set i (some (.ref a))) (trackX H a cls d)) ∧ (b = false → Wout cls d σ H)
theorem flying_push {B h : Heap} {l : List Env} {a : Addr} {Z : Obj → Prop} {o : Obj} (x : HandSPX.FlyingZ B l a Z h) : HandSPX.FlyingZ B l a Z (h.push o) := by
  obtain ⟨f1, f2, f3, oe, vs, T, oT, ts, e1, e2, e3, e4, e5, e6, e7, e8, e9⟩ := x
  have k : ∀ b o', h.get? b = some o' → (h.push o).get? b = some o' := fun b o' e => Heap.get?_push_of_some _ e
  exact ⟨fun b o' e => k b o' (f1 b o' e), f2, Heap.FunFrames.of_keeps (fun b o' e _ => ⟨o', k b o' e, rfl⟩) f3, oe, vs, T, oT, ts, k _ _ e1, e2, e3, e4, e5, e6, k _ _ e7, e8, e9⟩
section
variable {X : Cx} {x1 x2 x3 n : Str} {c1 c2 c3 : Value} {i : Nat} {body suite : List Stmt} {b0 : Stmt} {p1 p2 p3 tp pos pos2 : Pos} {kt} {tb : WX → TS} {ts : Addr → TS} {Wout : WX}
theorem ps_hear (hs : X.stack = X.env :: X.outer) (hf : X.env.frame = some X.env.locals) (hex : X.ex = []) (hN : X.N.Nodup) (hi : X.N[i]? = some n) (hln : X.env.kindOf n = some .local) (hc1 : Names X x1 c1) (hc2 : Names X x2 c2) (hc3 : Names X x3 c3) (tk : Takes X Wout)
    (hb : ∀ (W : WX) (pn : List (Addr × Obj)) (xe : Value → Shared → Prop), Takes (X.tr pn xe) W → PassesOwn (model X.prog X.w) X.A X.env xe → PSs (X.tr pn xe) body (tb W))
    (hsu : ∀ (a : Addr) (pn : List (Addr × Obj)), PSs (Cx.heard X a pn) (b0 :: suite) (ts a)) :
    PS X (.Try body [.ExceptHandler (some (.Tuple [.Name x1 p1, .Name x2 p2, .Name x3 p3] kt tp)) (some n) (b0 :: suite) pos2] [] [] pos) (fun D σ H => tb (wHear X.K [c1, c2, c3] i ts Wout D) D σ H) := by
  refine ⟨fun pins s σ H D I h => ?_⟩
  have ok := I.ok
  have hfr : X.A.frames = some (X.env :: X.outer) := by rw [ok.frames, hs]
  refine wpAny_Try_except ?_
  refine wpAny_mono ((hb (wHear X.K [c1, c2, c3] i ts Wout D) (X.pn ++ pins) (fun e s1 => wpAny (model X.prog X.w) X.A (noteFrame e X.env) (fun _ s2 => wpAny (model X.prog X.w) X.A (setFlight e none) (fun _ s3 =>
    wpAny (model X.prog X.w) X.A (handleBy e X.env [.ExceptHandler (some (.Tuple [.Name x1 p1, .Name x2 p2, .Name x3 p3] kt tp)) (some n) (b0 :: suite) pos2]) (SP X pins D) X.xe s3) X.xe s2) X.xe s1) (fun u s' xx => ?_) PassesOwn.looking).run [] s σ H D (I.toTry _) h) (fun f s1 hsp => ?_) (fun e s1 he => he)
  · obtain ⟨a, B, sI, pins', σ', H', cls, d, rfl, J', nb, up, sky, na, os, ag, b, hb1, hyes, hno⟩ := xx
    have J : Inv X pins σ' H' sI := J'.ofTry ok
    have sky' : Sky B (X.env :: X.outer) a (Zc cls d) X.env.locals s'.heap := by rw [← hs]; exact sky
    refine Sky.land Zc.steady hfr hf sky' fun h3 fl3 up3 => ?_
    have J3 : Inv X pins σ' H' { s' with heap := h3 } := J.landed nb fl3.1 (up.trans up3) os ag
    obtain ⟨oe3, vs3, he3, hz3, hd3⟩ := fl3.there
    have nfr : a ∉ frs (X.env :: X.outer) := fun hm => by
      obtain ⟨_, o', e', hnf⟩ := fl3.2.2.1.mem hm
      rw [he3] at e'; cases e'
      exact hnf _ hd3
    have nL : a ≠ X.env.locals := fun z => nfr (List.mem_filterMap.mpr ⟨X.env, List.mem_cons_self, by rw [hf, z]⟩)
    have nI : sI.heap.get? a = none := by
      cases q : sI.heap.get? a with
      | none => rfl
      | some o =>
        have z := nb a o q (by rw [hs]; exact nfr)
        rw [fl3.2.1] at z; cases z
    have n0 : X.s_0.heap.get? a = none := by
      cases q : X.s_0.heap.get? a with
      | none => rfl
      | some o =>
        obtain ⟨o', z⟩ := J.base.there a o q (by rw [hex]; exact fun z => nomatch z)
        rw [nI] at z; cases z
    have nP : ∀ p ∈ X.pn ++ pins, p.1 ≠ a := fun p hp z => by
      have e := (J.pin p hp).1
      rw [z, nI] at e; cases e
    refine wpAny_handleBy_cons (codeAny_handlers_test ?_) (by intro q; cases q)
    have S3 := Inv.heard J3 a
    have name : ∀ {x : Str} {c : Value} {p : Pos} {Q : Value → Shared → Prop} {E : Value → Shared → Prop}, Names X x c → Q c { s' with heap := h3 } → wpAny (model X.prog X.w) (X.A.mark (some (.ref a))) (eval (.Name x p) X.env) Q E { s' with heap := h3 } := fun {x c p Q E} hc q => by
      obtain ⟨hg, hdbg, hm | ⟨hm, hv, hnn⟩⟩ := hc
      · exact ld_glob (X := Cx.heard X a (X.pn ++ pins)) S3 hg hm q hdbg
      · exact ld_blt (X := Cx.heard X a (X.pn ++ pins)) S3 hg hm hv q hnn hdbg
    refine wpAny_Tuple_spliced ?_
    show wpAny _ _ (spliced ((false, eval (.Name x1 p1) X.env) :: backTo tp (starEach [.Name x2 p2, .Name x3 p3] X.env))) _ _ _
    refine Calls.spliced_cons (name hc1 ?_)
    show wpAny _ _ (spliced ((false, eval (.Name x2 p2) X.env) :: backTo tp (starEach [.Name x3 p3] X.env))) _ _ _
    refine Calls.spliced_cons (name hc2 ?_)
    show wpAny _ _ (spliced ((false, eval (.Name x3 p3) X.env) :: backTo tp (starEach [] X.env))) _ _ _
    refine Calls.spliced_cons (name hc3 (Calls.spliced_nil ⟨by rw [sizeLine_eq]; simp, ?_⟩))
    have fl3' := flying_push (o := { cls := .type "tuple", data := .seq [c1, c2, c3].toArray }) fl3
    have kp : ∀ b o, h3.get? b = some o → (h3.push { cls := .type "tuple", data := .seq [c1, c2, c3].toArray }).get? b = some o := fun b o e => Heap.get?_push_of_some _ e
    have LT : PySem.W.Looks (model X.prog X.w) (h3.push { cls := .type "tuple", data := .seq [c1, c2, c3].toArray }) (typeOf (.ref a)) cls := fun A Q E s k q => wpAny_typeOf_ref (k _ _ (kp _ _ he3)) (by rw [hz3.1]; exact q)
    have LM := PySem.W.exm_tup3 (M := model X.prog X.w) (J3.kIn.keeps kp) LT (Heap.get?_push_size _ rfl) hb1
    refine LM.here ?_
    cases b with
    | true =>
      obtain ⟨C, ec, hsuite⟩ := hyes rfl
      refine codeAny_handlers_suite_as ?_
      refine HandSPX.lands_againZ fl3' fun h4 fl4 up4 => ?_
      have up34 : h3.UpToSlots h4 := (Heap.UpToSlots.of_keeps kp).trans up4
      have J4 : Inv X pins σ' H' { s' with heap := h4 } := J.landed nb fl4.1 ((up.trans up3).trans up34) os ag
      obtain ⟨oe4, vs4, he4, hz4, hd4⟩ := fl4.there
      have J5 := Inv.tracked J4 hex he4 hz4 hd4 ec na nL n0 nP
      have S5 := Inv.heard J5 a
      refine store_ok (X := Cx.heard X a (X.pn ++ pins)) (v := .ref a) S5 hN hi (.inl hln) rfl (fun s5 S6 => ?_) (.inr hln)
      refine wpAny_mono ((hsu a (X.pn ++ pins)).run [] s5 _ _ _ S6 (hsuite a na)) (fun f s6 hsp => ?_) (fun _ _ z => False.elim z)
      have end_ : ∀ {σ6 : L2.St} {H6 : Hp} {Q : Shared → Prop}, Inv (Cx.heard X a (X.pn ++ pins)) [] σ6 H6 s6 → (∀ s7, Inv X pins (σ6.set i none) H6 s7 → Q s7) →
          wpAny (model X.prog X.w) X.A (do bindName X.env n .none; unbindBehindTheSuite X.env n pos2) (fun _ s7 => Q s7) X.xe s6 := fun {σ6 H6 Q} S7 hq => gone_ok (Inv.unheard S7 ok) hN hi hln hq
      cases f with
      | next => obtain ⟨σ6, H6, S7, q6⟩ := hsp; exact end_ S7 fun s7 J7 => ⟨_, _, J7, q6⟩
      | brk => obtain ⟨σ6, H6, S7, q6⟩ := hsp; exact end_ S7 fun s7 J7 => ⟨_, _, J7, q6⟩
      | cont => obtain ⟨σ6, H6, S7, q6⟩ := hsp; exact end_ S7 fun s7 J7 => ⟨_, _, J7, q6⟩
      | ret u => obtain ⟨v6, σ6, H6, S7, r6, q6⟩ := hsp; exact end_ S7 fun s7 J7 => ⟨_, _, _, J7, r6, q6⟩
    | false =>
      show wpAny _ X.A (handleBy (.ref a) X.env []) _ _ _
      refine wpAny_handleBy_nil ?_
      obtain ⟨k1, k2, k3, oe, vs, T, oT, ts', he, hz, hd, h1, hr⟩ := id fl3'
      unfold PySem.passOn
      refine wpAny_bind (wpAny_field he hd h1 ?_)
      rw [if_neg (show ¬ ((Value.ref T == Value.none) = true) from by simp)]
      have fin : wpAny (model X.prog X.w) X.A (setFlight (.ref a) X.env.frame) (fun _ s4 => wpAny (model X.prog X.w) X.A (throw (.ref a) : Sem Flow) (SP X pins D) X.xe s4) X.xe { s' with heap := h3.push { cls := .type "tuple", data := .seq [c1, c2, c3].toArray } } := by
        rw [hf]
        refine HandSPX.setFlight_upZ fl3' fun h4 hh4 up4 => wpAny_throw (tk _ _ ?_)
        exact ⟨a, B, sI, pins, σ', H', cls, d, rfl, J, nb, (up.trans up3).trans ((Heap.UpToSlots.of_keeps kp).trans up4), .inr (.inr (by rw [hs]; exact hh4)), na, os, ag, hno rfl⟩
      first
        | exact wpAny_bind (wpAny_pure (wpAny_bind fin))
        | exact wpAny_bind fin
  · cases f with
    | next => obtain ⟨σ', H', J', q⟩ := hsp; exact wpAny_execs_nil ⟨σ', H', J'.ofTry ok, q⟩
    | brk => obtain ⟨σ', H', J', q⟩ := hsp; exact ⟨σ', H', J'.ofTry ok, q⟩
    | cont => obtain ⟨σ', H', J', q⟩ := hsp; exact ⟨σ', H', J'.ofTry ok, q⟩
    | ret u => obtain ⟨v, σ', H', J', r, q⟩ := hsp; exact ⟨v, σ', H', J'.ofTry ok, r, q⟩
end
end Dv
set_option Elab.async false
set_option linter.all false
set_option maxRecDepth 100000
set_option maxHeartbeats 4000000
/-! DX8: x(lambda: body), x a def that tries what it got and tells how it ended -/
namespace Dv
open PySem PySem.Spec PyProof.Rows L2 LamX
section
variable {K : PySem.W.Frag} {mg : Str → Option Value} {G : Gx} {H H' : Hp} {O : List Addr} {σ : L2.St} {τ : Sd}
theorem extN_w (e : ExtN H H') : GrowW H H' := fun a o h t => e a o h fun ps z => by subst z; cases t
/-- tables have grown -/
theorem SR.extN (R : SR K mg G H O σ τ) (hT : G.T ≠ []) (e : ExtN H H') (t : Tabs G.T H') : SR K mg G H' O σ τ := by
  have g := (extN_w e).cut O
  refine ⟨R.len, fun a o h n c => ?_, t, R.base, R.own0, fun p z => ?_, fun i s h => ?_, R.inj, R.pin⟩
  · rcases c with c | c
    · exact absurd c hT
    · exact extN_w e a o (R.keep a o h n (.inr c)) c
  · rcases R.live p z with ⟨xs, q⟩ | ⟨C, dx, fs, q⟩
    · exact .inl ⟨xs, extN_w e _ _ q rfl⟩
    · exact .inr ⟨C, dx, fs, extN_w e _ _ q rfl⟩
  · obtain ⟨v, ev, ok⟩ := R.slot i s h
    refine ⟨v, ev, ?_⟩
    cases s with
    | val d => exact Rep.grow g ok
    | own l => obtain ⟨p, xs, e1, h1, h2, h3, h4, h5⟩ := ok; exact ⟨p, xs, e1, h1, h2, h3, extN_w e _ _ h4 rfl, RepL.grow g h5⟩
    | ob c ns ds => obtain ⟨p, C, dx, xs, e1, h1, h2, h3, h4, h5, h6, h7⟩ := ok; exact ⟨p, C, dx, xs, e1, h1, h2, h3, h4, extN_w e _ _ h5 rfl, h6, RepL.grow g h7⟩
/-- slots that hold data alone -/
theorem SR.vals (lv : Live H O) (hl : σ.length = τ.length) (hv : ∀ (i : Nat) (s : Sl), τ[i]? = some (some s) → ∃ d v, s = Sl.val d ∧ σ[i]? = some (some v) ∧ Rep K mg (cut H O) v d) : SR K mg (gx H [] O none) H O σ τ where
  len := hl
  keep := fun a o h _ _ => h
  tab := fun _ z => absurd z (by simp)
  base := fun _ z => z
  own0 := fun _ z => .inl z
  live := lv
  slot := fun i s h => by
    obtain ⟨d, v, rfl, e, r⟩ := hv i s h
    exact ⟨v, e, r⟩
  inj := fun i j s t v h1 o1 _ _ _ _ => by
    obtain ⟨d, v, rfl, e, r⟩ := hv i s h1
    cases o1
  pin := fun p s hp => by cases hp
theorem SR.one {n i : Nat} {v : V} {d : D} (lv : Live H O) (hn : σ.length = n) (hi : i < n) (r : Rep K mg (cut H O) v d) : SR K mg (gx H [] O none) H O (σ.set i (some v)) ((List.replicate n none).set i (some (.val d))) := by
  refine SR.vals lv (by simp [hn]) fun j s h => ?_
  by_cases e : i = j
  · subst e
    rw [List.getElem?_set_self (by simpa using hi)] at h
    cases h
    exact ⟨d, v, rfl, List.getElem?_set_self (by rw [hn]; exact hi), r⟩
  · rw [List.getElem?_set_ne e, List.getElem?_replicate] at h
    split at h <;> cases h
end
theorem pss_any {X : Cx} {st : List Stmt} {m : M Fl} (h : ∀ G, DSs X G st m) : PSs X st (fun D σ H => ∃ G, tDS X.K X.mg G m D σ H) := ⟨fun pins s σ H D I ⟨G, q⟩ => (h G).run pins s σ H D I q⟩
section
variable {X : Cx} {pins : List (Addr × Obj)} {σ : L2.St} {H : Hp} {s : Shared}
abbrev actCx (X : Cx) (Ng : List Str) (qg : Str) (sg : Scope) (g : Addr) (cdg : Value) (s : Shared) (H : Hp) : Cx := (cxOf C8.CX0 X.prog X.w X.K X.mg X.base Ng qg sg g cdg X.A X.stack s H C8.E0).nox
/-- what a lambda's body is read as, wherever it is called -/
abbrev LamB (X : Cx) (k : Nat) (scope : Scope) (body : Expr) (fx : M (Out D)) : Prop := ∀ (A : Around) (outer : List Env) (s : Shared) (H : Hp) (E : XK) (f c' : Addr), Room k (lamCx X A outer s H E scope f c').A → (lamCx X A outer s H E scope f c').A.guards = some [] → ∀ G : Gx, Takes (lamCx X A outer s H E scope f c') G.wx → EX (lamCx X A outer s H E scope f c') G body fx
theorem pe_actX {Ng : List Str} {qg : Str} {sg : Scope} {g f c' : Addr} {cdg pm ctv : Value} {params : Arguments} {body : Expr} {scope : Scope} {k i : Nat} {a : Str} {pn : List (Addr × Obj)} {xe : Value → Shared → Prop} {W : WX} {G : Gx} {fx : M (Out D)} {p1 p2 : Pos}
    (I : Inv X pins σ H s) (L : LamS X.env.scope scope) (hf : s.heap.get? f = some (PySem.W.kla_obj "<lambda>" (X.env.qual ++ "<lambda>") params body scope (cloFrom X.env.cells scope.names []) pm c' ctv)) (hfn : H f = none) (hfr : f ∉ frs X.stack)
    (hbind : bindArgs (PySem.W.kla_fn "<lambda>" (X.env.qual ++ "<lambda>") params body scope (cloFrom X.env.cells scope.names []) pm (.ref c') ctv) ⟨[], []⟩ = pure [])
    (tk : Takes ((actCx X Ng qg sg g cdg s H).tr pn xe) W) (hr : Room (k + 1) (actCx X Ng qg sg g cdg s H).A) (hgd : X.A.guards = some []) (hbody : LamB X k scope body fx) (hN : Ng[i]? = some a) (hv : Vis sg a) (hd : (a == ("__debug__" : Str)) = false) (hcd : (a == ("__classdict__" : Str)) = false) :
    PE ((actCx X Ng qg sg g cdg s H).tr pn xe) (.Call (.Name a p1) [] [] p2) (fun σZ HZ Q => σZ[i]? = some (some (.ref f)) ∧ HZ c' = some (CodeO c' (X.env.qual ++ "<lambda>")) ∧ tEX X.K X.mg { G with wx := fun cls d _ H' => W cls d σZ H' } fx σ HZ Q) := by
  refine ⟨fun pinsZ sZ σZ HZ Q IZ h => ?_⟩
  obtain ⟨hs, hc, ht⟩ := h
  refine wpAny_Call_Name_kw (thn ((pe_var (pos := p1) (i := i) hN hv hd hcd).run pinsZ sZ σZ HZ (fun v H1 => v = .ref f ∧ H1 = HZ) IZ ⟨.ref f, hs, rfl, rfl⟩) ?_)
  rintro u s1 ⟨v, H1, I1, r1, ev, eH⟩
  subst ev
  rw [eH] at I1
  obtain rfl : u = Value.ref f := r1
  have at_f := I1.base.keep f _ hf hfn hfr (fun z => nomatch (show f ∈ ([] : List Addr) from z))
  refine PySem.W.callWith_F0 ⟨_, _, _, _, at_f⟩ ?_
  have un : Un (frs X.stack) [] H HZ s.heap s1.heap := I1.base
  obtain ⟨⟨oc, vs, t, hoc, hdc, hvc⟩, _, _⟩ := I1.hok c' _ hc
  have run : codeAny (model X.prog X.w) (actCx X Ng qg sg g cdg s H).A (.call (.ref f) ⟨[], []⟩) (CR (L2.CX X.prog X.w) (actCx X Ng qg sg g cdg s H).stack X.prog X.w HZ s1 Q fun cls d H' => W cls d σZ H') s1 := by
    refine PySem.W.kla_callFunE hr.depth at_f rfl L.co L.gen rfl ⟨c', oc, vs, t, rfl, hoc, hdc, hvc⟩ ?_
    rw [hbind]
    refine wpAny_pure (wpAny_newFunctionEnv (fun y hy => (L.own y hy).2) (fun y hy => absurd hy (by simp)) (fun h1 hns hsb => ⟨I1.nolimit.fresh _ hsb, ?_⟩) L.kind)
    show codeAny _ _ (.expr body (lamEnv X scope s1.heap.objs.size f c')) _ _
    have kp : ∀ b o, s1.heap.get? b = some o → h1.get? b = some o := fun b o e => hsb.extBut b o (Nat.ne_of_lt (Heap.lt_size e)) (Heap.get?_push_of_some _ e)
    have J := lam_start2 (E := fun cls d H' => W cls d σZ H') (f := f) (c' := c') (tk := s1.toks + ([] : List (Str × Value)).length) I L I1.env0 hr.hd un hns kp
    have TK : Takes (lamCx X (actCx X Ng qg sg g cdg s H).A (actCx X Ng qg sg g cdg s H).stack s1 HZ (fun cls d H' => W cls d σZ H') scope f c') (fun cls d _ H' => W cls d σZ H') := takes_of (E := fun cls d H' => W cls d σZ H') (E₁ := fun e' s'' => L2.CX X.prog X.w _ HZ s1 (fun cls d H' => W cls d σZ H') e' s'') rfl rfl rfl rfl
    refine PySem.W.kla_codeExpr (wpAny_mono ((hbody _ _ s1 HZ _ f c' (hr.deeper _) hgd { G with wx := fun cls d _ H' => W cls d σZ H' } TK).run [] _ _ HZ Q J ht) ?_ fun e s' hq => hq)
    rintro v s' ⟨w', H', J', rv, q⟩
    exact ⟨w', H', J'.os, J'.bare, J'.base, J'.hok, rv, q⟩
  refine wpAny_call (codeAny_mono run fun r s' hq => ?_)
  match r, hq with
  | .ok (.ret u), hq => exact I1.after hq
  | .error e, hq => exact tk e s' (XE.of_call I1 (fun cls d H' z => z) hq)
end
/-- only what is returned -/
def retR : Option (Fl × Sd) → Option D
  | some (.rt d, _) => some d
  | some (.rf l, _) => some (.lst l)
  | _ => none
/-- how such a def answers -/
def heard (n it ie : Nat) (hit : List Nat) (ms mr : M Fl) : Out D → Option D
  | .ok d => retR (mr ((List.replicate n none).set it (some (.val d))))
  | .ex c ds => if c ∈ hit then retR (ms ((List.replicate n none).set ie (some (.val (.exc c ds))))) else none
def mHear (C : Out D → Option D) (fx : M (Out D)) : M D := mBind fx fun r => mLift (C r)
section
variable {X : Cx} {G : Gx}
theorem ret_end {K : PySem.W.Frag} {mg : Str → Option Value} {H : Hp} {O : List Addr} {σz : L2.St} {τz : Sd} {m : M Fl} {d : D} {D0 : Ends} (R : SR K mg (gx H [] O none) H O σz τz) (e : retR (m τz) = some d) (q : ∀ v H', Grow H H' → Rep K mg (cut H' O) v d → D0.rt v H') : ∃ G, tDS K mg G m D0 σz H := by
  refine ⟨gx H [] O none, O, τz, ?_⟩
  unfold retR at e
  split at e
  · rename_i d' τ' e1
    cases e
    exact ⟨.rt d, τ', R, e1, fun v σ' H' O' l R' r' => q v H' (fun a o h => R'.keep a o h (by simp) (.inl rfl)) (Rep.grow (Grow.less R'.base).w r')⟩
  · rename_i l τ' e1
    cases e
    exact ⟨.rf l, τ', R, e1, fun p xs σ' H' O' le hp R' r' => q _ _ (fun a o h => (R'.grow (Grow.new hp)).keep a o h (by simp) (.inl rfl)) (Rep.grow (Grow.less R'.base).w (new_list R'.live hp r'))⟩
  · cases e
theorem de_hear {x a x1 x2 x3 told en : Str} {g c P : Addr} {k : Nat} {pg : Arguments} {sg : Scope} {dvs : List V} {kws : List (Str × V)} {fd : FuncData} {Ng : List Str} {params : Arguments} {body : Expr} {scope : Scope} {fx : M (Out D)} {p lpos pos p1 p2 p3 p4 p5 q1 q2 q3 q4 pt : Pos} {kt} {b0 ret : Stmt} {suite : List Stmt} {c1 c2 c3 : Value} {it ie : Nat} {hit : List Nat} {ms mr : M Fl}
    (F : FunD X.K x x pg [.Try [.Assign [.Name told pt] (.Call (.Name a p1) [] [] p2) p3] [.ExceptHandler (some (.Tuple [.Name x1 q1, .Name x2 q2, .Name x3 q3] kt q4)) (some en) (b0 :: suite) p4] [] [] p5, ret] sg dvs kws g fd)
    (hb : Binds X.K fd [a] []) (Sg : FnScope Ng [a] sg) (hNg : Ng[0]? = some a) (hit_ : Ng[it]? = some told) (hie : Ng[ie]? = some en) (hlt : sg.names.lookup told = some .local) (hle : sg.names.lookup en = some .local) (hva : Vis sg a)
    (hg : Gl X x) (hm : X.mg x = some (.ref g)) (h1 : sg.names.lookup x1 = some .globalImplicit ∧ (x1 == ("__debug__" : Str)) = false ∧ X.mg x1 = some c1) (h2 : sg.names.lookup x2 = some .globalImplicit ∧ (x2 == ("__debug__" : Str)) = false ∧ X.mg x2 = some c2) (h3 : sg.names.lookup x3 = some .globalImplicit ∧ (x3 == ("__debug__" : Str)) = false ∧ X.mg x3 = some c3)
    (hhit : ∀ c ∈ hit, ∃ C, X.mg (clsName c) = some (.ref C) ∧ PySem.W.exmAny X.K (.ref C) [c1, c2, c3] = some true)
    (TB : TabB X.base X.mg c P) (hcode : X.env.code = .ref c) (hmT : (P, X.env.qual ++ "<lambda>") ∈ G.T) (hu : ∀ p ∈ G.T, p.1 = P → p.2 = X.env.qual ++ "<lambda>") (hr : Room (k + 2) X.A) (hgd : X.A.guards = some []) (L : LamS X.env.scope scope) (hdef : defaultsOf params X.env = ([], []))
    (hbind : ∀ (q : Str) (cl : List (Str × Addr)) (pm cv ctv : Value), bindArgs (PySem.W.kla_fn "<lambda>" q params body scope cl pm cv ctv) ⟨[], []⟩ = pure [])
    (hbody : LamB X k scope body fx)
    (hsu : ∀ (cdv : Value) (s : Shared) (H : Hp) (ad : Addr) (pn : List (Addr × Obj)) (G : Gx), RoomN (k + 1) (Cx.heard (actCx X Ng x sg g cdv s H) ad pn).A → (Cx.heard (actCx X Ng x sg g cdv s H) ad pn).A.guards = some [] → DSs (Cx.heard (actCx X Ng x sg g cdv s H) ad pn) G (b0 :: suite) ms)
    (hre : ∀ (cdv : Value) (s : Shared) (H : Hp) (G : Gx), DSs (actCx X Ng x sg g cdv s H) G [ret] mr)
    (hdb : (x == ("__debug__" : Str)) = false := by decide) (hd : (a == ("__debug__" : Str)) = false := by decide) (hcd : (a == ("__classdict__" : Str)) = false := by decide) :
    DE X G (.Call (.Name x p) [.Lambda params body scope lpos] [] pos) (mHear (heard Ng.length it ie hit ms mr) fx) := by
  refine ⟨fun pins s σ H Q I q => ?_⟩
  obtain ⟨O, τ, d, τ', R, e1, q⟩ := q
  obtain ⟨r, e2, e3⟩ := mL_some e1
  obtain ⟨oc, od, dV, kV, doc, pm, an, cdv, ct, osl, rfl, lk, hcg, _, _⟩ := F.ex
  have hT0 : G.T ≠ [] := fun z => by rw [z] at hmT; cases hmT
  refine wpAny_Call_Name_kw (ld_glob I hg hm ?_ hdb)
  refine PySem.W.callWith_K (h₀ := X.base) I.ok.mod.kin F.kp ?_ (by rfl) (by rfl)
  show wpAny _ _ (spliced ((false, eval (.Lambda params body scope lpos) X.env) :: backTo pos (starEach [] X.env))) _ _ s
  refine Calls.spliced_cons (lam_make2 I TB hcode hmT hu R.tab hdef (L.has I.ok) fun f c' pm' ctv H1 s' I1 eN T1 hf hfn hfr hco => Calls.spliced_nil ⟨I1.kIn, ?_⟩)
  have R1 := R.extN hT0 eN T1
  have l1 : Le H O H1 O := (extN_w eN).cut O
  have n0 : (L2.start Ng [V.ref f]).length = Ng.length := by
    have hp : 0 < Ng.length := (List.getElem?_eq_some_iff.mp hNg).1
    unfold L2.start
    rw [List.length_append, List.length_map, List.length_replicate, List.length_singleton]
    omega
  have at0 : (L2.start Ng [V.ref f])[0]? = some (some (V.ref f)) := rfl
  have run : codeAny (model X.prog X.w) X.A (.call (.ref g) ⟨[.ref f], []⟩) (CR C8.CX0 X.stack X.prog X.w H1 s' Q C8.E0) s' := by
    refine run_ofS (k := k + 1) (N := Ng) (ps := [a]) (us := [.ref f]) (vs := [.ref f]) lk hcg Sg hr I1.env0 (hb s' [.ref f] I1.kIn rfl) (.cons rfl .nil) rfl fun hr' => ?_
    have body_ := pss_cons (ps_hear (X := actCx X Ng x sg g cdv s' H1) (b0 := b0) (suite := suite) (ts := fun _ D σ H => ∃ G, tDS X.K X.mg G ms D σ H) (i := ie) (c1 := c1) (c2 := c2) (c3 := c3) (Wout := fun _ _ _ _ => False) (p1 := q1) (p2 := q2) (p3 := q3) (tp := q4) (kt := kt) (pos := p5) (pos2 := p4) rfl rfl rfl Sg.nd hie hle ⟨h1.1, h1.2.1, .inl h1.2.2⟩ ⟨h2.1, h2.2.1, .inl h2.2.2⟩ ⟨h3.1, h3.2.1, .inl h3.2.2⟩ takes0
        (fun W pn xe tk _ => pss_one (ps_set (pos := p3) (pos' := pt) (i := it) (X := (actCx X Ng x sg g cdv s' H1).tr pn xe) Sg.nd hit_ (.inl hlt) (pe_actX (i := 0) (p1 := p1) (p2 := p2) (G := G) I1 L hf hfn hfr (hbind _ _ _ _ _) tk hr' hgd hbody hNg hva hd hcd) (by rfl) (.inr hlt)))
        (fun ad pn => pss_any fun G => hsu cdv s' H1 ad pn G ⟨hr'.dp, hr'.un⟩ hgd))
      (pss_any fun G => hre cdv s' H1 G)
    refine ⟨_, body_.nox, ?_⟩
    refine ⟨at0, hco, O, τ, r, τ', R1.ground, e2, ?_⟩
    have itl : it < Ng.length := (List.getElem?_eq_some_iff.mp hit_).1
    have iel : ie < Ng.length := (List.getElem?_eq_some_iff.mp hie).1
    cases r with
    | ok d0 =>
      intro v H2 O2 l2 R2 r2
      have R2' : SR X.K X.mg G H2 O2 σ τ' := R2.ground
      exact ret_end (SR.one R2.live n0 itl r2) e3 fun v3 H3 g3 r3 => q v3 H3 O2 ((l1.trans l2).trans (Le.grow g3)) (R2'.grow g3) r3
    | ex c0 ds0 =>
      intro cls dd H2 O2 l2 R2 rx
      have R2' : SR X.K X.mg G H2 O2 σ τ' := R2.ground
      unfold heard at e3
      split at e3
      · cases ‹Out.ex _ _ = Out.ok _›
      rename_i c9 ds9 ec
      cases ec
      split at e3
      · rename_i hc
        obtain ⟨C, hC, hex⟩ := hhit c0 hc
        obtain ⟨C', xs, rfl, hC', hx, hl, rl⟩ := rx
        rw [hC] at hC'; cases hC'
        refine ⟨true, hex, fun _ => ⟨C, rfl, fun ad na => ?_⟩, fun z => by cases z⟩
        have ga : Grow H2 (upd H2 ad (xco ad C dd)) := Grow.new na
        have rr : Rep X.K X.mg (cut (upd H2 ad (xco ad C dd)) O2) (.ref ad) (.exc c0 ds0) := .exc hC (cut_of (R2.live.ne na) upd_same) ((hx.growW (ga.cut O2).w).at) hl (RepL.grow (ga.cut O2).w rl)
        exact ret_end (SR.one (R2.live.grow ga) n0 iel rr) e3 fun v3 H3 g3 r3 => q v3 H3 O2 ((l1.trans l2).trans (Le.grow (ga.trans g3))) (R2'.grow (ga.trans g3)) r3
      · cases e3
  refine wpAny_call (codeAny_mono run fun r s2 hq => ?_)
  match r, hq with
  | .ok (.ret u), hq => exact I1.after hq
end
end Dv
set_option Elab.async false
set_option linter.all false
set_option maxRecDepth 100000
set_option maxHeartbeats 4000000
/-! DX9: defs that make lambdas: what they promise, their calls; the law's end with tables; the head's word on tables -/
namespace Dv
open PySem PySem.Spec PyProof.Rows L2 LamX
/-! ### code objects and their tables -/
theorem cdB_ok {K : PySem.W.Frag} {f : Addr} (e : cdB K f = true) : cdV K f = .ref (cdA K f) ∧ K.lookup (tbA K f) = none ∧ ∀ h : Heap, K.In h → PySem.W.CodeHd h (cdA K f) (tbA K f) := by
  obtain ⟨e1, e⟩ := He.ba e
  obtain ⟨e2, e3⟩ := He.ba e
  refine ⟨of_decide_eq_true e1, by simpa using e3, fun h KX => ?_⟩
  cases q : K.lookup (cdA K f) with
  | none => rw [q] at e2; cases e2
  | some o =>
    rw [q] at e2
    obtain ⟨oc, od, dt, osl⟩ := o
    cases oc with
    | type x =>
      cases dt with
      | fields vs =>
        have e2' : (decide (x = "code") && (decide (vs[11]? = some (.ref (tbA K f))) && (decide (vs.getD 11 .none = .ref (tbA K f)) && (isStrV (vs.getD 18 .none) && (isIntV (vs.getD 7 .none) && (isBoolV (vs.getD 9 .none) && (isIntV (vs.getD 10 .none) && decide (cdA K f ≠ tbA K f)))))))) = true := e2
        obtain ⟨a1, b⟩ := He.ba e2'
        obtain ⟨a2, b⟩ := He.ba b
        obtain ⟨a3, b⟩ := He.ba b
        obtain ⟨a4, b⟩ := He.ba b
        obtain ⟨a5, b⟩ := He.ba b
        obtain ⟨a6, b⟩ := He.ba b
        obtain ⟨a7, a8⟩ := He.ba b
        have s1 : ∃ x t, vs.getD 18 .none = .str x t := by
          cases z : vs.getD 18 .none <;> rw [z] at a4 <;> first | exact ⟨_, _, rfl⟩ | cases a4
        have s2 : ∃ x t, vs.getD 7 .none = .int x t := by
          cases z : vs.getD 7 .none <;> rw [z] at a5 <;> first | exact ⟨_, _, rfl⟩ | cases a5
        have s3 : ∃ x, vs.getD 9 .none = .bool x := by
          cases z : vs.getD 9 .none <;> rw [z] at a6 <;> first | exact ⟨_, rfl⟩ | cases a6
        have s4 : ∃ x t, vs.getD 10 .none = .int x t := by
          cases z : vs.getD 10 .none <;> rw [z] at a7 <;> first | exact ⟨_, _, rfl⟩ | cases a7
        obtain ⟨x1, t1, s1⟩ := s1
        obtain ⟨x2, t2, s2⟩ := s2
        obtain ⟨x3, s3⟩ := s3
        obtain ⟨x4, t4, s4⟩ := s4
        exact ⟨_, vs, x1, t1, x2, t2, x3, x4, t4, KX _ _ q, congrArg Value.type (of_decide_eq_true a1), rfl, of_decide_eq_true a2, of_decide_eq_true a3, s1, s2, s3, s4, of_decide_eq_true a8⟩
      | _ => cases e2
    | _ => cases dt <;> cases e2
/-! ### promises -/
section
variable (K : PySem.W.Frag) (mg : Str → Option Value) (T : List (Addr × Str))
def spL (n : Nat) (F : List D → Option D) : Sp := fun vs H Q _ => ∃ O ds d, vs.length = n ∧ Live H O ∧ Tabs T H ∧ RepL K mg (cut H O) vs ds ∧ F ds = some d ∧ ∀ v H', GrowW H H' → Tabs T H' → Rep K mg (cut H' O) v d → Q v H'
def spWL (n : Nat) (F : List D → List D → Option (D × List D)) : Sp := fun vs H Q _ => ∃ O p xs vs' l ds d l', vs = .ref p :: vs' ∧ vs.length = n ∧ Live H O ∧ Tabs T H ∧ p ∈ O ∧ H p = some (.lst xs) ∧ RepL K mg (cut H O) xs l ∧ RepL K mg (cut H O) vs' ds ∧ F l ds = some (d, l') ∧
  ∀ v H' xs', (∀ a o, a ≠ p → isTbl o = false → H a = some o → H' a = some o) → Tabs T H' → H' p = some (.lst xs') → RepL K mg (cut H' O) xs' l' → Rep K mg (cut H' O) v d → Q v H'
end
section
variable {K : PySem.W.Frag} {mg : Str → Option Value} {G : Gx} {H H' : Hp} {O : List Addr} {σ : L2.St} {τ : Sd}
theorem SR.withT {H0 : Hp} {W B : List Addr} {pin : Option Addr} {wx : WX} {T : List (Addr × Str)} (R : SR K mg ⟨H0, W, B, pin, [], wx⟩ H O σ τ) (t : Tabs T H) : SR K mg ⟨H0, W, B, pin, T, wx⟩ H O σ τ := by
  have fr : ∀ {p : Addr}, Fresh ⟨H0, W, B, pin, [], wx⟩ p → Fresh ⟨H0, W, B, pin, T, wx⟩ p := fun h o e => absurd rfl (h o e).1
  refine ⟨R.len, fun a o h n _ => R.keep a o h n (.inl rfl), t, R.base, fun p z => (R.own0 p z).imp id fun z => z.imp fr id, R.live, fun i s h => ?_, R.inj, R.pin⟩
  obtain ⟨v, e, q⟩ := R.slot i s h
  refine ⟨v, e, ?_⟩
  cases s with
  | val d => exact q
  | own l => obtain ⟨p, xs, e1, h1, h2, h3, h4⟩ := q; exact ⟨p, xs, e1, h1, h2, h3.imp fr id, h4⟩
  | ob c ns ds => obtain ⟨p, C, dx, xs, e1, h1, h2, h3, h4⟩ := q; exact ⟨p, C, dx, xs, e1, h1, h2, h3.imp fr id, h4⟩
theorem SR.growL (R : SR K mg G H O σ τ) (hT : G.T ≠ []) (e : GrowW H H') (t : Tabs G.T H') : SR K mg G H' O σ τ :=
  R.extN hT (fun a o h n => e a o h (by cases o <;> first | rfl | exact absurd rfl (n _))) t
end
section
variable {P : Program} {w : World} {K : PySem.W.Frag} {mg : Str → Option Value} {base : Heap} {x qual : Str} {params : Arguments} {body : List Stmt} {scope : Scope} {dvs : List V} {kws : List (Str × V)} {f : Addr} {fd : FuncData} {N ps : List Str} {k : Nat} {m : M Fl} {T : List (Addr × Str)}
abbrev BodyL (P : Program) (w : World) (K : PySem.W.Frag) (mg : Str → Option Value) (base : Heap) (N : List Str) (qual : Str) (scope : Scope) (f : Addr) (k : Nat) (T : List (Addr × Str)) (body : List Stmt) (m : M Fl) : Prop :=
  ∀ (A : Around) (outer : List Env) (s : Shared) (H : Hp) (E : XK), Room k (cxD P w K mg base N qual scope f (cdV K f) A outer s H E).A → (cxD P w K mg base N qual scope f (cdV K f) A outer s H E).A.guards = some [] → ∀ G : Gx, G.T = T → DSs (cxD P w K mg base N qual scope f (cdV K f) A outer s H E) G body m
theorem fnGL_of {sp : Sp} (F : FunD K x qual params body scope dvs kws f fd) (S : FnScope N ps scope) (len : ∀ vs H Q E, sp vs H Q E → vs.length = ps.length)
    (hb : ∀ (A : Around) (outer : List Env) (s : Shared) (H : Hp) (vs : List V) (Q : VK) (E : XK), Room k (A.deeper (PyProof.Rows.envOfC qual scope s.heap.objs.size f (cdV K f))) → A.guards = some [] → sp vs H Q E →
      ∃ t, PSs (cxOf CX0 P w K mg base N qual scope f (cdV K f) A outer s H E).nox body t ∧ t { nx := fun _ H' => Q .non H', rt := Q } (L2.start N vs) H) : FnG P w K mg base (k + 1) f fd ps sp := by
  obtain ⟨oc, od, dV, kV, doc, pm, an, cdv, ct, osl, rfl, lk, hcd, _, _⟩ := F.ex
  have ec : cdV K f = cdv := by unfold cdV; rw [lk]
  subst ec
  refine ⟨len, ?_⟩
  intro A outer s H args us vs Q E hr hgd e0 hbd r hsp
  have hIn : K.In s.heap := e0.mod.kin.keeps fun b o e => (e0.bs b o e).1
  have hLim : s.heap.NoLimit := e0.mod.nolimit.keeps fun b o e => (e0.bs b o e).1
  refine codeAny_call_function hr.depth (hIn _ _ lk) rfl S.co S.gen rfl (PySem.W.codeRec_of hIn hcd) (hbd _ _ _ _ ?_)
  refine wpAny_newFunctionEnv_cells S.kind ?_ ?_
  · rintro ⟨n, v⟩ hy
    rcases S.par n (List.of_mem_zip hy).1 with q | q
    · exact .inl q
    · exact .inr ⟨q, PySem.W.cellsFrom_some _ _ _ (.inl q)⟩
  · rintro env rfl s1 ic
    refine ⟨hLim.keeps ic.toInCall.keep, codeAny_func ?_⟩
    obtain ⟨t, ht, hq⟩ := hb A outer s H vs Q E (hr.deeper _) hgd hsp
    have inv0 := inv_start (CX := CX0) (E := E) S hr.hd e0 (len _ _ _ _ hsp) r ic
    refine wpAny_mono (ht.nox.run [] s1 (L2.start N vs) H _ inv0 hq) ?_ fun _ _ hs => hs
    intro fl s' hs
    cases fl with
    | ret u => obtain ⟨v, σ', H', J, rv, q⟩ := hs; exact ⟨v, H', J.os, J.bare, J.base, J.hok, rv, q⟩
    | next => obtain ⟨σ', H', J, q⟩ := hs; exact ⟨.non, H', J.os, J.bare, J.base, J.hok, rfl, q⟩
    | brk => obtain ⟨_, _, _, q⟩ := hs; exact q.elim
    | cont => obtain ⟨_, _, _, q⟩ := hs; exact q.elim
theorem fnL (F : FunD K x qual params body scope dvs kws f fd) (S : FnScope N ps scope) (hb : BodyL P w K mg base N qual scope f k T body m) : FnG P w K mg base (k + 1) f fd ps (spL K mg T ps.length (runD N.length m)) := by
  have hpl : ps.length ≤ N.length := by have := congrArg List.length S.pre; rw [List.length_take] at this; omega
  refine fnGL_of F S (fun vs H Q E h => ?_) (fun A outer s H vs Q E hr hg h => ?_)
  · obtain ⟨O, ds, d, h1, _⟩ := h; exact h1
  · obtain ⟨O, ds, d, h1, lv, tb, r, e, q⟩ := h
    refine ⟨_, hb A outer s H E hr hg ⟨H, [], O, none, T, noX⟩ rfl, ?_⟩
    have R := SR.withT (SR.start (N := N) lv r (by omega)) tb
    unfold runD at e
    cases e1 : m (start0 N.length ds) with
    | none => rw [e1] at e; cases e
    | some pr =>
      obtain ⟨fl, τ'⟩ := pr
      rw [e1] at e
      refine ⟨O, start0 N.length ds, fl, τ', R, e1, ?_⟩
      have gr : ∀ {σ' : L2.St} {H' : Hp} {O' : List Addr}, SR K mg ⟨H, [], O, none, T, noX⟩ H' O' σ' τ' → GrowW H H' := fun R' a o h t => R'.keep a o h (by simp) (.inr t)
      cases fl with
      | nx => cases e; exact fun σ' H' O' l R' => q _ _ (gr R') R'.tab .non
      | rt d' => cases e; exact fun v σ' H' O' l R' r' => q _ _ (gr R') R'.tab (Rep.grow (Grow.less R'.base).w r')
      | rf d' => cases e; exact fun p xs σ' H' O' l hp R' r' => q _ _ (gr (R'.grow (Grow.new hp))) (R'.grow (Grow.new hp)).tab (Rep.grow (Grow.less R'.base).w (new_list R'.live hp r'))
      | _ => cases e
theorem fnWL (F : FunD K x qual params body scope dvs kws f fd) (S : FnScope N ps scope) (hb : BodyL P w K mg base N qual scope f k T body m) : FnG P w K mg base (k + 1) f fd ps (spWL K mg T ps.length (runW N.length m)) := by
  have hpl : ps.length ≤ N.length := by have := congrArg List.length S.pre; rw [List.length_take] at this; omega
  refine fnGL_of F S (fun vs H Q E h => ?_) (fun A outer s H vs Q E hr hg h => ?_)
  · obtain ⟨O, p, xs, vs', l, ds, d, l', _, h1, _⟩ := h; exact h1
  · obtain ⟨O, p, xs, vs', l, ds, d, l', rfl, h1, lv, tb, hpO, hp, rx, r, e, q⟩ := h
    refine ⟨_, hb A outer s H E hr hg ⟨H, [p], O.filter (· ≠ p), some p, T, noX⟩ rfl, ?_⟩
    have R := SR.withT (SR.startO (N := N) (s0 := .own l) lv hpO r (by simp at h1; omega) rfl ⟨p, xs, rfl, hpO, fun z => by simpa using (List.mem_filter.mp z).2, .inr (by simp), hp, rx⟩) tb
    unfold runW at e
    cases e1 : m (some (.own l) :: start0 (N.length - 1) ds) with
    | none => rw [e1] at e; cases e
    | some pr =>
      obtain ⟨fl, τ'⟩ := pr
      rw [e1] at e
      refine ⟨O, _, fl, τ', R, e1, ?_⟩
      have fin : ∀ {v : V} {σ' : L2.St} {H' : Hp} {O' : List Addr} {d' : D}, SR K mg ⟨H, [p], O.filter (· ≠ p), some p, T, noX⟩ H' O' σ' τ' → Rep K mg (cut H' O') v d' → (ownOf 0 τ').map (fun l => (d', l)) = some (d, l') → Q v H' := fun {v σ' H' O' d'} R' r' eo => by
        cases e2 : ownOf 0 τ' with
        | none => rw [e2] at eo; cases eo
        | some l2 =>
          rw [e2] at eo; cases eo
          obtain ⟨p', xs', ep, hO', hp', rx'⟩ := R'.ownAt (ownOf_some e2)
          have e0 := R'.pin p _ rfl (ownOf_some e2) rfl
          rw [ep] at e0; cases e0
          have sub : ∀ a ∈ O, a ∈ O' := fun a z => by
            by_cases ea : a = p
            · subst ea; exact hO'
            · exact R'.base a (List.mem_filter.mpr ⟨z, by simpa using ea⟩)
          exact q v H' xs' (fun a o na t h => R'.keep a o h (by simpa using na) (.inr t)) R'.tab hp' (RepL.grow (Grow.less sub).w rx') (Rep.grow (Grow.less sub).w r')
      cases fl with
      | nx => exact fun σ' H' O' _ R' => fin R' .non e
      | rt d' => exact fun v σ' H' O' _ R' r' => fin R' r' e
      | rf d' => exact fun p xs σ' H' O' _ hp R' r' => fin (R'.grow (Grow.new hp)) (new_list R'.live hp r') e
      | _ => cases e
end
/-! ### calls -/
section
variable {X : Cx} {G : Gx} {k n : Nat} {f : Addr} {fd : FuncData} {ps ks : List Str} {x : Str} {p pos : Pos} {e : Expr} {es : List Expr} {kws : List Keyword} {fa fk : M (List D)} {gD : List D → List D → List D}
theorem de_callL {F : List D → Option D} (Fn : FnG X.prog X.w X.K X.mg X.base k f fd ps (spL X.K X.mg G.T ps.length F)) (hT : G.T ≠ []) (hr : Room k X.A) (hgd : X.A.guards = some []) (hg : Gl X x) (hm : X.mg x = some (.ref f)) (hk : PySem.W.keepIn X.K (.ref f) = true) (hb : KB X.K X.mg fd ps n ks gD)
    (ha : DA X G (e :: es) fa) (hkw : DK X G kws fk) (hall : (backToKw pos (keywordEach kws X.env)).all (·.1.isSome) = true := by rfl) (hks : (backToKw pos (keywordEach kws X.env)).filterMap (·.1) = ks := by rfl)
    (hdb : (x == ("__debug__" : Str)) = false := by decide) (he : starEach (e :: es) X.env = (false, eval e X.env) :: starEach es X.env := by rfl)
    (hpl : ((backTo pos (starEach (e :: es) X.env)).any (·.1) || (backToKw pos (keywordEach kws X.env)).any (·.1.isNone)) = false := by rfl) :
    DE X G (.Call (.Name x p) (e :: es) kws pos) (mFn n ks.length gD F fa fk) := ⟨fun pins s σ H Q I q => by
  obtain ⟨O, τ, d, τ', R, e1, q⟩ := q
  obtain ⟨ds, es', τ1, e2, e3, n1, n2, e4⟩ := mFn_some e1
  obtain ⟨g, gV, kb, rep⟩ := hb.b
  refine wpAny_Call_Name_kw (ld_glob I hg hm ?_ hdb)
  refine PySem.W.callWith_KW (h₀ := X.base) I.ok.mod.kin hk hall (thn (ha.run pos pins s σ H (fun vs H1 => ∃ O1, Le H O H1 O1 ∧ SR X.K X.mg G H1 O1 σ τ1 ∧ RepL X.K X.mg (cut H1 O1) vs ds) I ⟨O, τ, ds, τ1, R, e2, fun vs H1 O1 l1 R1 r1 => ⟨O1, l1, R1, r1⟩⟩) ?_) hpl he
  rintro us s1 ⟨vs, H1, I1, r, O1, l1, R1, r1⟩
  refine thn (hkw.run pos pins s1 σ H1 (fun zs H2 => ∃ O2, Le H1 O1 H2 O2 ∧ SR X.K X.mg G H2 O2 σ τ' ∧ RepL X.K X.mg (cut H2 O2) zs es') I1 ⟨O1, τ1, es', τ', R1, e3, fun zs H2 O2 l2 R2 r2 => ⟨O2, l2, R2, r2⟩⟩) ?_
  rintro ws s2 ⟨zs, H2, I2, rz, O2, l2, R2, r2⟩
  refine ⟨I2.kIn, ?_⟩
  rw [hks]
  have m1 : vs.length = n := r1.length.trans n1
  have m2 : zs.length = ks.length := r2.length.trans n2
  obtain ⟨rg, hl⟩ := rep _ vs zs ds es' (RepL.grow l2 r1) r2 m1 m2
  exact run_G Fn hr hgd kb I2 r rz m1 m2 ⟨O2, gD ds es', d, hl, R2.live, R2.tab, rg, e4, fun v H' g t r => q v H' O2 ((l1.trans l2).trans (g.cut O2)) (R2.growL hT g t) r⟩⟩
/-- behind a call that wrote the list at p and made lambdas -/
theorem SR.wroteL {K : PySem.W.Frag} {mg : Str → Option Value} {H H' : Hp} {O : List Addr} {σ : L2.St} {τ : Sd} {i : Nat} {p : Addr} {l l' : List D} {xs xs' : List V} (R : SR K mg G H O σ τ) (hT : G.T ≠ []) (e : τ[i]? = some (some (.own l))) (ev : σ[i]? = some (some (.ref p))) (hp : H p = some (.lst xs)) (hO : p ∈ O)
    (kp : ∀ a o, a ≠ p → isTbl o = false → H a = some o → H' a = some o) (t : Tabs G.T H') (hp' : H' p = some (.lst xs')) (r : RepL K mg (cut H' O) xs' l') : SR K mg G H' O σ (τ.set i (some (.own l'))) ∧ Le H O H' O := by
  have le : Le H O H' O := fun a o h tb => by
    obtain ⟨n, e'⟩ := cut_some h
    exact cut_of n (kp a o (fun q => n (q ▸ hO)) tb e')
  refine ⟨⟨by simp [R.len], fun a o h n c => ?_, t, R.base, R.own0, fun q z => ?_, fun j s h => ?_, fun j k s t w h1' o1 h2' o2 e1 e2 => ?_, fun q s hq h o => ?_⟩, le⟩
  · obtain ⟨v, ev', p', ys, rfl, h1, h2, h3, h4, h5⟩ := R.slot i _ e
    rw [ev] at ev'; cases ev'
    rcases c with c | c
    · exact absurd c hT
    · have na : a ≠ p := fun q => by
        subst q
        rcases h3 with z | z
        · exact z.ne h (.inr c)
        · exact n z
      exact kp a o na c (R.keep a o h n (.inr c))
  · by_cases eq : q = p
    · subst eq; exact .inl ⟨xs', hp'⟩
    · rcases R.live q z with ⟨ys, e'⟩ | ⟨C, dx, fs, e'⟩
      · exact .inl ⟨ys, kp _ _ eq rfl e'⟩
      · exact .inr ⟨C, dx, fs, kp _ _ eq rfl e'⟩
  · by_cases ej : i = j
    · subst ej
      rw [List.getElem?_set_self (getElem?_lt e)] at h
      cases h
      obtain ⟨v, ev', p', ys, rfl, h1, h2, h3, h4, h5⟩ := R.slot i _ e
      rw [ev] at ev'; cases ev'
      exact ⟨_, ev, p, xs', rfl, hO, h2, h3, hp', r⟩
    · rw [List.getElem?_set_ne ej] at h
      obtain ⟨w, ew, ok⟩ := R.slot j s h
      refine ⟨w, ew, ?_⟩
      cases s with
      | val d => exact Rep.grow le ok
      | own l'' =>
        obtain ⟨q, ys', rfl, k1, k2, k3, k4, k5⟩ := ok
        have nq : q ≠ p := fun eq => by subst eq; exact ej (R.inj i j _ _ _ e rfl h rfl ev ew)
        exact ⟨q, ys', rfl, k1, k2, k3, kp _ _ nq rfl k4, RepL.grow le k5⟩
      | ob c ns ds =>
        obtain ⟨q, C, dx, ys', rfl, k1, k2, k3, k4, k5, k6, k7⟩ := ok
        have nq : q ≠ p := fun eq => by subst eq; exact ej (R.inj i j _ _ _ e rfl h rfl ev ew)
        exact ⟨q, C, dx, ys', rfl, k1, k2, k3, k4, kp _ _ nq rfl k5, k6, RepL.grow le k7⟩
  · have at_ : ∀ {j : Nat} {s : Sl}, (τ.set i (some (Sl.own l')))[j]? = some (some s) → s.isOwn = true → ∃ s', τ[j]? = some (some s') ∧ s'.isOwn = true := fun {j s} h o => by
      by_cases q : i = j
      · subst q; exact ⟨_, e, rfl⟩
      · rw [List.getElem?_set_ne q] at h; exact ⟨s, h, o⟩
    obtain ⟨s', a1, a2⟩ := at_ h1' o1
    obtain ⟨t', b1, b2⟩ := at_ h2' o2
    exact R.inj j k s' t' w a1 a2 b1 b2 e1 e2
  · by_cases ei : i = 0
    · subst ei
      exact R.pin q _ hq e rfl
    · rw [List.getElem?_set_ne ei] at h
      exact R.pin q s hq h o
theorem de_callWL {F : List D → List D → Option (D × List D)} {o : Expr} (i : Nat) (ho : PE X o (tVar i)) (Fn : FnG X.prog X.w X.K X.mg X.base k f fd ps (spWL X.K X.mg G.T ps.length F)) (hT : G.T ≠ []) (hr : Room k X.A) (hgd : X.A.guards = some []) (hg : Gl X x) (hm : X.mg x = some (.ref f)) (hk : PySem.W.keepIn X.K (.ref f) = true) (hb : Binds X.K fd ps [])
    (ha : DA X G es fa) (hdb : (x == ("__debug__" : Str)) = false := by decide) (hst : starEach (o :: es) X.env = (false, eval o X.env) :: starEach es X.env := by rfl) (hpl : (backTo pos (starEach es X.env)).any (·.1) = false := by rfl) :
    DE X G (.Call (.Name x p) (o :: es) [] pos) (mFnW i ps.length F fa) := ⟨fun pins s σ H Q I q => by
  obtain ⟨O, τ, d, τ', R, e1, q⟩ := q
  obtain ⟨l0, ds, τ1, l, l', e2, e3, e4, n1, e5, rfl⟩ := mFnW_some e1
  obtain ⟨p0, xs0, ep0, _⟩ := R.ownAt e2
  have A1 := pa_cons ho ha hst
  refine wpAny_Call_Name_kw (ld_glob I hg hm ?_ hdb)
  refine PySem.W.callWith_K (h₀ := X.base) I.ok.mod.kin hk (thn (A1.run pos pins s σ H (fun vs H1 => ∃ vs' O1, vs = .ref p0 :: vs' ∧ Le H O H1 O1 ∧ SR X.K X.mg G H1 O1 σ τ1 ∧ RepL X.K X.mg (cut H1 O1) vs' ds) I ⟨.ref p0, ep0, O, τ, ds, τ1, R, e3, fun vs H1 O1 l1 R1 r1 => ⟨vs, O1, rfl, l1, R1, r1⟩⟩) ?_) hst hpl
  rintro us s1 ⟨vs, H1, I1, r, vs', O1, rfl, l1, R1, r1⟩
  refine ⟨I1.kIn, ?_⟩
  obtain ⟨p1, xs1, ep1, hO1, hp1, rx1⟩ := R1.ownAt e4
  rw [ep0] at ep1; cases ep1
  have hl : us.length = ps.length := by rw [← r.length, ← n1]; simp [r1.length]
  refine wpAny_call (codeAny_mono (Fn.run X.A X.stack s1 H1 ⟨us, []⟩ us (.ref p0 :: vs') Q E0 hr hgd I1.env0 (by have := hb s1 us I1.kIn (by simpa using hl); simpa using this) r ?_) ?_)
  · refine ⟨O1, p0, xs1, vs', l, ds, d, l', rfl, by simp [r1.length, n1], R1.live, R1.tab, hO1, hp1, rx1, r1, e5, fun v H' xs' kp tb hp' rx' rv => ?_⟩
    obtain ⟨R2, l2⟩ := R1.wroteL hT e4 ep0 hp1 hO1 kp tb hp' rx'
    exact q v H' O1 (l1.trans l2) R2 rv
  · intro res s' hq
    match res, hq with
    | .ok (.ret u), hq => exact I1.after hq⟩
end
/-! ### the law's end -/
theorem lawL {P : Program} {w : World} {K : PySem.W.Frag} {mg mb : Str → Option Value} {k : Nat} {fa a : Addr} {cs : List (Addr × Addr)} {fd : FuncData} {x : Str} {sp : Sp} {t : Shared} {vs : List Value} {ns : List Int}
    (KX : K.In t.heap) (nG : t.heap.Ns mainGlobals mg) (nB : t.heap.Ns builtinsNs mb) (nb : ∀ x : Str, x ≠ "__name__" → mb x = bootBuiltins x) (lim : t.heap.NoLimit) (g0 : t.gens = #[])
    (hT : ∀ p ∈ cs, t.heap.get? p.2 = some { cls := .none, data := .fields #[] }) (nT : ∀ p ∈ cs, K.lookup p.2 = none) (hC : ∀ p ∈ cs, PySem.W.CodeHd t.heap p.1 p.2)
    (bmod : ∃ (bm : Addr) (ob : Obj), mg "__builtins__" = some (.ref bm) ∧ bm ≠ builtinsNs ∧ t.heap.get? bm = some ob ∧ ob.cls = .type "module" ∧ ob.dict = some builtinsNs ∧ ob.data = .plain)
    (ob : t.heap.get? a = some { cls := .type "list", data := .seq vs.toArray }) (hi : IntsAre vs ns) (hl : ns.length ≤ sizeLine) (hr : Room k callerA)
    (F : ∀ base : Heap, K.In base → base.Ns mainGlobals mg → (∀ p ∈ cs, TabB base mg p.1 p.2) → FnG P w K mg base k fa fd [x] sp) (bd : ∀ (s : Shared) (u : Value), BindsTo s fd ⟨[u], []⟩ [(x, u)])
    (hs : ∀ H : Hp, (∀ p ∈ cs, H p.2 = some (.tbl #[])) → SqL K H a (ns.map V.int) → sp [.ref a] H (fun v _ => v = .bl true) E0) :
    codeAny (model P w) callerA (.call (.ref fa) ⟨[.ref a], []⟩) (fun r s' => r = .ok (.ret (.bool true)) ∧ OldK t.heap s'.heap ∧ s'.os = t.os ∧ AllBare s'.gens) t := by
  have rv := vals_ints hi
  have lv := hi.length
  have ist : ∀ b : Addr, b ∈ cs.map (·.2) → t.heap.get? b = some { cls := .none, data := .fields #[] } := fun b hb => by
    obtain ⟨p, hp, e⟩ := List.mem_map.mp hb
    exact e ▸ hT p hp
  have nAT : a ∉ cs.map (·.2) := fun z => by
    have q := (ist a z).symm.trans ob
    cases q
  have mem : ∀ p ∈ cs, p.2 ∈ cs.map (·.2) := fun p hp => List.mem_map.mpr ⟨p, hp, rfl⟩
  have main : ∀ H : Hp, (∀ p ∈ cs, H p.2 = some (.tbl #[])) → (∀ b, H b = none ∨ b ∈ cs.map (·.2) ∨ ∃ o xs, H b = some (.frz o (.lst xs))) → SqL K H a (ns.map V.int) → HOk P w H t.heap → (∀ b, H b ≠ none → b = a ∨ b ∈ cs.map (·.2)) → (H a ≠ none → K.lookup a = none) →
      codeAny (model P w) callerA (.call (.ref fa) ⟨[.ref a], []⟩) (fun r s' => r = .ok (.ret (.bool true)) ∧ OldK t.heap s'.heap ∧ s'.os = t.os ∧ AllBare s'.gens) t := by
    intro H tabs on sq hk only nk
    have hid : ∀ {b : Addr} {o : Obj}, t.heap.get? b = some o → H b = none → (hidT t.heap H).get? b = some o := fun e n => hidT_get e n
    have free : ∀ {b : Addr} {o : Obj}, t.heap.get? b = some o → (∀ vs n, o.data ≠ .seq vs n) → o.data ≠ .fields #[] → H b = none := fun {b o} e n1 n2 => by
      by_cases q : H b = none
      · exact q
      · rcases only b q with z | z
        · subst z
          rw [ob] at e; cases e
          exact (n1 _ _ rfl).elim
        · rw [ist b z] at e; cases e
          exact (n2 rfl).elim
    have freeD : ∀ {b : Addr} {o : Obj} {es : Array DictEntry} {ep : Nat}, t.heap.get? b = some o → o.data = .dict es ep → H b = none := fun {b o es ep} e d => free e (fun vs n z => by rw [d] at z; cases z) fun z => by rw [d] at z; cases z
    have keepN : ∀ {b : Addr} {m : Str → Option Value}, t.heap.Ns b m → (hidT t.heap H).Ns b m := fun ⟨o, es, ep, e, d, r⟩ => ⟨o, es, ep, hid e (freeD e d), d, r⟩
    have inK : K.In (hidT t.heap H) := fun b o e => hid (KX b o e) (by
      by_cases q : H b = none
      · exact q
      · rcases only b q with z | z
        · subst z
          rw [nk q] at e; cases e
        · obtain ⟨p, hp, ep⟩ := List.mem_map.mp z
          rw [← ep, nT p hp] at e; cases e)
    have mo : Mod K mg (hidT t.heap H) := ⟨inK, keepN nG, ⟨mb, keepN nB, nb⟩, let ⟨mc, h1, h2⟩ := lim; ⟨mc, keepN h1, h2⟩⟩
    have TB : ∀ p ∈ cs, TabB (hidT t.heap H) mg p.1 p.2 := fun p hp => by
      refine ⟨?_, ?_, fun z => ?_⟩
      · obtain ⟨o, us, file, tf, flags, tg, inF, text, tt, e1, r1, r2, r3, rest⟩ := hC p hp
        refine ⟨o, us, file, tf, flags, tg, inF, text, tt, hid e1 (free e1 (fun vs n z => by rw [r2] at z; cases z) fun z => ?_), r1, r2, r3, rest⟩
        rw [r2] at z; cases z
        simp at r3
      · obtain ⟨bm, obb, b1, b2, b3, b4, b5, b6⟩ := bmod
        have nMG : bm ≠ mainGlobals := fun q => by
          obtain ⟨o, es, ep, e, hd, _⟩ := nG
          rw [q, e] at b3; cases b3
          rw [hd] at b6; cases b6
        have nP : bm ≠ p.2 := fun q => by
          rw [q, hT p hp] at b3; cases b3
          cases b6
        exact ⟨bm, obb, b1, b2, nMG, nP, hid b3 (free b3 (fun vs n z => by rw [b6] at z; cases z) fun z => by rw [b6] at z; cases z), b4, b5, b6⟩
      · obtain ⟨o, es, ep, e, hd, _⟩ := nG
        rw [z, hT p hp] at e; cases e
        cases hd
    have nil : ∀ {b : Addr}, ¬ b ∈ ([] : List Addr) := fun h => absurd h (by simp)
    have en : Env0 P w K mg (hidT t.heap H) callerA [] t H := ⟨rfl, mo, fun b o e => of_hidT e, Nat.le_of_eq (hidT_size _ _), trivial, fun b hb => absurd hb nil, hk, .of_eq g0⟩
    refine codeAny_mono ((F _ inK (keepN nG) TB).run callerA [] t H ⟨[.ref a], []⟩ [.ref a] [.ref a] _ E0 hr rfl en (bd t (.ref a)) (.cons rfl .nil) (hs H tabs sq)) ?_
    rintro (e | fl) s' h
    · exact False.elim h
    cases fl with
    | ret u =>
      obtain ⟨v, H', os, bare, un, hok', r', q⟩ := h
      obtain rfl : v = .bl true := q
      obtain rfl : u = Value.bool true := r'
      have same : ∀ b o, b ∉ cs.map (·.2) → t.heap.get? b = some o → s'.heap.get? b = some o := fun b o nb e => by
        rcases on b with z | z | ⟨oz, xs, z⟩
        · exact un.keep b o e z nil (by simp)
        · exact absurd z nb
        · have z2 := un.frzs b oz _ z
          have e1 := (hk b _ z).1
          have e2 := (hok' b _ z2).1
          rw [e] at e1; cases e1
          exact e2
      have grown : ∀ p ∈ cs, ∃ more : Array Value, s'.heap.get? p.2 = some { cls := .none, data := .fields more } := fun p hp => by
        obtain ⟨more, z⟩ := un.tbls p.2 #[] (tabs p hp)
        exact ⟨_, hok' p.2 _ z⟩
      refine ⟨rfl, ⟨fun b o e => ?_, fun b o e => ?_⟩, os, bare⟩
      · by_cases hb : b ∈ cs.map (·.2)
        · obtain ⟨p, hp, ep⟩ := List.mem_map.mp hb
          obtain ⟨more, hm⟩ := grown p hp
          subst ep
          rw [hT p hp] at e; cases e
          exact .inr (.inl ⟨((hC p hp).tab (hT p hp)).isCodeTable, rfl, #[], more, rfl, by rw [Array.empty_append]; exact hm⟩)
        · exact .inl (same b o hb e)
      · by_cases hb : b ∈ cs.map (·.2)
        · obtain ⟨p, hp, ep⟩ := List.mem_map.mp hb
          obtain ⟨more, hm⟩ := grown p hp
          exact ⟨_, ep ▸ hm⟩
        · exact ⟨o, same b o hb e⟩
    | _ => exact False.elim h
  cases hk : K.lookup a with
  | some o =>
    have e := KX a o hk
    rw [ob] at e
    cases e
    refine main (fun b => if b ∈ cs.map (·.2) then some (.tbl #[]) else none) (fun p hp => if_pos (mem p hp)) (fun b => ?_) (.inr ⟨_, vs.toArray, _, hk, rfl, rfl, rfl, by rw [List.size_toArray, lv]; exact hl, by simpa using rv⟩) (fun b u z => ?_) (fun b z => ?_) fun z => absurd (if_neg nAT) z
    · by_cases hb : b ∈ cs.map (·.2)
      · exact .inr (.inl hb)
      · exact .inl (if_neg hb)
    · by_cases hb : b ∈ cs.map (·.2)
      · cases (if_pos hb).symm.trans z
        exact ist b hb
      · cases (if_neg hb).symm.trans z
    · by_cases hb : b ∈ cs.map (·.2)
      · exact .inr hb
      · exact absurd (if_neg hb) z
  | none =>
    refine main (fun b => if b = a then some (.frz { cls := .type "list", data := .seq vs.toArray } (.lst (ns.map V.int))) else if b ∈ cs.map (·.2) then some (.tbl #[]) else none) (fun p hp => (if_neg (show ¬ p.2 = a from fun z => nAT (z ▸ mem p hp))).trans (if_pos (mem p hp))) (fun b => ?_) (.inl (.inr ⟨_, if_pos rfl⟩)) (fun b u z => ?_) (fun b z => ?_) fun _ => hk
    · by_cases eb : b = a
      · exact .inr (.inr ⟨_, _, if_pos eb⟩)
      · by_cases hb : b ∈ cs.map (·.2)
        · exact .inr (.inl hb)
        · exact .inl ((if_neg eb).trans (if_neg hb))
    · by_cases eb : b = a
      · cases (if_pos eb).symm.trans z
        subst eb
        exact ⟨ob, by rw [List.length_map]; exact hl, vs, _, rv, ob⟩
      · have z1 := (if_neg eb).symm.trans z
        by_cases hb : b ∈ cs.map (·.2)
        · cases (if_pos hb).symm.trans z1
          exact ist b hb
        · cases (if_neg hb).symm.trans z1
    · by_cases eb : b = a
      · exact .inl eb
      · by_cases hb : b ∈ cs.map (·.2)
        · exact .inr hb
        · exact absurd ((if_neg eb).trans (if_neg hb)) z
theorem tabs0 {T : List (Addr × Str)} {H : Hp} (h : ∀ p ∈ T, H p.1 = some (.tbl #[])) : Tabs T H := fun p hp => TabS.nil (h p hp)
theorem walkL {l : PySem.W.OpenLaw} {n k : Nat} {q : Program} {loose : List Str} {XP : (Str → Option Value) → Heap → Prop} {YP : World → Heap → Prop} {d : DefRec} {x : Str}
    (hn : l.most = some n) (hn2 : n ≤ sizeLine) (hdf : d.params.defaults = []) (hr : Room k callerA)
    (F : ∀ (w : World) (mg : Str → Option Value) (fa : Addr) (h : Heap), YP w h → h.Ns mainGlobals mg → mg d.name = some (.ref fa) →
      ∃ (K : PySem.W.Frag) (fd : FuncData) (f : List D → Option D) (cs : List (Addr × Addr)) (T : List (Addr × Str)), K.In h ∧ (∀ (s : Shared) (u : Value), BindsTo s fd ⟨[u], []⟩ [(x, u)]) ∧ (∀ p ∈ cs, h.get? p.2 = some { cls := .none, data := .fields #[] }) ∧ (∀ p ∈ cs, K.lookup p.2 = none) ∧ (∀ p ∈ cs, PySem.W.CodeHd h p.1 p.2) ∧ (∀ p ∈ T, p.1 ∈ cs.map (·.2)) ∧
        (∀ ns : List Int, ns.length ≤ n → f [.scr ns] = some (.bl true)) ∧
        ∀ base : Heap, K.In base → base.Ns mainGlobals mg → (∀ p ∈ cs, TabB base mg p.1 p.2) → FnG l.prog w K mg base k fa fd [x] (spL K mg T 1 f)) :
    PySem.W.WalkO q loose XP YP l.row.toRowW d [] (fun f vs => PySem.call f vs) := by
  refine Att.attach_call hn hdf fun w s₀ t mg mb fa o pm cd doc a vs ns G Y ho hd hcd hmg hobj hints hlen hg => ?_
  obtain ⟨K, fd, f, cs, T, KX, hb, hT, nT, hC, hTc, hf, hF⟩ := F w mg fa _ Y G.T.g hmg
  refine lawL KX G.T.g G.T.b G.T.builtins G.T.nolimit hg hT nT hC G.T.bmain hobj hints (Nat.le_trans hlen hn2) hr hF hb fun H tb sq => ?_
  refine ⟨[], [.scr ns], .bl true, rfl, Live.nil H, tabs0 fun p hp => ?_, .cons (.scr (by rw [cut_nil]; exact sq)) .nil, hf ns hlen, fun v H' _ _ r => rep_bl r⟩
  obtain ⟨c, hc, ec⟩ := List.mem_map.mp (hTc p hp)
  rw [← ec]
  exact tb c hc
/-! ### the head -/
theorem tabEmpty_ok {o : Option Obj} (h : tabEmpty o = true) : o = some { cls := .none, data := .fields #[] } := by
  cases o with
  | none => cases h
  | some o =>
    obtain ⟨oc, od, dt, osl⟩ := o
    cases oc with
    | none =>
      cases od with
      | none =>
        cases dt with
        | fields vs =>
          obtain ⟨h1, h2⟩ := He.ba (show (vs.isEmpty && osl.isEmpty) = true from h)
          rw [Array.isEmpty_iff.mp h1, Array.isEmpty_iff.mp h2]
        | _ => cases h
      | some a => cases dt <;> cases h
    | _ => cases od <;> cases dt <;> cases h
def obLG (n : Nat) (fa : List (PySem.W.Frag → Bool)) (fn fl : List DefX) (g : Addr → Option Obj) : He.AlD × Bool := (obX fa fn (He.frG g (asL g n)), lamB (He.frG g (asL g n)) g fl)
structure SaysL (fa : List (PySem.W.Frag → Bool)) (fn fl : List DefX) (K : PySem.W.Frag) (h : Heap) : Prop where
  x : SaysX fa fn K
  cd : ∀ d ∈ fl, cdB K (d.at_ K) = true
  tb : ∀ d ∈ fl, h.get? (tbA K (d.at_ K)) = some { cls := .none, data := .fields #[] }
  nd : nodupA (fl.map fun d => tbA K (d.at_ K)) = true
def hookL (n : Nat) (fa : List (PySem.W.Frag → Bool)) (fn fl : List DefX) : PySem.W.Hook where
  α := He.AlD × Bool
  obs := fun s => obLG n fa fn fl s.heap.get?
  val := fun _ => (vaX fn, true)
  says := fun _ h => ∃ K : PySem.W.Frag, K.In h ∧ SaysL fa fn fl K h
  of := fun _ s e => by
    have e1 : obX fa fn (He.frG s.heap.get? (asL s.heap.get? n)) = vaX fn := congrArg (fun z : He.AlD × Bool => z.1) e
    have e2 : lamB (He.frG s.heap.get? (asL s.heap.get? n)) s.heap.get? fl = true := congrArg (fun z : He.AlD × Bool => z.2) e
    obtain ⟨e3, e4⟩ := He.ba e2
    refine ⟨_, He.frG_in, e1, fun d hd => ?_, fun d hd => ?_, e4⟩
    · exact (He.ba (List.all_eq_true.mp e3 d hd)).1
    · exact tabEmpty_ok (He.ba (List.all_eq_true.mp e3 d hd)).2
  keeps := fun _ _ _ ⟨K, hK, c⟩ k => ⟨K, PySem.W.Frag.In.keeps hK k, c.x, c.cd, fun d hd => k _ _ (c.tb d hd), c.nd⟩
theorem obLG_eq {n : Nat} {fa : List (PySem.W.Frag → Bool)} {fn fl : List DefX} {g : Addr → Option Obj} {s : Shared} (h : ∀ a, g a = s.heap.get? a) : obLG n fa fn fl g = (hookL n fa fn fl).obs s := by
  have e : g = s.heap.get? := funext h
  rw [e]; rfl
/-- the tables, by name -/
def tabsOf (K : PySem.W.Frag) (fl : List DefX) : List (Addr × Str) := fl.map fun d => (tbA K (d.at_ K), d.qual ++ ".<locals>." ++ "<lambda>")
theorem tabsOf_uniq {K : PySem.W.Frag} : ∀ {fl : List DefX}, nodupA (fl.map fun d => tbA K (d.at_ K)) = true → ∀ d ∈ fl, ∀ p ∈ tabsOf K fl, p.1 = tbA K (d.at_ K) → p.2 = d.qual ++ ".<locals>." ++ "<lambda>"
  | [], _, d, hd, _, _, _ => by cases hd
  | d0 :: fl, h, d, hd, p, hp, e => by
    obtain ⟨h1, h2⟩ := He.ba (show (!(fl.map fun d => tbA K (d.at_ K)).contains (tbA K (d0.at_ K)) && nodupA (fl.map fun d => tbA K (d.at_ K))) = true from h)
    have no : ∀ d' ∈ fl, tbA K (d'.at_ K) ≠ tbA K (d0.at_ K) := fun d' hd' z => by
      have : (fl.map fun d => tbA K (d.at_ K)).contains (tbA K (d0.at_ K)) = true := by
        rw [List.contains_iff_mem]
        exact List.mem_map.mpr ⟨d', hd', z⟩
      rw [this] at h1; cases h1
    rcases List.mem_cons.mp hp with rfl | hp'
    · rcases List.mem_cons.mp hd with rfl | hd'
      · rfl
      · exact absurd e.symm (no d hd')
    · rcases List.mem_cons.mp hd with rfl | hd'
      · obtain ⟨d', hd', rfl⟩ := List.mem_map.mp hp'
        exact absurd e (no d' hd')
      · exact tabsOf_uniq h2 d hd' p hp' e
end Dv
set_option Elab.async false
set_option linter.all false
set_option maxRecDepth 100000
set_option maxHeartbeats 4000000
/-! DX10: the rules of DX1 .. DX9 as the printed texts use them -/
namespace Dv
open PySem PySem.Spec PyProof.Rows L2
/-! ### exception classes, looked at -/
theorem xcSh_ok {bmB : List Value} {n : String} {C : Addr} {o : Option Obj} (h : xcSh bmB n C o = true) : ∃ nm q N bs bm sn sub ab col dd k0 k1 k2 k3 k5, o = some (excClassObj nm q C N bs bm true sn sub ab col dd k0 k1 k2 k3 k5 n) ∧ refsB bmB bm = true := by
  unfold xcSh at h
  split at h
  case h_2 => cases h
  rename_i t dd cd sl
  obtain ⟨ht, h⟩ := He.ba h
  have ht := of_decide_eq_true ht
  subst ht
  split at h
  case h_2 => cases h
  rename_i A bm k0 k1 k2 k3 m k5 hm hs
  obtain ⟨_, h⟩ := He.ba h
  obtain ⟨h1, h⟩ := He.ba h
  obtain ⟨h2, h⟩ := He.ba h
  obtain ⟨h3, h⟩ := He.ba h
  obtain ⟨h4, h5⟩ := He.ba h
  have h1 := of_decide_eq_true h1
  have h2 := of_decide_eq_true h2
  subst h1 h2
  obtain ⟨nm, bs, mro, ns, qn, hd, sn, sub, ab, col, del⟩ := cd
  dsimp only at hm h3 h4
  have h3' : del = false := by cases del <;> simp_all
  subst hm h3' h4
  have e : sl = #[k0, k1, k2, k3, some (.builtin m), k5] := by
    obtain ⟨l⟩ := sl
    dsimp only at hs
    rw [hs]
  subst e
  exact ⟨nm, qn, ns, bs, bm, sn, sub, ab, col, dd, k0, k1, k2, k3, k5, rfl, h5⟩
theorem xcB_ok {K : PySem.W.Frag} {C : Addr} (e : xcB K C = true) : XcC K C := by
  obtain ⟨h1, e⟩ := He.ba e
  obtain ⟨h2, e⟩ := He.ba e
  obtain ⟨h3, e⟩ := He.ba e
  obtain ⟨h4, h5⟩ := He.ba e
  refine ⟨?_, He.eqO_ok h2, of_decide_eq_true h3, of_decide_eq_true h4, h5⟩
  rw [Bool.or_eq_true, Bool.or_eq_true] at h1
  rcases h1 with h | h | h
  · obtain ⟨nm, q, N, bs, bm, sn, sub, ab, col, dd, k0, k1, k2, k3, k5, ho, hr⟩ := xcSh_ok h
    exact ⟨nm, q, N, bs, bm, sn, sub, ab, col, dd, k0, k1, k2, k3, k5, _, _, _, _, ho, hr, base_V⟩
  · obtain ⟨nm, q, N, bs, bm, sn, sub, ab, col, dd, k0, k1, k2, k3, k5, ho, hr⟩ := xcSh_ok h
    exact ⟨nm, q, N, bs, bm, sn, sub, ab, col, dd, k0, k1, k2, k3, k5, _, _, _, _, ho, hr, base_L⟩
  · obtain ⟨nm, q, N, bs, bm, sn, sub, ab, col, dd, k0, k1, k2, k3, k5, ho, hr⟩ := xcSh_ok h
    exact ⟨nm, q, N, bs, bm, sn, sub, ab, col, dd, k0, k1, k2, k3, k5, _, _, _, _, ho, hr, base_A⟩
theorem xcFB_ok {K : PySem.W.Frag} {h : Heap} {mg : Str → Option Value} (X : K.In h) (G : h.Ns mainGlobals mg) {c : Nat} (e : xcFB K c = true) : XcF K mg c (He.ma K (He.ga K (clsName c)) "__init__") := by
  obtain ⟨h1, e⟩ := He.ba e
  obtain ⟨h2, e⟩ := He.ba e
  obtain ⟨h3, e⟩ := He.ba e
  obtain ⟨h4, h5⟩ := He.ba e
  exact ⟨⟨_, He.glo_ok X G h1, xcB_ok h2, He.eqO_ok h3, fun f hf => He.eqO_ok (List.all_eq_true.mp h4 f hf)⟩, of_decide_eq_true h5⟩
theorem xcIB_ok {K : PySem.W.Frag} {h : Heap} {mg : Str → Option Value} (X : K.In h) (G : h.Ns mainGlobals mg) {c : Nat} (e : xcIB K c = true) : XcI K mg c (He.ga K (clsName c)) := by
  obtain ⟨h1, e⟩ := He.ba e
  obtain ⟨h2, e⟩ := He.ba e
  obtain ⟨h3, e⟩ := He.ba e
  obtain ⟨h4, e⟩ := He.ba e
  obtain ⟨h5, e⟩ := He.ba e
  obtain ⟨h6, e⟩ := He.ba e
  obtain ⟨h7, e⟩ := He.ba e
  obtain ⟨h8, e⟩ := He.ba e
  obtain ⟨h9, e⟩ := He.ba e
  obtain ⟨h10, h11⟩ := He.ba e
  exact ⟨He.glo_ok X G h1, h2, He.eqO_ok h3, He.eqO_ok h4, of_decide_eq_true h5, He.eqO_ok h6, of_decide_eq_true h7, of_decide_eq_true h8, of_decide_eq_true h9, h10, fun f hf => He.eqO_ok (List.all_eq_true.mp h11 f hf)⟩
/-! ### defs -/
/-- an exception's __init__ that is done -/
structure DnE (P : Program) (w : World) (K : PySem.W.Frag) (mg : Str → Option Value) (base : Heap) (d : DefX) (fl : List Str) : Prop where
  ex : ∃ fd, d.fun K fd ∧ FnOk P w K mg base CX0 1 (d.at_ K) fd ("self" :: fl) (spXc K fl)
structure DnX (P : Program) (w : World) (K : PySem.W.Frag) (mg : Str → Option Value) (base : Heap) (d : DefX) (k : Nat) (ps : List Str) (sp : Sp) : Prop where
  ex : ∃ fd, d.fun K fd ∧ FnX P w K mg base k (d.at_ K) fd ps sp
structure DnN (P : Program) (w : World) (K : PySem.W.Frag) (mg : Str → Option Value) (base : Heap) (d : DefX) (k : Nat) (ps : List Str) (sp : Sp) : Prop where
  ex : ∃ fd, d.fun K fd ∧ FnN P w K mg base k (d.at_ K) fd ps sp
section
variable {P : Program} {w : World} {K : PySem.W.Frag} {mg : Str → Option Value} {base : Heap} {d : DefX} {N ps : List Str} {k : Nat} {m : M Fl}
abbrev BodyRX (P : Program) (w : World) (K : PySem.W.Frag) (mg : Str → Option Value) (base : Heap) (d : DefX) (N : List Str) (k : Nat) (m : M Fl) : Prop := BodyR P w K mg base N d.qual d.scope (d.at_ K) k d.body m
abbrev BodyNX (P : Program) (w : World) (K : PySem.W.Frag) (mg : Str → Option Value) (base : Heap) (d : DefX) (N : List Str) (k : Nat) (m : M Fl) : Prop := BodyN P w K mg base N d.qual d.scope (d.at_ K) k d.body m
abbrev BodyLX (P : Program) (w : World) (K : PySem.W.Frag) (mg : Str → Option Value) (base : Heap) (d : DefX) (N : List Str) (k : Nat) (T : List (Addr × Str)) (m : M Fl) : Prop := BodyL P w K mg base N d.qual d.scope (d.at_ K) k T d.body m
theorem dnX (F : ∃ fd, d.fun K fd) (S : FnScope N ps d.scope) (hb : BodyRX P w K mg base d N k m) : DnX P w K mg base d (k + 1) ps (spX K mg ps.length (runX N.length m)) := by
  obtain ⟨fd, F⟩ := F
  exact ⟨fd, F, fnX F S hb⟩
theorem dnXI {c : Nat} (F : ∃ fd, d.fun K fd) (S : FnScope N ps d.scope) (hb : BodyRX P w K mg base d N k m) : DnX P w K mg base d (k + 1) ps (spXI K mg ps.length c (runXI N.length c m)) := by
  obtain ⟨fd, F⟩ := F
  exact ⟨fd, F, fnXI F S hb⟩
theorem dnN (F : ∃ fd, d.fun K fd) (S : FnScope N ps d.scope) (hb : BodyNX P w K mg base d N k m) : DnN P w K mg base d (k + 1) ps (spD K mg ps.length (runD N.length m)) := by
  obtain ⟨fd, F⟩ := F
  exact ⟨fd, F, fnN F S hb⟩
theorem dnL {T : List (Addr × Str)} (F : ∃ fd, d.fun K fd) (S : FnScope N ps d.scope) (hb : BodyLX P w K mg base d N k T m) : Dn P w K mg base d (k + 1) ps (spL K mg T ps.length (runD N.length m)) := by
  obtain ⟨fd, F⟩ := F
  exact ⟨fd, F, fnL F S hb⟩
theorem dnWL {T : List (Addr × Str)} (F : ∃ fd, d.fun K fd) (S : FnScope N ps d.scope) (hb : BodyLX P w K mg base d N k T m) : Dn P w K mg base d (k + 1) ps (spWL K mg T ps.length (runW N.length m)) := by
  obtain ⟨fd, F⟩ := F
  exact ⟨fd, F, fnWL F S hb⟩
theorem Dn.x {sp : Sp} (h : Dn P w K mg base d k ps sp) : DnX P w K mg base d k ps sp := by
  obtain ⟨fd, F, fn⟩ := h.ex
  exact ⟨fd, F, fn.x⟩
theorem DnN.g {sp : Sp} (h : DnN P w K mg base d k ps sp) : Dn P w K mg base d k ps sp := by
  obtain ⟨fd, F, fn⟩ := h.ex
  exact ⟨fd, F, fn.g⟩
end
section
variable {X : Cx} {G : Gx} {d : DefX} {k k' n c : Nat} {C : Addr} {ps ks : List Str} {x m : Str} {p pos apos : Pos} {o e : Expr} {es : List Expr} {kws : List Keyword} {fa fk : M (List D)} {xa xk : M (Out (List D))} {fo : M D} {xo : M (Out D)} {gD : List D → List D → List D} {cs : List Nat}
theorem xcall {F : List D → Option (Out D)} (tk : Takes X G.wx) (h : DnX X.prog X.w X.K X.mg X.base d k' ps (spX X.K X.mg ps.length F)) (kb : KBs X.K X.mg d ps n ks gD) (hr : Room k X.A) (hgd : X.A.guards = some []) (hm : X.mg x = some (.ref (d.at_ X.K))) (hg : Gl X x)
    (ha : AX X G (e :: es) xa) (hkw : KX X G kws xk) (hk : k' ≤ k := by decide) (hall : (backToKw pos (keywordEach kws X.env)).all (·.1.isSome) = true := by rfl) (hks : (backToKw pos (keywordEach kws X.env)).filterMap (·.1) = ks := by rfl)
    (hdb : (x == ("__debug__" : Str)) = false := by decide) (he : starEach (e :: es) X.env = (false, eval e X.env) :: starEach es X.env := by rfl)
    (hpl : ((backTo pos (starEach (e :: es) X.env)).any (·.1) || (backToKw pos (keywordEach kws X.env)).any (·.1.isNone)) = false := by rfl) :
    EX X G (.Call (.Name x p) (e :: es) kws pos) (xFn n ks.length gD F xa xk) := by
  obtain ⟨fd, F, fn⟩ := h.ex
  exact ex_call tk fn (hr.mono hk) hgd hg hm F.kp (kb fd F) ha hkw hall hks hdb he hpl
theorem xmk {F : List D → Option (Out (List D))} (tk : Takes X G.wx) (Mc : Mk X.K C (d.at_ X.K)) (h : DnX X.prog X.w X.K X.mg X.base d k' ps (spXI X.K X.mg ps.length c F)) (kb : KIs X.K X.mg d ps n ks gD) (hr : Room k X.A) (hgd : X.A.guards = some []) (hm : X.mg (clsName c) = some (.ref C)) (hg : Gl X (clsName c)) (hx : x = clsName c)
    (ha : AX X G (e :: es) xa) (hkw : KX X G kws xk) (hk : k' + 1 ≤ k := by decide) (hall : (backToKw pos (keywordEach kws X.env)).all (·.1.isSome) = true := by rfl) (hks : (backToKw pos (keywordEach kws X.env)).filterMap (·.1) = ks := by rfl)
    (hdb : (x == ("__debug__" : Str)) = false := by decide) (he : starEach (e :: es) X.env = (false, eval e X.env) :: starEach es X.env := by rfl)
    (hpl : ((backTo pos (starEach (e :: es) X.env)).any (·.1) || (backToKw pos (keywordEach kws X.env)).any (·.1.isNone)) = false := by rfl) :
    EX X G (.Call (.Name x p) (e :: es) kws pos) (xMk c n ks.length gD F xa xk) := by
  obtain ⟨fd, F, fn⟩ := h.ex
  exact ex_mk tk Mc fn (hr.mono hk) hgd hg hm (kb fd F) hx ha hkw hall hks hdb he hpl
theorem xmk0 {F : List D → Option (Out (List D))} (tk : Takes X G.wx) (Mc : Mk X.K C (d.at_ X.K)) (h : DnX X.prog X.w X.K X.mg X.base d k' ps (spXI X.K X.mg ps.length c F)) (kb : KIs X.K X.mg d ps 0 ks gD) (hr : Room k X.A) (hgd : X.A.guards = some []) (hm : X.mg (clsName c) = some (.ref C)) (hg : Gl X (clsName c)) (hx : x = clsName c)
    (hkw : KX X G kws xk) (hk : k' + 1 ≤ k := by decide) (hall : (backToKw pos (keywordEach kws X.env)).all (·.1.isSome) = true := by rfl) (hks : (backToKw pos (keywordEach kws X.env)).filterMap (·.1) = ks := by rfl)
    (hdb : (x == ("__debug__" : Str)) = false := by decide) (hpl : (backToKw pos (keywordEach kws X.env)).any (·.1.isNone) = false := by rfl) :
    EX X G (.Call (.Name x p) [] kws pos) (xMk c 0 ks.length gD F (mUp aNil) xk) := by
  obtain ⟨fd, F, fn⟩ := h.ex
  exact ex_mk0 tk Mc fn (hr.mono hk) hgd hg hm (kb fd F) hx hkw hall hks hdb hpl
theorem xmeth {F : List D → Option (Out D)} {pl : Sem Bool} (tk : Takes X G.wx) (ho : EX X G o xo) (hcs : ∀ c ∈ cs, ∃ C, ClsF X.K X.mg c C ∧ Meth X.K C m (d.at_ X.K) ∧ m ∉ clsFlds c) (h : DnX X.prog X.w X.K X.mg X.base d k' ps (spX X.K X.mg ps.length F)) (hb : Bds X.K d ps) (hr : Room k X.A) (hgd : X.A.guards = some [])
    (ha : AX X G (e :: es) xa) (hk : k' ≤ k := by decide) (hst : starEach (e :: es) X.env = (false, eval e X.env) :: starEach es X.env := by rfl) (hpl : (backTo pos (starEach es X.env)).any (·.1) = false := by rfl)
    (ht : eval (.Call (.Attribute o m apos) (e :: es) [] pos) X.env = (do
      let ov ← eval o X.env
      standAt apos.atName
      let (f, first) ← holding [ov] (getMethod ov m pl)
      callWith pos f first (backTo pos (starEach (e :: es) X.env)) (backToKw pos (keywordEach [] X.env))) := by rfl) : EX X G (.Call (.Attribute o m apos) (e :: es) [] pos) (xMe ps.length cs F xo xa) := by
  obtain ⟨fd, F1, F2⟩ := h.ex
  exact ex_meth tk ho hcs F2 (hr.mono hk) hgd (hb fd F1) ha hst hpl ht
theorem xraise {xf : M (Out (List D))} {pos' : Pos} (tk : Takes X G.wx) (hc : X.calm = true) (T : XcF X.K X.mg c (d.at_ X.K)) (h : DnE X.prog X.w X.K X.mg X.base d (clsFlds c).reverse) (hb : Bds X.K d ("self" :: (clsFlds c).reverse)) (hr : Room k X.A) (hx : x = clsName c) (hg : Gl X (clsName c)) (ha : AX X G (e :: es) xf)
    (hk : 2 ≤ k := by decide) (hl : (clsFlds c).length ≤ 1000 := by decide) (hdb : (x == ("__debug__" : Str)) = false := by decide) (he : starEach (e :: es) X.env = (false, eval e X.env) :: starEach es X.env := by rfl) (hpl : (backTo pos (starEach es X.env)).any (·.1) = false := by rfl) :
    DS X G (.Raise (some (.Call (.Name x p) (e :: es) [] pos)) none pos') (sRaise c xf) := by
  obtain ⟨fd, F1, F2⟩ := h.ex
  exact ds_raise tk hc T F2 (hr.mono hk) (hb fd F1) hx hg ha hl hdb he hpl
theorem dmkX (T : XcF X.K X.mg c (d.at_ X.K)) (h : DnE X.prog X.w X.K X.mg X.base d (clsFlds c).reverse) (hb : Bds X.K d ("self" :: (clsFlds c).reverse)) (hr : Room k X.A) (hx : x = clsName c) (hg : Gl X (clsName c)) (ha : DA X G (e :: es) fa)
    (hk : 2 ≤ k := by decide) (hl : (clsFlds c).length ≤ 1000 := by decide) (hdb : (x == ("__debug__" : Str)) = false := by decide) (he : starEach (e :: es) X.env = (false, eval e X.env) :: starEach es X.env := by rfl) (hpl : (backTo pos (starEach es X.env)).any (·.1) = false := by rfl) :
    DE X G (.Call (.Name x p) (e :: es) [] pos) (mMkX c fa) := by
  obtain ⟨fd, F1, F2⟩ := h.ex
  exact de_mkX T F2 (hr.mono hk) (hb fd F1) hx hg ha hl hdb he hpl
theorem dnE1 {P : Program} {w : World} {K : PySem.W.Frag} {mg : Str → Option Value} {base : Heap} {d : DefX} {g : Str} {p1 p2 p3 pos : Pos} (F : ∃ fd, d.fun K fd) (S : FnScope ["self", g] ["self", g] d.scope) (hbd : d.body = [.Assign [.Attribute (.Name "self" p1) g p2] (.Name g p3) pos]) (hd : (g == ("__debug__" : Str)) = false := by decide) (hcd : (g == ("__classdict__" : Str)) = false := by decide) : DnE P w K mg base d [g] := by
  obtain ⟨fd, F⟩ := F
  have F' := F
  unfold DefX.fun at F'
  rw [hbd] at F'
  exact ⟨fd, F, fn_xc1 F' S hd hcd⟩
theorem dnE2 {P : Program} {w : World} {K : PySem.W.Frag} {mg : Str → Option Value} {base : Heap} {d : DefX} {g g' : Str} {p1 p2 p3 pos q1 q2 q3 pos' : Pos} (F : ∃ fd, d.fun K fd) (S : FnScope ["self", g, g'] ["self", g, g'] d.scope) (hbd : d.body = [.Assign [.Attribute (.Name "self" p1) g p2] (.Name g p3) pos, .Assign [.Attribute (.Name "self" q1) g' q2] (.Name g' q3) pos'])
    (hd : (g == ("__debug__" : Str)) = false := by decide) (hcd : (g == ("__classdict__" : Str)) = false := by decide) (hd' : (g' == ("__debug__" : Str)) = false := by decide) (hcd' : (g' == ("__classdict__" : Str)) = false := by decide) : DnE P w K mg base d [g, g'] := by
  obtain ⟨fd, F⟩ := F
  have F' := F
  unfold DefX.fun at F'
  rw [hbd] at F'
  exact ⟨fd, F, fn_xc2 F' S hd hcd hd' hcd'⟩
theorem dcallN {F : List D → Option D} (h : DnN X.prog X.w X.K X.mg X.base d k' ps (spD X.K X.mg ps.length F)) (hb : Bds X.K d ps) (hr : RoomN k X.A) (hgd : X.A.guards = some []) (hm : X.mg x = some (.ref (d.at_ X.K))) (hg : Gl X x) (ha : DA X G (e :: es) fa) (hk : k' ≤ k := by decide)
    (hdb : (x == ("__debug__" : Str)) = false := by decide) (he : starEach (e :: es) X.env = (false, eval e X.env) :: starEach es X.env := by rfl) (hpl : (backTo pos (starEach es X.env)).any (·.1) = false := by rfl) :
    DE X G (.Call (.Name x p) (e :: es) [] pos) (mFn ps.length 0 (fun ds _ => ds) F fa aNil) := by
  obtain ⟨fd, F1, F2⟩ := h.ex
  exact de_callN F2 (hr.mono hk) hgd hg hm F1.kp (hb fd F1) ha hdb he hpl
theorem dcallL {F : List D → Option D} {T : List (Addr × Str)} (eT : G.T = T) (hT : T ≠ []) (h : Dn X.prog X.w X.K X.mg X.base d k' ps (spL X.K X.mg T ps.length F)) (kb : KBs X.K X.mg d ps n ks gD) (hr : Room k X.A) (hgd : X.A.guards = some []) (hm : X.mg x = some (.ref (d.at_ X.K))) (hg : Gl X x)
    (ha : DA X G (e :: es) fa) (hkw : DK X G kws fk) (hk : k' ≤ k := by decide) (hall : (backToKw pos (keywordEach kws X.env)).all (·.1.isSome) = true := by rfl) (hks : (backToKw pos (keywordEach kws X.env)).filterMap (·.1) = ks := by rfl)
    (hdb : (x == ("__debug__" : Str)) = false := by decide) (he : starEach (e :: es) X.env = (false, eval e X.env) :: starEach es X.env := by rfl)
    (hpl : ((backTo pos (starEach (e :: es) X.env)).any (·.1) || (backToKw pos (keywordEach kws X.env)).any (·.1.isNone)) = false := by rfl) :
    DE X G (.Call (.Name x p) (e :: es) kws pos) (mFn n ks.length gD F fa fk) := by
  subst eT
  obtain ⟨fd, F, fn⟩ := h.ex
  exact de_callL fn hT (hr.mono hk) hgd hg hm F.kp (kb fd F) ha hkw hall hks hdb he hpl
theorem dcallWL {F : List D → List D → Option (D × List D)} {T : List (Addr × Str)} (eT : G.T = T) (hT : T ≠ []) (i : Nat) (ho : PE X o (tVar i)) (h : Dn X.prog X.w X.K X.mg X.base d k' ps (spWL X.K X.mg T ps.length F)) (hb : Bds X.K d ps) (hr : Room k X.A) (hgd : X.A.guards = some []) (hm : X.mg x = some (.ref (d.at_ X.K))) (hg : Gl X x)
    (ha : DA X G es fa) (hk : k' ≤ k := by decide) (hdb : (x == ("__debug__" : Str)) = false := by decide) (hst : starEach (o :: es) X.env = (false, eval o X.env) :: starEach es X.env := by rfl) (hpl : (backTo pos (starEach es X.env)).any (·.1) = false := by rfl) :
    DE X G (.Call (.Name x p) (o :: es) [] pos) (mFnW i ps.length F fa) := by
  subst eT
  obtain ⟨fd, F, fn⟩ := h.ex
  exact de_callWL i ho fn hT (hr.mono hk) hgd hg hm F.kp (hb fd F) ha hdb hst hpl
end
end Dv
set_option Elab.async false
set_option linter.all false
set_option maxRecDepth 100000
set_option maxHeartbeats 4000000
/-! DX11: catching, as the printed texts use it; x in o; {} -/
namespace Dv
open PySem PySem.Spec PyProof.Rows L2 LamX PySem.Spec PyProof.Rows
def trySuite : List Stmt → List Stmt
  | [.Try _ [.ExceptHandler _ _ s _] _ _ _, _] => s
  | _ => []
def tryRet : List Stmt → List Stmt
  | [.Try _ _ _ _ _, r] => [r]
  | _ => []
section
variable {X : Cx} {G : Gx}
theorem dhear {fl : List DefX} {d0 : DefX} {x a x1 x2 x3 told en : Str} {g : Addr} {k j : Nat} {pg : Arguments} {sg : Scope} {dvs : List V} {kws : List (Str × V)} {Ng : List Str} {params : Arguments} {body : Expr} {scope : Scope} {fx : M (Out D)} {p lpos pos p1 p2 p3 p4 p5 q1 q2 q3 q4 pt : Pos} {kt} {b0 ret : Stmt} {suite : List Stmt} {c1 c2 c3 : Value} {it ie kk : Nat} {hit : List Nat} {ms mr : M Fl}
    (F : ∃ fd, FunD X.K x x pg [.Try [.Assign [.Name told pt] (.Call (.Name a p1) [] [] p2) p3] [.ExceptHandler (some (.Tuple [.Name x1 q1, .Name x2 q2, .Name x3 q3] kt q4)) (some en) (b0 :: suite) p4] [] [] p5, ret] sg dvs kws g fd)
    (hb : ∀ fd, FunD X.K x x pg [.Try [.Assign [.Name told pt] (.Call (.Name a p1) [] [] p2) p3] [.ExceptHandler (some (.Tuple [.Name x1 q1, .Name x2 q2, .Name x3 q3] kt q4)) (some en) (b0 :: suite) p4] [] [] p5, ret] sg dvs kws g fd → Binds X.K fd [a] []) (Sg : FnScope Ng [a] sg)
    (hm : X.mg x = some (.ref g)) (h1 : X.mg x1 = some c1) (h2 : X.mg x2 = some c2) (h3 : X.mg x3 = some c3)
    (hhit : ∀ c ∈ hit, ∃ C, X.mg (clsName c) = some (.ref C) ∧ PySem.W.exmAny X.K (.ref C) [c1, c2, c3] = some true)
    (eT : G.T = tabsOf X.K fl) (hd0 : d0 ∈ fl) (cd : ∀ d ∈ fl, cdB X.K (d.at_ X.K) = true) (nd : nodupA (fl.map fun d => tbA X.K (d.at_ X.K)) = true) (tb : ∀ d ∈ fl, TabB X.base X.mg (cdA X.K (d.at_ X.K)) (tbA X.K (d.at_ X.K)))
    (hr : Room kk X.A) (hgd : X.A.guards = some []) (hbody : LamB X k scope body fx)
    (hsu : ∀ (cdv : Value) (s : Shared) (H : Hp) (ad : Addr) (pn : List (Addr × Obj)) (G : Gx), RoomN j (Cx.heard (actCx X Ng x sg g cdv s H) ad pn).A → (Cx.heard (actCx X Ng x sg g cdv s H) ad pn).A.guards = some [] → DSs (Cx.heard (actCx X Ng x sg g cdv s H) ad pn) G (b0 :: suite) ms)
    (hre : ∀ (cdv : Value) (s : Shared) (H : Hp) (G : Gx), DSs (actCx X Ng x sg g cdv s H) G [ret] mr)
    (hg : Gl X x) (hNg : Ng[0]? = some a := by rfl) (hit_ : Ng[it]? = some told := by rfl) (hie : Ng[ie]? = some en := by rfl) (hlt : sg.names.lookup told = some .local := by rfl) (hle : sg.names.lookup en = some .local := by rfl) (hva : Vis sg a := by exact .inl rfl)
    (g1 : sg.names.lookup x1 = some .globalImplicit ∧ (x1 == ("__debug__" : Str)) = false := by exact ⟨rfl, by decide⟩) (g2 : sg.names.lookup x2 = some .globalImplicit ∧ (x2 == ("__debug__" : Str)) = false := by exact ⟨rfl, by decide⟩) (g3 : sg.names.lookup x3 = some .globalImplicit ∧ (x3 == ("__debug__" : Str)) = false := by exact ⟨rfl, by decide⟩)
    (sc : Scope) (hsc : X.env.scope = sc := by rfl) (L : lamSB sc scope = true := by decide +kernel) (hdef : defaultsOf params X.env = ([], []) := by rfl)
    (hbind : ∀ (q : Str) (cl : List (Str × Addr)) (pm cv ctv : Value), bindArgs (PySem.W.kla_fn "<lambda>" q params body scope cl pm cv ctv) ⟨[], []⟩ = pure [] := by intros; rfl)
    (hj : j ≤ k + 1 := by decide) (hk : k + 2 ≤ kk := by decide)
    (hcode : X.env.code = cdV X.K (d0.at_ X.K) := by rfl) (hq : X.env.qual = d0.qual ++ ".<locals>." := by rfl)
    (hdb : (x == ("__debug__" : Str)) = false := by decide) (hd : (a == ("__debug__" : Str)) = false := by decide) (hcd : (a == ("__classdict__" : Str)) = false := by decide) :
    DE X G (.Call (.Name x p) [.Lambda params body scope lpos] [] pos) (mHear (heard Ng.length it ie hit ms mr) fx) := by
  obtain ⟨fd, F⟩ := F
  have hmT : (tbA X.K (d0.at_ X.K), X.env.qual ++ "<lambda>") ∈ G.T := by
    rw [eT, hq]
    exact List.mem_map.mpr ⟨d0, hd0, rfl⟩
  have hu : ∀ p ∈ G.T, p.1 = tbA X.K (d0.at_ X.K) → p.2 = X.env.qual ++ "<lambda>" := by
    rw [eT, hq]
    exact fun p hp e => tabsOf_uniq nd d0 hd0 p hp e
  have hc := (cdB_ok (cd d0 hd0)).1
  exact de_hear F (hb fd F) Sg hNg hit_ hie hlt hle hva hg hm ⟨g1.1, g1.2, h1⟩ ⟨g2.1, g2.2, h2⟩ ⟨g3.1, g3.2, h3⟩ hhit (tb d0 hd0) (hcode.trans hc) hmT hu (hr.mono hk) hgd (by rw [hsc]; exact lamS_by L) hdef hbind hbody (fun cdv s H ad pn G hr => hsu cdv s H ad pn G (hr.mono hj)) hre hdb hd hcd
/-! ### x in o, o of an own class -/
structure CtOk (K : PySem.W.Frag) (mg : Str → Option Value) (f : Addr) (c : Nat) : Prop where
  ex : ∃ C, ClsF K mg c C ∧ PySem.W.findIn K (.ref C) "__contains__" = some (some (.ref f))
def inO (neg : Bool) (cs : List Nat) (F : List D → Option D) (a b : D) : Option D := match b with
  | .obj c es => if c ∈ cs then (match F [.obj c es, a] with
    | some (.bl r) => some (.bl (if neg then !r else r))
    | _ => none) else none
  | _ => none
theorem op_inO {k : Nat} {f : Addr} {fd : FuncData} {ps : List Str} {F : List D → Option D} {cs : List Nat} (ht : ∀ c ∈ cs, CtOk X.K X.mg f c) (hf : PySem.W.isFn X.K (.ref f) = true) (Fn : FnG X.prog X.w X.K X.mg X.base k f fd ps (spD X.K X.mg ps.length F)) (hl : ps.length = 2) (hr : Room k X.A) (hgd : X.A.guards = some []) (hb : Binds X.K fd ps []) :
    OpD X (compareOp .In) (inO false cs F) ∧ OpD X (compareOp .NotIn) (inO true cs F) := by
  have main : ∀ neg, ∀ pins s σ H x y v u Q, Inv X pins σ H s → RelV x v → RelV y u → rD2 X (inO neg cs F) x y H Q → ∃ (ad C : Addr) (od : Option Obj) (ox : Obj), u = .ref ad ∧ PySem.W.InstAt s.heap ad ox C od ∧ PySem.W.findIn X.K (.ref C) "__contains__" = some (some (.ref f)) ∧
      wpAny (model X.prog X.w) X.A (call (.ref f) [.ref ad, v]) (fun r s' => wpAny (model X.prog X.w) X.A (truthy r) (fun b => EP X pins σ Q (.bool (if neg then !b else b))) X.xe s') X.xe s := fun neg pins s σ H x y v u Q I rx ry ⟨O, a, b, z, lv, ra, rb, e, q⟩ => by
    cases rb with
    | @obj ad' C' dx' c' xs' ds' g1 g2 g3 rl' =>
      simp only [inO] at e
      split at e
      · rename_i hc
        cases e1 : F [.obj c' ds', a] with
        | none => simp [e1] at e
        | some r0 =>
          cases r0 with
          | bl r =>
            simp only [e1] at e
            cases e
            obtain ⟨C0, hF, hs⟩ := (ht c' hc).ex
            have g1' := g1
            rw [hF.g] at g1; cases g1
            cases (show u = Value.ref ad' from ry)
            obtain ⟨mA', Om', _⟩ := ins_get I.hok (cut_some g2).2
            obtain ⟨od', J', _⟩ := Om'.look
            refine ⟨ad', _, _, _, rfl, J', hs, ?_⟩
            refine wpAny_mono (wp_at (us := [.ref ad', v]) (vs := [.ref ad', x]) (Q := fun w H' => w = .bl r ∧ Grow H H') Fn hr hgd I.env0 hb I (.cons rfl (.cons rx .nil)) ⟨O, _, .bl r, by simp [hl], lv, .cons (.obj g1' g2 g3 rl') (.cons ra .nil), e1, fun v' H' g r' => ⟨by cases r'; rfl, g⟩⟩) (fun u' s' h => ?_) fun _ _ h => h
            obtain ⟨v', H', I', r', e', g'⟩ := h
            subst e'
            cases (show u' = Value.bool r from r')
            refine wpAny_pure ?_
            exact ⟨.bl (if neg then !r else r), H', I', by cases neg <;> rfl, q _ H' g' (.bl _)⟩
          | _ => simp [e1] at e
      · cases e
    | _ => cases e
  refine ⟨fun pins s σ H x y v u Q I rx ry h => ?_, fun pins s σ H x y v u Q I rx ry h => ?_⟩
  · obtain ⟨ad, C, od, ox, rfl, J, hs, h⟩ := main false pins s σ H x y v u Q I rx ry h
    obtain ⟨m, fr⟩ := inv_fr I
    exact PySem.W.in_K fr I.ok.mod.kin J hs hf h
  · obtain ⟨ad, C, od, ox, rfl, J, hs, h⟩ := main true pins s σ H x y v u Q I rx ry h
    obtain ⟨m, fr⟩ := inv_fr I
    exact PySem.W.notIn_K fr I.ok.mod.kin J hs hf h
theorem dinO {F : List D → Option D} {cs : List Nat} {d : DefX} {k k' : Nat} {ps : List Str} (ht : ∀ c ∈ cs, CtOk X.K X.mg (d.at_ X.K) c) (hf : PySem.W.isFn X.K (.ref (d.at_ X.K)) = true) (h : Dn X.prog X.w X.K X.mg X.base d k' ps (spD X.K X.mg ps.length F)) (hl : ps.length = 2) (hb : Bds X.K d ps) (hr : Room k X.A) (hgd : X.A.guards = some []) (hk : k' ≤ k := by decide) :
    OpD X (compareOp .In) (inO false cs F) ∧ OpD X (compareOp .NotIn) (inO true cs F) := by
  obtain ⟨fd, Fd, fn⟩ := h.ex
  exact op_inO ht hf fn hl (hr.mono hk) hgd (hb fd Fd)
theorem dinY {F : List D → Option D} {cs : List Nat} {d : DefX} {k k' : Nat} {ps : List Str} (ht : ∀ c ∈ cs, CtOk X.K X.mg (d.at_ X.K) c) (hf : PySem.W.isFn X.K (.ref (d.at_ X.K)) = true) (h : Dn X.prog X.w X.K X.mg X.base d k' ps (spD X.K X.mg ps.length F)) (hl : ps.length = 2) (hb : Bds X.K d ps) (hr : Room k X.A) (hgd : X.A.guards = some []) (hk : k' ≤ k := by decide) :
    OpD X (compareOp .In) (inO false cs F) := (dinO ht hf h hl hb hr hgd hk).1
theorem dinN {F : List D → Option D} {cs : List Nat} {d : DefX} {k k' : Nat} {ps : List Str} (ht : ∀ c ∈ cs, CtOk X.K X.mg (d.at_ X.K) c) (hf : PySem.W.isFn X.K (.ref (d.at_ X.K)) = true) (h : Dn X.prog X.w X.K X.mg X.base d k' ps (spD X.K X.mg ps.length F)) (hl : ps.length = 2) (hb : Bds X.K d ps) (hr : Room k X.A) (hgd : X.A.guards = some []) (hk : k' ≤ k := by decide) :
    OpD X (compareOp .NotIn) (inO true cs F) := (dinO ht hf h hl hb hr hgd hk).2
theorem de_dict0 {pos : Pos} : DE X G (.Dict [] [] pos) (mPure (.dic [] [])) := pe_imp pe_dnewK fun σ H Q q => by
  obtain ⟨O, τ, d, τ', R, e, q⟩ := q
  cases e
  intro p hp
  refine q _ _ O (Le.grow (Grow.new hp)) (R.grow (Grow.new hp)) ?_
  exact Rep.dic (ks := []) (xs := []) (cut_of (R.live.ne hp) upd_same) rfl .nil
end
end Dv
set_option Elab.async false
set_option linter.all false
set_option maxRecDepth 100000
set_option maxHeartbeats 4000000
/-! DX12: list(range(i, j)) -/
namespace Dv
open PySem PySem.Spec PyProof.Rows L2
section
variable {X : Cx} {G : Gx}
theorem cr_range1 : CallR X (.type "range") (fun vs H Q => ∃ j, vs = [V.int j] ∧ ∀ p, H p = none → Q (.ref p) (upd H p (.rng 0 j))) := by
  intro pins s σ H vs us Q I r h
  obtain ⟨j, rfl, q⟩ := h
  obtain ⟨u1, rfl, rj⟩ := vals1 r
  obtain ⟨t, rfl⟩ := rj
  refine call_range_1 ⟨.ref s.heap.objs.size, upd H s.heap.objs.size (.rng 0 j), I.laid (t' := s.toks + 2) (fun b o e => Heap.get?_push_of_some _ e) (Nat.le_refl _) ?_, rfl, q _ (I.hok.fresh (Nat.le_refl _))⟩
  exact ⟨_, _, _, Heap.get?_push_size _ rfl⟩
def rgB (i j : Int) : Bool := decide (-(2 ^ 60) ≤ i ∧ i < 2 ^ 60 ∧ -(2 ^ 60) ≤ j ∧ j < 2 ^ 60 ∧ (j - i).toNat ≤ 20000)
theorem rg_small {i j : Int} (h : rgB i j = true) : Builtin.Range.small i j 1 = true := by
  have h := of_decide_eq_true h
  unfold Builtin.Range.small
  rw [rangeSize_nat]
  simp only [Builtin.Range.rangeFitsLong, Bool.and_eq_true, decide_eq_true_eq, Bool.or_eq_true]
  refine ⟨⟨⟨⟨?_, ?_⟩, ?_⟩, ?_⟩, .inr ?_⟩
  all_goals (first | (rw [if_pos (by decide)]) | skip)
  all_goals (try simp only [Bool.and_eq_true, decide_eq_true_eq])
  all_goals omega
theorem cr_listR (hd : X.A.handled = none) : CallR X (.type "list") (fun xs H Q => ∃ p i j, xs = [V.ref p] ∧ H p = some (.rng i j) ∧ rgB i j = true ∧ ∀ l, H l = none → Q (.ref l) (upd H l (.lst ((List.range (j - i).toNat).map fun (k : Nat) => V.int (i + (k : Int)))))) := by
  intro pins s σ H vs us Q I r h
  obtain ⟨p, i, j, rfl, hp, hb, q⟩ := h
  obtain ⟨u1, rfl, rj⟩ := vals1 r
  cases (show u1 = Value.ref p from rj)
  obtain ⟨t, u, v, ho⟩ := I.hok _ _ hp
  have hb' := of_decide_eq_true hb
  have sz : (20000 : Nat) ≤ sizeLine := by decide
  refine call_list_range hd ho (rg_small hb) (rangeSize_nat i j) (by omega) fun h' tk acc c kp e1 e2 => ?_
  refine ⟨.ref s.heap.objs.size, _, I.laid (t' := tk) kp (Nat.le_refl _) (show ObjOk X.prog X.w _ h' _ (.lst _) from ⟨?_, acc.toList, c, ?_, e1⟩), rfl, q _ (I.hok.fresh (Nat.le_refl _))⟩
  · rw [List.length_map, List.length_range]; omega
  · obtain ⟨e3, e4⟩ := e2
    have key : ∀ (n : Nat) (i : Int) (l : List Value), l.length = n → (∀ (k : Nat) (v : Value), l[k]? = some v → ∃ t, v = Value.int (i + (k : Int) * 1) t) → Vals ((List.range n).map fun (k : Nat) => V.int (i + (k : Int))) l := by
      intro n
      induction n with
      | zero => intro i l hl _; rw [List.length_eq_zero_iff.mp hl]; exact .nil
      | succ n ih =>
        intro i l hl hk
        match l, hl, hk with
        | v :: l, hl, hk =>
          rw [List.range_succ_eq_map, List.map_cons, List.map_map]
          obtain ⟨t, rfl⟩ := hk 0 v rfl
          refine .cons ⟨t, by simp⟩ ?_
          have := ih (i + 1) l (by simpa using hl) fun k v' hk' => by
            obtain ⟨t', e⟩ := hk (k + 1) v' (by simpa using hk')
            exact ⟨t', by rw [e]; congr 1; omega⟩
          have e : ((fun (k : Nat) => V.int (i + (k : Int))) ∘ Nat.succ) = fun (k : Nat) => V.int (i + 1 + (k : Int)) := by
            funext k
            show V.int (i + ((k + 1 : Nat) : Int)) = _
            congr 1; omega
          rw [e]
          exact this
    refine key _ _ acc.toList (by rw [Array.length_toList]; exact e3) fun k v hv => e4 k v (by rw [← Array.getElem?_toList]; exact hv)
def rngL1 : List D → Option (List D)
  | [.int j] => if rgB 0 j = true then some (rangeD 0 j.toNat 1) else none
  | _ => none
def rngL2 : List D → Option (List D)
  | [.int i, .int j] => if rgB i j = true then some (rangeD i (j - i).toNat 1) else none
  | _ => none
theorem repL_range {K : PySem.W.Frag} {mg : Str → Option Value} {H : Hp} (i : Int) (n : Nat) : RepL K mg H ((List.range n).map fun (k : Nat) => V.int (i + (k : Int))) (rangeD i n 1) := by
  unfold rangeD
  induction n with
  | zero => exact .nil
  | succ n ih =>
    rw [List.range_succ, List.map_append, List.map_append]
    exact RepL.append ih (.cons (by show Rep K mg H (V.int (i + (n : Int))) (D.int (i + (n : Int) * 1)); rw [Int.mul_one]; exact .int _) .nil)
theorem df_listR1 {a : Expr} {p p' pos pos' : Pos} {f : M (List D)} {k : Nat} (hr : Room k X.A) (hg : Gl X "list") (hm : X.mg "list" = none) (hg' : Gl X "range") (hm' : X.mg "range" = none) (ha : DA X G [a] f) (hs : starEach [a] X.env = (false, eval a X.env) :: starEach [] X.env := by rfl) :
    DF X G (.Call (.Name "list" p) [.Call (.Name "range" p') [a] [] pos'] [] pos) (mCallF rngL1 f) :=
  pe_imp (pe_callTy (cr_listR hr.hd) hg hm rfl (pa_cons (pe_callTy cr_range1 hg' hm' rfl ha (by decide) (by decide) hs rfl) pa_nil (by rfl)) (by decide) (by decide) (by rfl) (by rfl)) fun σ H Q q => by
    obtain ⟨O, τ, z, τ', R, e, q⟩ := q
    obtain ⟨l, e1, e2⟩ := mL_some e
    refine ⟨O, τ, l, τ', R, e1, fun xs H1 O1 l1 R1 r1 => ?_⟩
    match l, r1, e2 with
    | [.int j], .cons (.int _) .nil, e2 =>
      simp only [rngL1] at e2
      split at e2
      · rename_i hb
        cases e2
        refine ⟨j, rfl, fun p hp => ⟨p, 0, j, rfl, upd_same, hb, fun l hl => ?_⟩⟩
        have gp : Grow H1 (upd H1 p (.rng 0 j)) := Grow.new hp
        exact q l _ _ O1 hl (l1.trans (Le.grow gp)) (R1.grow gp) (by rw [Int.sub_zero]; exact repL_range 0 j.toNat)
      · cases e2
theorem df_listR2 {a b : Expr} {p p' pos pos' : Pos} {f : M (List D)} {k : Nat} (hr : Room k X.A) (hg : Gl X "list") (hm : X.mg "list" = none) (hg' : Gl X "range") (hm' : X.mg "range" = none) (ha : DA X G [a, b] f) (hs : starEach [a, b] X.env = (false, eval a X.env) :: starEach [b] X.env := by rfl) (hpl : (backTo pos' (starEach [b] X.env)).any (·.1) = false := by rfl) :
    DF X G (.Call (.Name "list" p) [.Call (.Name "range" p') [a, b] [] pos'] [] pos) (mCallF rngL2 f) :=
  pe_imp (pe_callTy (cr_listR hr.hd) hg hm rfl (pa_cons (pe_callTy cr_range2 hg' hm' rfl ha (by decide) (by decide) hs hpl) pa_nil (by rfl)) (by decide) (by decide) (by rfl) (by rfl)) fun σ H Q q => by
    obtain ⟨O, τ, z, τ', R, e, q⟩ := q
    obtain ⟨l, e1, e2⟩ := mL_some e
    refine ⟨O, τ, l, τ', R, e1, fun xs H1 O1 l1 R1 r1 => ?_⟩
    match l, r1, e2 with
    | [.int i, .int j], .cons (.int _) (.cons (.int _) .nil), e2 =>
      simp only [rngL2] at e2
      split at e2
      · rename_i hb
        cases e2
        refine ⟨i, j, rfl, fun p hp => ⟨p, i, j, rfl, upd_same, hb, fun l hl => ?_⟩⟩
        have gp : Grow H1 (upd H1 p (.rng i j)) := Grow.new hp
        exact q l _ _ O1 hl (l1.trans (Le.grow gp)) (R1.grow gp) (repL_range i (j - i).toNat)
      · cases e2
end
end Dv
set_option Elab.async false
set_option linter.all false
set_option maxRecDepth 100000
set_option maxHeartbeats 4000000
/-! DX13: steps through what may raise -/
namespace Dv
open PySem L2
section
variable {τ : Sd} {α β : Type}
theorem i_up {f : M α} {Q : Out α → Sd → Prop} (h : Ok f τ fun a τ1 => Q (.ok a) τ1) : Ok (mUp f) τ Q := i_bind (h.mono fun a τ1 q => i_pure q)
theorem i_xok {f : M (Out α)} {g : α → M (Out β)} {Q : Out β → Sd → Prop} (h : Ok f τ fun r τ1 => ∃ a, r = .ok a ∧ Ok (g a) τ1 Q) : Ok (xBind f g) τ Q := i_bind (h.mono fun r τ1 ⟨a, e, q⟩ => by subst e; exact q)
theorem i_xex {f : M (Out α)} {g : α → M (Out β)} {Q : Out β → Sd → Prop} (h : Ok f τ fun r τ1 => ∃ c ds, r = .ex c ds ∧ Q (.ex c ds) τ1) : Ok (xBind f g) τ Q := i_bind (h.mono fun r τ1 ⟨c, ds, e, q⟩ => by subst e; exact i_pure q)
theorem i_xcons {fa : M (Out D)} {fr : M (Out (List D))} {Q : Out (List D) → Sd → Prop} (h : Ok fa τ fun r τ1 => ∃ a, r = .ok a ∧ Ok fr τ1 fun r2 τ2 => ∃ l, r2 = .ok l ∧ Q (.ok (a :: l)) τ2) : Ok (xCons fa fr) τ Q :=
  i_xok (h.mono fun r τ1 ⟨a, e, q⟩ => ⟨a, e, i_xok (q.mono fun r2 τ2 ⟨l, e2, q⟩ => ⟨l, e2, i_pure q⟩)⟩)
theorem i_xfn {n m : Nat} {gD : List D → List D → List D} {F : List D → Option (Out α)} {fa fk : M (Out (List D))} {Q : Out α → Sd → Prop}
    (h : Ok fa τ fun r τ1 => ∃ ds, r = .ok ds ∧ Ok fk τ1 fun r2 τ2 => ∃ es, r2 = .ok es ∧ ds.length = n ∧ es.length = m ∧ Got (F (gD ds es)) fun z => Q z τ2) : Ok (xFn n m gD F fa fk) τ Q :=
  i_xok (h.mono fun r τ1 ⟨ds, e, q⟩ => ⟨ds, e, i_xok (q.mono fun r2 τ2 ⟨es, e2, h1, h2, z, e3, q⟩ => ⟨es, e2, i_lift ⟨z, by rw [if_pos ⟨h1, h2⟩]; exact e3, q⟩⟩)⟩)
theorem i_xmk {c n m : Nat} {gD : List D → List D → List D} {F : List D → Option (Out (List D))} {fa fk : M (Out (List D))} {Q : Out D → Sd → Prop}
    (h : Ok fa τ fun r τ1 => ∃ ds, r = .ok ds ∧ Ok fk τ1 fun r2 τ2 => ∃ es, r2 = .ok es ∧ ds.length = n ∧ es.length = m ∧ Got (F (gD ds es)) fun z => match z with
      | .ok fs => Q (.ok (.obj c fs)) τ2
      | .ex c' ds' => Q (.ex c' ds') τ2) : Ok (xMk c n m gD F fa fk) τ Q := by
  unfold xMk xBind
  refine i_bind (i_xfn (h.mono fun r τ1 ⟨ds, e, q⟩ => ⟨ds, e, q.mono fun r2 τ2 ⟨es, e2, h1, h2, z, e3, q⟩ => ⟨es, e2, h1, h2, z, e3, ?_⟩⟩))
  cases z with
  | ok fs => exact i_pure q
  | ex c' ds' => exact i_pure q
theorem i_xme {n : Nat} {cs : List Nat} {F : List D → Option (Out D)} {fo : M (Out D)} {fa : M (Out (List D))} {Q : Out D → Sd → Prop} (h : Ok fo τ fun r τ1 => ∃ d, r = .ok d ∧ isOb cs d = true ∧ Ok fa τ1 fun r2 τ2 => ∃ ds, r2 = .ok ds ∧ ds.length + 1 = n ∧ Got (F (d :: ds)) fun z => Q z τ2) : Ok (xMe n cs F fo fa) τ Q :=
  i_xok (h.mono fun r τ1 ⟨d, e, h1, q⟩ => ⟨d, e, by
    rw [if_pos h1]
    exact i_xok (q.mono fun r2 τ2 ⟨ds, e2, h2, z, e3, q⟩ => ⟨ds, e2, i_lift ⟨z, by rw [if_pos h2]; exact e3, q⟩⟩)⟩)
theorem i_hear {C : Out D → Option D} {fx : M (Out D)} {Q : D → Sd → Prop} (h : Ok fx τ fun r τ1 => Got (C r) fun d => Q d τ1) : Ok (mHear C fx) τ Q := i_bind (h.mono fun r τ1 ⟨d, e, q⟩ => i_lift ⟨d, e, q⟩)
theorem i_sretX {f : M (Out D)} {Q : Fl → Sd → Prop} (h : Ok f τ fun r τ1 => match r with
    | .ok d => Q (.rt d) τ1
    | .ex c ds => Q (.xc c ds) τ1) : Ok (sRetX f) τ Q := i_bind (h.mono fun r τ1 q => by cases r with | ok d => exact i_pure q | ex c ds => exact i_pure q)
theorem i_sexprX {f : M (Out D)} {Q : Fl → Sd → Prop} (h : Ok f τ fun r τ1 => match r with
    | .ok _ => Q .nx τ1
    | .ex c ds => Q (.xc c ds) τ1) : Ok (sExprX f) τ Q := i_bind (h.mono fun r τ1 q => by cases r with | ok d => exact i_pure q | ex c ds => exact i_pure q)
theorem i_ssetX {i : Nat} {f : M (Out D)} {Q : Fl → Sd → Prop} (h : Ok f τ fun r τ1 => match r with
    | .ok d => Q .nx (τ1.set i (some (.val d)))
    | .ex c ds => Q (.xc c ds) τ1) : Ok (sSetX i f) τ Q := i_bind (h.mono fun r τ1 q => by cases r with | ok d => exact ⟨_, _, rfl, q⟩ | ex c ds => exact i_pure q)
theorem i_sraise {c : Nat} {f : M (Out (List D))} {Q : Fl → Sd → Prop} (h : Ok f τ fun r τ1 => ∃ ds, r = .ok ds ∧ (clsFlds c).length = ds.length ∧ Q (.xc c ds.reverse) τ1) : Ok (sRaise c f) τ Q := i_bind (h.mono fun r τ1 ⟨ds, e, h1, q⟩ => by
  subst e
  show Ok (if (clsFlds c).length = ds.length then mPure (.xc c ds.reverse) else fun _ => none) τ1 Q
  rw [if_pos h1]
  exact i_pure q)
theorem i_bm {t : D → Bool} {g : D → List D → Option D} {fo : M D} {fa : M (List D)} {Q : D → Sd → Prop} (h : Ok fo τ fun d τ1 => t d = true ∧ Ok fa τ1 fun ds τ2 => Op (g d ds) fun z => Q z τ2) : Ok (mBm t g fo fa) τ Q := i_bind (h.mono fun d τ1 ⟨h1, q⟩ => by
  rw [if_pos h1]
  exact i_bind (q.mono fun ds τ2 q => i_lift q))
theorem i_mex {c : Nat} {fa : M (List D)} {Q : D → Sd → Prop} (h : Ok fa τ fun ds τ1 => (clsFlds c).length = ds.length ∧ Q (.exc c ds.reverse) τ1) : Ok (mMkX c fa) τ Q := i_bind (h.mono fun ds τ1 ⟨h1, q⟩ => i_lift ⟨_, by rw [if_pos h1], q⟩)
end
theorem runX_ok {n : Nat} {f : M Fl} {ds : List D} {P : D → Prop} (h : Ok f (start0 n ds) fun fl _ => ∃ d, fl = .rt d ∧ P d) : ∃ d, runX n f ds = some (.ok d) ∧ P d := by
  obtain ⟨fl, τ', e, d, rfl, p⟩ := h
  exact ⟨d, by unfold runX; rw [e]; rfl, p⟩
theorem runX_ex {n : Nat} {f : M Fl} {ds : List D} {c : Nat} {es : List D} (h : Ok f (start0 n ds) fun fl _ => fl = .xc c es) : runX n f ds = some (.ex c es) := by
  obtain ⟨fl, τ', e, rfl⟩ := h
  unfold runX
  rw [e]; rfl
/-- either -/
theorem runX_any {n : Nat} {f : M Fl} {ds : List D} {P : Out D → Prop} (h : Ok f (start0 n ds) fun fl _ => (∃ d, fl = .rt d ∧ P (.ok d)) ∨ ∃ c es, fl = .xc c es ∧ P (.ex c es)) : ∃ r, runX n f ds = some r ∧ P r := by
  obtain ⟨fl, τ', e, h⟩ := h
  rcases h with ⟨d, rfl, p⟩ | ⟨c, es, rfl, p⟩
  · exact ⟨.ok d, by unfold runX; rw [e]; rfl, p⟩
  · exact ⟨.ex c es, by unfold runX; rw [e]; rfl, p⟩
end Dv
set_option Elab.async false
set_option linter.all false
set_option maxRecDepth 100000
set_option maxHeartbeats 4000000
/-! DX18: the head, by a list of addresses -/
namespace Dv
open PySem PySem.Spec PyProof.Rows L2
def hookE (as : List Addr) (fa : List (PySem.W.Frag → Bool)) (fn fl : List DefX) : PySem.W.Hook where
  α := He.AlD × Bool
  obs := fun s => obE as fa fn fl s.heap.get?
  val := fun _ => (vaX fn, true)
  says := fun _ h => ∃ K : PySem.W.Frag, K.In h ∧ SaysL fa fn fl K h
  of := fun _ s e => by
    have e1 : obX fa fn (He.frG s.heap.get? as) = vaX fn := congrArg (fun z : He.AlD × Bool => z.1) e
    have e2 : lamB (He.frG s.heap.get? as) s.heap.get? fl = true := congrArg (fun z : He.AlD × Bool => z.2) e
    obtain ⟨e3, e4⟩ := He.ba e2
    refine ⟨_, He.frG_in, e1, fun d hd => ?_, fun d hd => ?_, e4⟩
    · exact (He.ba (List.all_eq_true.mp e3 d hd)).1
    · exact tabEmpty_ok (He.ba (List.all_eq_true.mp e3 d hd)).2
  keeps := fun _ _ _ ⟨K, hK, c⟩ k => ⟨K, PySem.W.Frag.In.keeps hK k, c.x, c.cd, fun d hd => k _ _ (c.tb d hd), c.nd⟩
theorem obE_eq {as : List Addr} {fa : List (PySem.W.Frag → Bool)} {fn fl : List DefX} {g : Addr → Option Obj} {s : Shared} (h : ∀ a, g a = s.heap.get? a) : obE as fa fn fl g = (hookE as fa fn fl).obs s := by
  have e : g = s.heap.get? := funext h
  rw [e]; rfl
end Dv
set_option Elab.async false
set_option linter.all false
set_option maxRecDepth 100000
set_option maxHeartbeats 4000000
/-! DX19: the same for a law without lambdas -/
namespace Dv
open PySem PySem.Spec PyProof.Rows L2
def hookY (as : List Addr) (fa : List (PySem.W.Frag → Bool)) (fn : List DefX) : PySem.W.Hook where
  α := He.AlD
  obs := fun s => obX fa fn (He.frG s.heap.get? as)
  val := fun _ => vaX fn
  says := fun _ h => ∃ K : PySem.W.Frag, K.In h ∧ SaysX fa fn K
  of := fun _ _ e => ⟨_, He.frG_in, e⟩
  keeps := fun _ _ _ ⟨K, hK, c⟩ k => ⟨K, PySem.W.Frag.In.keeps hK k, c⟩
theorem obY_eq {as : List Addr} {fa : List (PySem.W.Frag → Bool)} {fn : List DefX} {g : Addr → Option Obj} {s : Shared} (h : ∀ a, g a = s.heap.get? a) : obX fa fn (He.frG g as) = (hookY as fa fn).obs s := by
  have e : g = s.heap.get? := funext h
  rw [e]; rfl
end Dv
set_option Elab.async false
set_option linter.all false
set_option maxRecDepth 100000
set_option maxHeartbeats 4000000
noncomputable section
namespace Lw
open PySem PySem.Spec PyProof.Rows L2 Dv
theorem sc_law_cell : FnScope N_law_cell P_law_cell d_law_cell.scope := ⟨rfl, rfl, rfl, by decide +kernel, rfl, by decide +kernel, by decide +kernel⟩
theorem sc_law_well : FnScope N_law_well P_law_well d_law_well.scope := ⟨rfl, rfl, rfl, by decide +kernel, rfl, by decide +kernel, by decide +kernel⟩
theorem sc_law_draw : FnScope N_law_draw P_law_draw d_law_draw.scope := ⟨rfl, rfl, rfl, by decide +kernel, rfl, by decide +kernel, by decide +kernel⟩
theorem sc_law_flags : FnScope N_law_flags P_law_flags d_law_flags.scope := ⟨rfl, rfl, rfl, by decide +kernel, rfl, by decide +kernel, by decide +kernel⟩
theorem sc_is_integer : FnScope N_is_integer P_is_integer d_is_integer.scope := ⟨rfl, rfl, rfl, by decide +kernel, rfl, by decide +kernel, by decide +kernel⟩
theorem sc_check_numbers : FnScope N_check_numbers P_check_numbers d_check_numbers.scope := ⟨rfl, rfl, rfl, by decide +kernel, rfl, by decide +kernel, by decide +kernel⟩
theorem sc_least_period : FnScope N_least_period P_least_period d_least_period.scope := ⟨rfl, rfl, rfl, by decide +kernel, rfl, by decide +kernel, by decide +kernel⟩
theorem sc_least_form : FnScope N_least_form P_least_form d_least_form.scope := ⟨rfl, rfl, rfl, by decide +kernel, rfl, by decide +kernel, by decide +kernel⟩
theorem sc_flags_of : FnScope N_flags_of P_flags_of d_flags_of.scope := ⟨rfl, rfl, rfl, by decide +kernel, rfl, by decide +kernel, by decide +kernel⟩
theorem sc_Lagsx_initx : FnScope N_Lagsx_initx P_Lagsx_initx d_Lagsx_initx.scope := ⟨rfl, rfl, rfl, by decide +kernel, rfl, by decide +kernel, by decide +kernel⟩
theorem sc_law_comes : FnScope N_law_comes P_law_comes d_law_comes.scope := ⟨rfl, rfl, rfl, by decide +kernel, rfl, by decide +kernel, by decide +kernel⟩
theorem sc_law_form : FnScope N_law_form P_law_form d_law_form.scope := ⟨rfl, rfl, rfl, by decide +kernel, rfl, by decide +kernel, by decide +kernel⟩
theorem sc_law_sort : FnScope N_law_sort P_law_sort d_law_sort.scope := ⟨rfl, rfl, rfl, by decide +kernel, rfl, by decide +kernel, by decide +kernel⟩
theorem sc_law_kept : FnScope N_law_kept P_law_kept d_law_kept.scope := ⟨rfl, rfl, rfl, by decide +kernel, rfl, by decide +kernel, by decide +kernel⟩
theorem sc_law_caught : FnScope N_law_caught P_law_caught d_law_caught.scope := ⟨rfl, rfl, rfl, by decide +kernel, rfl, by decide +kernel, by decide +kernel⟩
theorem sc_InvalidNumberx_initx : FnScope N_InvalidNumberx_initx P_InvalidNumberx_initx d_InvalidNumberx_initx.scope := ⟨rfl, rfl, rfl, by decide +kernel, rfl, by decide +kernel, by decide +kernel⟩
theorem sc_flag_at : FnScope N_flag_at P_flag_at d_flag_at.scope := ⟨rfl, rfl, rfl, by decide +kernel, rfl, by decide +kernel, by decide +kernel⟩
theorem sc_TooManyx_initx : FnScope N_TooManyx_initx P_TooManyx_initx d_TooManyx_initx.scope := ⟨rfl, rfl, rfl, by decide +kernel, rfl, by decide +kernel, by decide +kernel⟩
theorem sc_FormedLagsx_initx : FnScope N_FormedLagsx_initx P_FormedLagsx_initx d_FormedLagsx_initx.scope := ⟨rfl, rfl, rfl, by decide +kernel, rfl, by decide +kernel, by decide +kernel⟩
theorem sc_lags_with : FnScope N_lags_with P_lags_with d_lags_with.scope := ⟨rfl, rfl, rfl, by decide +kernel, rfl, by decide +kernel, by decide +kernel⟩
theorem sc_bounded : FnScope N_bounded P_bounded d_bounded.scope := ⟨rfl, rfl, rfl, by decide +kernel, rfl, by decide +kernel, by decide +kernel⟩
theorem sc_Lags_shifted : FnScope N_Lags_shifted P_Lags_shifted d_Lags_shifted.scope := ⟨rfl, rfl, rfl, by decide +kernel, rfl, by decide +kernel, by decide +kernel⟩
theorem sc_Lagsx_eqx : FnScope N_Lagsx_eqx P_Lagsx_eqx d_Lagsx_eqx.scope := ⟨rfl, rfl, rfl, by decide +kernel, rfl, by decide +kernel, by decide +kernel⟩
theorem sc_Lags_start : FnScope N_Lags_start P_Lags_start d_Lags_start.scope := ⟨rfl, rfl, rfl, by decide +kernel, rfl, by decide +kernel, by decide +kernel⟩
theorem sc_Lags_period : FnScope N_Lags_period P_Lags_period d_Lags_period.scope := ⟨rfl, rfl, rfl, by decide +kernel, rfl, by decide +kernel, by decide +kernel⟩
theorem sc_Lags_members : FnScope N_Lags_members P_Lags_members d_Lags_members.scope := ⟨rfl, rfl, rfl, by decide +kernel, rfl, by decide +kernel, by decide +kernel⟩
theorem sc_Lags_first : FnScope N_Lags_first P_Lags_first d_Lags_first.scope := ⟨rfl, rfl, rfl, by decide +kernel, rfl, by decide +kernel, by decide +kernel⟩
theorem sc_Lags_endless : FnScope N_Lags_endless P_Lags_endless d_Lags_endless.scope := ⟨rfl, rfl, rfl, by decide +kernel, rfl, by decide +kernel, by decide +kernel⟩
theorem sc_Lagsx_boolx : FnScope N_Lagsx_boolx P_Lagsx_boolx d_Lagsx_boolx.scope := ⟨rfl, rfl, rfl, by decide +kernel, rfl, by decide +kernel, by decide +kernel⟩
theorem sc_text_of : FnScope N_text_of P_text_of d_text_of.scope := ⟨rfl, rfl, rfl, by decide +kernel, rfl, by decide +kernel, by decide +kernel⟩
theorem sc_Lagsx_reprx : FnScope N_Lagsx_reprx P_Lagsx_reprx d_Lagsx_reprx.scope := ⟨rfl, rfl, rfl, by decide +kernel, rfl, by decide +kernel, by decide +kernel⟩
theorem sc_Lagsx_strx : FnScope N_Lagsx_strx P_Lagsx_strx d_Lagsx_strx.scope := ⟨rfl, rfl, rfl, by decide +kernel, rfl, by decide +kernel, by decide +kernel⟩
theorem sc_law_text : FnScope N_law_text P_law_text d_law_text.scope := ⟨rfl, rfl, rfl, by decide +kernel, rfl, by decide +kernel, by decide +kernel⟩
theorem sc_law_is : FnScope N_law_is P_law_is d_law_is.scope := ⟨rfl, rfl, rfl, by decide +kernel, rfl, by decide +kernel, by decide +kernel⟩
theorem sc_law_moved : FnScope N_law_moved P_law_moved d_law_moved.scope := ⟨rfl, rfl, rfl, by decide +kernel, rfl, by decide +kernel, by decide +kernel⟩
theorem sc_law_in : FnScope N_law_in P_law_in d_law_in.scope := ⟨rfl, rfl, rfl, by decide +kernel, rfl, by decide +kernel, by decide +kernel⟩
theorem sc_Lags_upto : FnScope N_Lags_upto P_Lags_upto d_Lags_upto.scope := ⟨rfl, rfl, rfl, by decide +kernel, rfl, by decide +kernel, by decide +kernel⟩
theorem sc_Lagsx_containsx : FnScope N_Lagsx_containsx P_Lagsx_containsx d_Lagsx_containsx.scope := ⟨rfl, rfl, rfl, by decide +kernel, rfl, by decide +kernel, by decide +kernel⟩
theorem sc_law_members : FnScope N_law_members P_law_members d_law_members.scope := ⟨rfl, rfl, rfl, by decide +kernel, rfl, by decide +kernel, by decide +kernel⟩
theorem sc_law_right : FnScope N_law_right P_law_right d_law_right.scope := ⟨rfl, rfl, rfl, by decide +kernel, rfl, by decide +kernel, by decide +kernel⟩
theorem sc_law_some : FnScope N_law_some P_law_some d_law_some.scope := ⟨rfl, rfl, rfl, by decide +kernel, rfl, by decide +kernel, by decide +kernel⟩
theorem sc_law : FnScope N_law P_law d_law.scope := ⟨rfl, rfl, rfl, by decide +kernel, rfl, by decide +kernel, by decide +kernel⟩
structure Fx (K : PySem.W.Frag) (h : Heap) (mg : Str → Option Value) : Prop where
  X : K.In h
  G : h.Ns mainGlobals mg
  c : SaysL fa fn lamF K h
theorem Fx.cx {K : PySem.W.Frag} {h : Heap} {mg : Str → Option Value} (x : Fx K h mg) : SaysX fa fn K := x.c.x
abbrev Tb (K : PySem.W.Frag) (mg : Str → Option Value) (base : Heap) : Prop := ∀ d ∈ lamF, LamX.TabB base mg (cdA K (d.at_ K)) (tbA K (d.at_ K))
theorem fl_ne {K : PySem.W.Frag} : tabsOf K lamF ≠ [] := by unfold tabsOf lamF; exact fun z => nomatch z
theorem Fx.f_len {K : PySem.W.Frag} {h : Heap} {mg : Str → Option Value} (x : Fx K h mg) : mg "len" = none := He.free_ok x.X x.G (x.cx.fact 0)
theorem Fx.f_min {K : PySem.W.Frag} {h : Heap} {mg : Str → Option Value} (x : Fx K h mg) : mg "min" = none := He.free_ok x.X x.G (x.cx.fact 1)
theorem Fx.f_max {K : PySem.W.Frag} {h : Heap} {mg : Str → Option Value} (x : Fx K h mg) : mg "max" = none := He.free_ok x.X x.G (x.cx.fact 2)
theorem Fx.f_range {K : PySem.W.Frag} {h : Heap} {mg : Str → Option Value} (x : Fx K h mg) : mg "range" = none := He.free_ok x.X x.G (x.cx.fact 3)
theorem Fx.f_int {K : PySem.W.Frag} {h : Heap} {mg : Str → Option Value} (x : Fx K h mg) : mg "int" = none := He.free_ok x.X x.G (x.cx.fact 4)
theorem Fx.g_law_cell {K : PySem.W.Frag} {h : Heap} {mg : Str → Option Value} (x : Fx K h mg) : mg "_law_cell" = some (.ref (He.ga K "_law_cell")) := He.glo_ok x.X x.G (x.cx.fact 5)
theorem Fx.f_abs {K : PySem.W.Frag} {h : Heap} {mg : Str → Option Value} (x : Fx K h mg) : mg "abs" = none := He.free_ok x.X x.G (x.cx.fact 6)
theorem Fx.g_law_well {K : PySem.W.Frag} {h : Heap} {mg : Str → Option Value} (x : Fx K h mg) : mg "_law_well" = some (.ref (He.ga K "_law_well")) := He.glo_ok x.X x.G (x.cx.fact 7)
theorem Fx.g_law_draw {K : PySem.W.Frag} {h : Heap} {mg : Str → Option Value} (x : Fx K h mg) : mg "_law_draw" = some (.ref (He.ga K "_law_draw")) := He.glo_ok x.X x.G (x.cx.fact 8)
theorem Fx.g_law_flags {K : PySem.W.Frag} {h : Heap} {mg : Str → Option Value} (x : Fx K h mg) : mg "_law_flags" = some (.ref (He.ga K "_law_flags")) := He.glo_ok x.X x.G (x.cx.fact 9)
theorem Fx.f_tuple {K : PySem.W.Frag} {h : Heap} {mg : Str → Option Value} (x : Fx K h mg) : mg "tuple" = none := He.free_ok x.X x.G (x.cx.fact 10)
theorem Fx.ki_int_tuple {K : PySem.W.Frag} {h : Heap} {mg : Str → Option Value} (x : Fx K h mg) : PySem.W.kitOne K (.type "int") (.type "tuple") = some false := of_decide_eq_true (x.cx.fact 11)
theorem Fx.ki_bool_tuple {K : PySem.W.Frag} {h : Heap} {mg : Str → Option Value} (x : Fx K h mg) : PySem.W.kitOne K (.type "bool") (.type "tuple") = some false := of_decide_eq_true (x.cx.fact 12)
theorem Fx.ki_str_tuple {K : PySem.W.Frag} {h : Heap} {mg : Str → Option Value} (x : Fx K h mg) : PySem.W.kitOne K (.type "str") (.type "tuple") = some false := of_decide_eq_true (x.cx.fact 13)
theorem Fx.ki_tuple_tuple {K : PySem.W.Frag} {h : Heap} {mg : Str → Option Value} (x : Fx K h mg) : PySem.W.kitOne K (.type "tuple") (.type "tuple") = some true := of_decide_eq_true (x.cx.fact 14)
theorem Fx.ki_list_tuple {K : PySem.W.Frag} {h : Heap} {mg : Str → Option Value} (x : Fx K h mg) : PySem.W.kitOne K (.type "list") (.type "tuple") = some false := of_decide_eq_true (x.cx.fact 15)
theorem Fx.ki_NoneType_tuple {K : PySem.W.Frag} {h : Heap} {mg : Str → Option Value} (x : Fx K h mg) : PySem.W.kitOne K (.type "NoneType") (.type "tuple") = some false := of_decide_eq_true (x.cx.fact 16)
theorem Fx.ki_dict_tuple {K : PySem.W.Frag} {h : Heap} {mg : Str → Option Value} (x : Fx K h mg) : PySem.W.kitOne K (.type "dict") (.type "tuple") = some false := of_decide_eq_true (x.cx.fact 17)
theorem Fx.ki_Lags_tuple {K : PySem.W.Frag} {h : Heap} {mg : Str → Option Value} (x : Fx K h mg) : PySem.W.kitOne K (.ref (He.ga K (clsName 0))) (.type "tuple") = some false := of_decide_eq_true (x.cx.fact 18)
theorem Fx.c_Lags {K : PySem.W.Frag} {h : Heap} {mg : Str → Option Value} (x : Fx K h mg) : ClsF K mg 0 (He.ga K (clsName 0)) := clB_ok x.X x.G (x.cx.fact 19)
theorem Fx.ki_FormedLags_tuple {K : PySem.W.Frag} {h : Heap} {mg : Str → Option Value} (x : Fx K h mg) : PySem.W.kitOne K (.ref (He.ga K (clsName 1))) (.type "tuple") = some false := of_decide_eq_true (x.cx.fact 20)
theorem Fx.c_FormedLags {K : PySem.W.Frag} {h : Heap} {mg : Str → Option Value} (x : Fx K h mg) : ClsF K mg 1 (He.ga K (clsName 1)) := clB_ok x.X x.G (x.cx.fact 21)
theorem Fx.f_isinstance {K : PySem.W.Frag} {h : Heap} {mg : Str → Option Value} (x : Fx K h mg) : mg "isinstance" = none := He.free_ok x.X x.G (x.cx.fact 22)
theorem Fx.f_enumerate {K : PySem.W.Frag} {h : Heap} {mg : Str → Option Value} (x : Fx K h mg) : mg "enumerate" = none := He.free_ok x.X x.G (x.cx.fact 23)
theorem Fx.ki_int_int {K : PySem.W.Frag} {h : Heap} {mg : Str → Option Value} (x : Fx K h mg) : PySem.W.kitOne K (.type "int") (.type "int") = some true := of_decide_eq_true (x.cx.fact 24)
theorem Fx.ki_bool_int {K : PySem.W.Frag} {h : Heap} {mg : Str → Option Value} (x : Fx K h mg) : PySem.W.kitOne K (.type "bool") (.type "int") = some true := of_decide_eq_true (x.cx.fact 25)
theorem Fx.ki_str_int {K : PySem.W.Frag} {h : Heap} {mg : Str → Option Value} (x : Fx K h mg) : PySem.W.kitOne K (.type "str") (.type "int") = some false := of_decide_eq_true (x.cx.fact 26)
theorem Fx.ki_tuple_int {K : PySem.W.Frag} {h : Heap} {mg : Str → Option Value} (x : Fx K h mg) : PySem.W.kitOne K (.type "tuple") (.type "int") = some false := of_decide_eq_true (x.cx.fact 27)
theorem Fx.ki_list_int {K : PySem.W.Frag} {h : Heap} {mg : Str → Option Value} (x : Fx K h mg) : PySem.W.kitOne K (.type "list") (.type "int") = some false := of_decide_eq_true (x.cx.fact 28)
theorem Fx.ki_NoneType_int {K : PySem.W.Frag} {h : Heap} {mg : Str → Option Value} (x : Fx K h mg) : PySem.W.kitOne K (.type "NoneType") (.type "int") = some false := of_decide_eq_true (x.cx.fact 29)
theorem Fx.ki_dict_int {K : PySem.W.Frag} {h : Heap} {mg : Str → Option Value} (x : Fx K h mg) : PySem.W.kitOne K (.type "dict") (.type "int") = some false := of_decide_eq_true (x.cx.fact 30)
theorem Fx.ki_Lags_int {K : PySem.W.Frag} {h : Heap} {mg : Str → Option Value} (x : Fx K h mg) : PySem.W.kitOne K (.ref (He.ga K (clsName 0))) (.type "int") = some false := of_decide_eq_true (x.cx.fact 31)
theorem Fx.ki_FormedLags_int {K : PySem.W.Frag} {h : Heap} {mg : Str → Option Value} (x : Fx K h mg) : PySem.W.kitOne K (.ref (He.ga K (clsName 1))) (.type "int") = some false := of_decide_eq_true (x.cx.fact 32)
theorem Fx.f_bool {K : PySem.W.Frag} {h : Heap} {mg : Str → Option Value} (x : Fx K h mg) : mg "bool" = none := He.free_ok x.X x.G (x.cx.fact 33)
theorem Fx.ki_int_bool {K : PySem.W.Frag} {h : Heap} {mg : Str → Option Value} (x : Fx K h mg) : PySem.W.kitOne K (.type "int") (.type "bool") = some false := of_decide_eq_true (x.cx.fact 34)
theorem Fx.ki_bool_bool {K : PySem.W.Frag} {h : Heap} {mg : Str → Option Value} (x : Fx K h mg) : PySem.W.kitOne K (.type "bool") (.type "bool") = some true := of_decide_eq_true (x.cx.fact 35)
theorem Fx.ki_str_bool {K : PySem.W.Frag} {h : Heap} {mg : Str → Option Value} (x : Fx K h mg) : PySem.W.kitOne K (.type "str") (.type "bool") = some false := of_decide_eq_true (x.cx.fact 36)
theorem Fx.ki_tuple_bool {K : PySem.W.Frag} {h : Heap} {mg : Str → Option Value} (x : Fx K h mg) : PySem.W.kitOne K (.type "tuple") (.type "bool") = some false := of_decide_eq_true (x.cx.fact 37)
theorem Fx.ki_list_bool {K : PySem.W.Frag} {h : Heap} {mg : Str → Option Value} (x : Fx K h mg) : PySem.W.kitOne K (.type "list") (.type "bool") = some false := of_decide_eq_true (x.cx.fact 38)
theorem Fx.ki_NoneType_bool {K : PySem.W.Frag} {h : Heap} {mg : Str → Option Value} (x : Fx K h mg) : PySem.W.kitOne K (.type "NoneType") (.type "bool") = some false := of_decide_eq_true (x.cx.fact 39)
theorem Fx.ki_dict_bool {K : PySem.W.Frag} {h : Heap} {mg : Str → Option Value} (x : Fx K h mg) : PySem.W.kitOne K (.type "dict") (.type "bool") = some false := of_decide_eq_true (x.cx.fact 40)
theorem Fx.ki_Lags_bool {K : PySem.W.Frag} {h : Heap} {mg : Str → Option Value} (x : Fx K h mg) : PySem.W.kitOne K (.ref (He.ga K (clsName 0))) (.type "bool") = some false := of_decide_eq_true (x.cx.fact 41)
theorem Fx.ki_FormedLags_bool {K : PySem.W.Frag} {h : Heap} {mg : Str → Option Value} (x : Fx K h mg) : PySem.W.kitOne K (.ref (He.ga K (clsName 1))) (.type "bool") = some false := of_decide_eq_true (x.cx.fact 42)
theorem Fx.g_is_integer {K : PySem.W.Frag} {h : Heap} {mg : Str → Option Value} (x : Fx K h mg) : mg "is_integer" = some (.ref (He.ga K "is_integer")) := He.glo_ok x.X x.G (x.cx.fact 43)
theorem Fx.k_MOST_MEMBER {K : PySem.W.Frag} {h : Heap} {mg : Str → Option Value} (x : Fx K h mg) : ∃ t, mg "MOST_MEMBER" = some (.int 1000 t) := He.int_ok x.X x.G (x.cx.fact 44)
theorem Fx.g_check_numbers {K : PySem.W.Frag} {h : Heap} {mg : Str → Option Value} (x : Fx K h mg) : mg "check_numbers" = some (.ref (He.ga K "check_numbers")) := He.glo_ok x.X x.G (x.cx.fact 45)
theorem Fx.k_MOST_PERIOD {K : PySem.W.Frag} {h : Heap} {mg : Str → Option Value} (x : Fx K h mg) : ∃ t, mg "MOST_PERIOD" = some (.int 60 t) := He.int_ok x.X x.G (x.cx.fact 46)
theorem Fx.f_list {K : PySem.W.Frag} {h : Heap} {mg : Str → Option Value} (x : Fx K h mg) : mg "list" = none := He.free_ok x.X x.G (x.cx.fact 47)
theorem Fx.g_least_period {K : PySem.W.Frag} {h : Heap} {mg : Str → Option Value} (x : Fx K h mg) : mg "least_period" = some (.ref (He.ga K "least_period")) := He.glo_ok x.X x.G (x.cx.fact 48)
theorem Fx.g_flags_of {K : PySem.W.Frag} {h : Heap} {mg : Str → Option Value} (x : Fx K h mg) : mg "flags_of" = some (.ref (He.ga K "flags_of")) := He.glo_ok x.X x.G (x.cx.fact 49)
theorem Fx.g_least_form {K : PySem.W.Frag} {h : Heap} {mg : Str → Option Value} (x : Fx K h mg) : mg "least_form" = some (.ref (He.ga K "least_form")) := He.glo_ok x.X x.G (x.cx.fact 50)
theorem Fx.na_Lags_form {K : PySem.W.Frag} {h : Heap} {mg : Str → Option Value} (x : Fx K h mg) : NoAttr K (He.ga K (clsName 0)) "form" := He.noat_ok (x.cx.fact 51)
theorem Fx.na_FormedLags_form {K : PySem.W.Frag} {h : Heap} {mg : Str → Option Value} (x : Fx K h mg) : NoAttr K (He.ga K (clsName 1)) "form" := He.noat_ok (x.cx.fact 52)
theorem Fx.td_Lagsx_initx_1 {K : PySem.W.Frag} {h : Heap} {mg : Str → Option Value} (x : Fx K h mg) : tupE K (dfA K (He.ma K (He.ga K (clsName 0)) "__init__") 1) = true := (x.cx.fact 53)
theorem Fx.td_Lagsx_initx_0 {K : PySem.W.Frag} {h : Heap} {mg : Str → Option Value} (x : Fx K h mg) : tupE K (dfA K (He.ma K (He.ga K (clsName 0)) "__init__") 0) = true := (x.cx.fact 54)
theorem Fx.mk_Lags {K : PySem.W.Frag} {h : Heap} {mg : Str → Option Value} (x : Fx K h mg) : Mk K (He.ga K (clsName 0)) (d_Lagsx_initx.at_ K) := He.mkr_ok (x.cx.fact 55)
theorem Fx.g_law_comes {K : PySem.W.Frag} {h : Heap} {mg : Str → Option Value} (x : Fx K h mg) : mg "_law_comes" = some (.ref (He.ga K "_law_comes")) := He.glo_ok x.X x.G (x.cx.fact 56)
theorem Fx.g_law_form {K : PySem.W.Frag} {h : Heap} {mg : Str → Option Value} (x : Fx K h mg) : mg "_law_form" = some (.ref (He.ga K "_law_form")) := He.glo_ok x.X x.G (x.cx.fact 57)
theorem Fx.g_InvalidPeriod {K : PySem.W.Frag} {h : Heap} {mg : Str → Option Value} (x : Fx K h mg) : mg "InvalidPeriod" = some (.ref (He.ga K "InvalidPeriod")) := He.glo_ok x.X x.G (x.cx.fact 58)
theorem Fx.ki_TooMany_InvalidPeriod {K : PySem.W.Frag} {h : Heap} {mg : Str → Option Value} (x : Fx K h mg) : PySem.W.kitOne K (.ref (He.ga K (clsName 42))) (.ref (He.ga K "InvalidPeriod")) = some false := of_decide_eq_true (x.cx.fact 59)
theorem Fx.xi_TooMany {K : PySem.W.Frag} {h : Heap} {mg : Str → Option Value} (x : Fx K h mg) : XcI K mg 42 (He.ga K (clsName 42)) := xcIB_ok x.X x.G (x.cx.fact 60)
theorem Fx.g_InvalidNumber {K : PySem.W.Frag} {h : Heap} {mg : Str → Option Value} (x : Fx K h mg) : mg "InvalidNumber" = some (.ref (He.ga K "InvalidNumber")) := He.glo_ok x.X x.G (x.cx.fact 61)
theorem Fx.ki_TooMany_InvalidNumber {K : PySem.W.Frag} {h : Heap} {mg : Str → Option Value} (x : Fx K h mg) : PySem.W.kitOne K (.ref (He.ga K (clsName 42))) (.ref (He.ga K "InvalidNumber")) = some false := of_decide_eq_true (x.cx.fact 62)
theorem Fx.g_InvalidText {K : PySem.W.Frag} {h : Heap} {mg : Str → Option Value} (x : Fx K h mg) : mg "InvalidText" = some (.ref (He.ga K "InvalidText")) := He.glo_ok x.X x.G (x.cx.fact 63)
theorem Fx.ki_TooMany_InvalidText {K : PySem.W.Frag} {h : Heap} {mg : Str → Option Value} (x : Fx K h mg) : PySem.W.kitOne K (.ref (He.ga K (clsName 42))) (.ref (He.ga K "InvalidText")) = some false := of_decide_eq_true (x.cx.fact 64)
theorem Fx.g_InvalidName {K : PySem.W.Frag} {h : Heap} {mg : Str → Option Value} (x : Fx K h mg) : mg "InvalidName" = some (.ref (He.ga K "InvalidName")) := He.glo_ok x.X x.G (x.cx.fact 65)
theorem Fx.ki_TooMany_InvalidName {K : PySem.W.Frag} {h : Heap} {mg : Str → Option Value} (x : Fx K h mg) : PySem.W.kitOne K (.ref (He.ga K (clsName 42))) (.ref (He.ga K "InvalidName")) = some false := of_decide_eq_true (x.cx.fact 66)
theorem Fx.g_InvalidHands {K : PySem.W.Frag} {h : Heap} {mg : Str → Option Value} (x : Fx K h mg) : mg "InvalidHands" = some (.ref (He.ga K "InvalidHands")) := He.glo_ok x.X x.G (x.cx.fact 67)
theorem Fx.ki_TooMany_InvalidHands {K : PySem.W.Frag} {h : Heap} {mg : Str → Option Value} (x : Fx K h mg) : PySem.W.kitOne K (.ref (He.ga K (clsName 42))) (.ref (He.ga K "InvalidHands")) = some false := of_decide_eq_true (x.cx.fact 68)
theorem Fx.g_InvalidStock {K : PySem.W.Frag} {h : Heap} {mg : Str → Option Value} (x : Fx K h mg) : mg "InvalidStock" = some (.ref (He.ga K "InvalidStock")) := He.glo_ok x.X x.G (x.cx.fact 69)
theorem Fx.ki_TooMany_InvalidStock {K : PySem.W.Frag} {h : Heap} {mg : Str → Option Value} (x : Fx K h mg) : PySem.W.kitOne K (.ref (He.ga K (clsName 42))) (.ref (He.ga K "InvalidStock")) = some false := of_decide_eq_true (x.cx.fact 70)
theorem Fx.g_InvalidFlag {K : PySem.W.Frag} {h : Heap} {mg : Str → Option Value} (x : Fx K h mg) : mg "InvalidFlag" = some (.ref (He.ga K "InvalidFlag")) := He.glo_ok x.X x.G (x.cx.fact 71)
theorem Fx.ki_TooMany_InvalidFlag {K : PySem.W.Frag} {h : Heap} {mg : Str → Option Value} (x : Fx K h mg) : PySem.W.kitOne K (.ref (He.ga K (clsName 42))) (.ref (He.ga K "InvalidFlag")) = some false := of_decide_eq_true (x.cx.fact 72)
theorem Fx.g_InvalidOutlet {K : PySem.W.Frag} {h : Heap} {mg : Str → Option Value} (x : Fx K h mg) : mg "InvalidOutlet" = some (.ref (He.ga K "InvalidOutlet")) := He.glo_ok x.X x.G (x.cx.fact 73)
theorem Fx.ki_TooMany_InvalidOutlet {K : PySem.W.Frag} {h : Heap} {mg : Str → Option Value} (x : Fx K h mg) : PySem.W.kitOne K (.ref (He.ga K (clsName 42))) (.ref (He.ga K "InvalidOutlet")) = some false := of_decide_eq_true (x.cx.fact 74)
theorem Fx.g_InvalidIndex {K : PySem.W.Frag} {h : Heap} {mg : Str → Option Value} (x : Fx K h mg) : mg "InvalidIndex" = some (.ref (He.ga K "InvalidIndex")) := He.glo_ok x.X x.G (x.cx.fact 75)
theorem Fx.ki_TooMany_InvalidIndex {K : PySem.W.Frag} {h : Heap} {mg : Str → Option Value} (x : Fx K h mg) : PySem.W.kitOne K (.ref (He.ga K (clsName 42))) (.ref (He.ga K "InvalidIndex")) = some false := of_decide_eq_true (x.cx.fact 76)
theorem Fx.g_InvalidTimes {K : PySem.W.Frag} {h : Heap} {mg : Str → Option Value} (x : Fx K h mg) : mg "InvalidTimes" = some (.ref (He.ga K "InvalidTimes")) := He.glo_ok x.X x.G (x.cx.fact 77)
theorem Fx.ki_TooMany_InvalidTimes {K : PySem.W.Frag} {h : Heap} {mg : Str → Option Value} (x : Fx K h mg) : PySem.W.kitOne K (.ref (He.ga K (clsName 42))) (.ref (He.ga K "InvalidTimes")) = some false := of_decide_eq_true (x.cx.fact 78)
theorem Fx.g_NotLags {K : PySem.W.Frag} {h : Heap} {mg : Str → Option Value} (x : Fx K h mg) : mg "NotLags" = some (.ref (He.ga K "NotLags")) := He.glo_ok x.X x.G (x.cx.fact 79)
theorem Fx.ki_TooMany_NotLags {K : PySem.W.Frag} {h : Heap} {mg : Str → Option Value} (x : Fx K h mg) : PySem.W.kitOne K (.ref (He.ga K (clsName 42))) (.ref (He.ga K "NotLags")) = some false := of_decide_eq_true (x.cx.fact 80)
theorem Fx.g_NotALine {K : PySem.W.Frag} {h : Heap} {mg : Str → Option Value} (x : Fx K h mg) : mg "NotALine" = some (.ref (He.ga K "NotALine")) := He.glo_ok x.X x.G (x.cx.fact 81)
theorem Fx.ki_TooMany_NotALine {K : PySem.W.Frag} {h : Heap} {mg : Str → Option Value} (x : Fx K h mg) : PySem.W.kitOne K (.ref (He.ga K (clsName 42))) (.ref (He.ga K "NotALine")) = some false := of_decide_eq_true (x.cx.fact 82)
theorem Fx.g_NotALink {K : PySem.W.Frag} {h : Heap} {mg : Str → Option Value} (x : Fx K h mg) : mg "NotALink" = some (.ref (He.ga K "NotALink")) := He.glo_ok x.X x.G (x.cx.fact 83)
theorem Fx.ki_TooMany_NotALink {K : PySem.W.Frag} {h : Heap} {mg : Str → Option Value} (x : Fx K h mg) : PySem.W.kitOne K (.ref (He.ga K (clsName 42))) (.ref (He.ga K "NotALink")) = some false := of_decide_eq_true (x.cx.fact 84)
theorem Fx.g_InvalidNumbers {K : PySem.W.Frag} {h : Heap} {mg : Str → Option Value} (x : Fx K h mg) : mg "InvalidNumbers" = some (.ref (He.ga K "InvalidNumbers")) := He.glo_ok x.X x.G (x.cx.fact 85)
theorem Fx.ki_TooMany_InvalidNumbers {K : PySem.W.Frag} {h : Heap} {mg : Str → Option Value} (x : Fx K h mg) : PySem.W.kitOne K (.ref (He.ga K (clsName 42))) (.ref (He.ga K "InvalidNumbers")) = some false := of_decide_eq_true (x.cx.fact 86)
theorem Fx.g_InvalidStations {K : PySem.W.Frag} {h : Heap} {mg : Str → Option Value} (x : Fx K h mg) : mg "InvalidStations" = some (.ref (He.ga K "InvalidStations")) := He.glo_ok x.X x.G (x.cx.fact 87)
theorem Fx.ki_TooMany_InvalidStations {K : PySem.W.Frag} {h : Heap} {mg : Str → Option Value} (x : Fx K h mg) : PySem.W.kitOne K (.ref (He.ga K (clsName 42))) (.ref (He.ga K "InvalidStations")) = some false := of_decide_eq_true (x.cx.fact 88)
theorem Fx.g_InvalidLinks {K : PySem.W.Frag} {h : Heap} {mg : Str → Option Value} (x : Fx K h mg) : mg "InvalidLinks" = some (.ref (He.ga K "InvalidLinks")) := He.glo_ok x.X x.G (x.cx.fact 89)
theorem Fx.ki_TooMany_InvalidLinks {K : PySem.W.Frag} {h : Heap} {mg : Str → Option Value} (x : Fx K h mg) : PySem.W.kitOne K (.ref (He.ga K (clsName 42))) (.ref (He.ga K "InvalidLinks")) = some false := of_decide_eq_true (x.cx.fact 90)
theorem Fx.g_UnknownName {K : PySem.W.Frag} {h : Heap} {mg : Str → Option Value} (x : Fx K h mg) : mg "UnknownName" = some (.ref (He.ga K "UnknownName")) := He.glo_ok x.X x.G (x.cx.fact 91)
theorem Fx.ki_TooMany_UnknownName {K : PySem.W.Frag} {h : Heap} {mg : Str → Option Value} (x : Fx K h mg) : PySem.W.kitOne K (.ref (He.ga K (clsName 42))) (.ref (He.ga K "UnknownName")) = some false := of_decide_eq_true (x.cx.fact 92)
theorem Fx.g_Taken {K : PySem.W.Frag} {h : Heap} {mg : Str → Option Value} (x : Fx K h mg) : mg "Taken" = some (.ref (He.ga K "Taken")) := He.glo_ok x.X x.G (x.cx.fact 93)
theorem Fx.ki_TooMany_Taken {K : PySem.W.Frag} {h : Heap} {mg : Str → Option Value} (x : Fx K h mg) : PySem.W.kitOne K (.ref (He.ga K (clsName 42))) (.ref (He.ga K "Taken")) = some false := of_decide_eq_true (x.cx.fact 94)
theorem Fx.g_TooMany {K : PySem.W.Frag} {h : Heap} {mg : Str → Option Value} (x : Fx K h mg) : mg "TooMany" = some (.ref (He.ga K "TooMany")) := He.glo_ok x.X x.G (x.cx.fact 95)
theorem Fx.ki_TooMany_TooMany {K : PySem.W.Frag} {h : Heap} {mg : Str → Option Value} (x : Fx K h mg) : PySem.W.kitOne K (.ref (He.ga K (clsName 42))) (.ref (He.ga K "TooMany")) = some true := of_decide_eq_true (x.cx.fact 96)
theorem Fx.g_Stuck {K : PySem.W.Frag} {h : Heap} {mg : Str → Option Value} (x : Fx K h mg) : mg "Stuck" = some (.ref (He.ga K "Stuck")) := He.glo_ok x.X x.G (x.cx.fact 97)
theorem Fx.ki_TooMany_Stuck {K : PySem.W.Frag} {h : Heap} {mg : Str → Option Value} (x : Fx K h mg) : PySem.W.kitOne K (.ref (He.ga K (clsName 42))) (.ref (He.ga K "Stuck")) = some false := of_decide_eq_true (x.cx.fact 98)
theorem Fx.g_EarlyLink {K : PySem.W.Frag} {h : Heap} {mg : Str → Option Value} (x : Fx K h mg) : mg "EarlyLink" = some (.ref (He.ga K "EarlyLink")) := He.glo_ok x.X x.G (x.cx.fact 99)
theorem Fx.ki_TooMany_EarlyLink {K : PySem.W.Frag} {h : Heap} {mg : Str → Option Value} (x : Fx K h mg) : PySem.W.kitOne K (.ref (He.ga K (clsName 42))) (.ref (He.ga K "EarlyLink")) = some false := of_decide_eq_true (x.cx.fact 100)
theorem Fx.g_WrongValue {K : PySem.W.Frag} {h : Heap} {mg : Str → Option Value} (x : Fx K h mg) : mg "WrongValue" = some (.ref (He.ga K "WrongValue")) := He.glo_ok x.X x.G (x.cx.fact 101)
theorem Fx.ki_TooMany_WrongValue {K : PySem.W.Frag} {h : Heap} {mg : Str → Option Value} (x : Fx K h mg) : PySem.W.kitOne K (.ref (He.ga K (clsName 42))) (.ref (He.ga K "WrongValue")) = some false := of_decide_eq_true (x.cx.fact 102)
theorem Fx.g_WrongName {K : PySem.W.Frag} {h : Heap} {mg : Str → Option Value} (x : Fx K h mg) : mg "WrongName" = some (.ref (He.ga K "WrongName")) := He.glo_ok x.X x.G (x.cx.fact 103)
theorem Fx.ki_TooMany_WrongName {K : PySem.W.Frag} {h : Heap} {mg : Str → Option Value} (x : Fx K h mg) : PySem.W.kitOne K (.ref (He.ga K (clsName 42))) (.ref (He.ga K "WrongName")) = some false := of_decide_eq_true (x.cx.fact 104)
theorem Fx.g_NoAnswer {K : PySem.W.Frag} {h : Heap} {mg : Str → Option Value} (x : Fx K h mg) : mg "NoAnswer" = some (.ref (He.ga K "NoAnswer")) := He.glo_ok x.X x.G (x.cx.fact 105)
theorem Fx.ki_TooMany_NoAnswer {K : PySem.W.Frag} {h : Heap} {mg : Str → Option Value} (x : Fx K h mg) : PySem.W.kitOne K (.ref (He.ga K (clsName 42))) (.ref (He.ga K "NoAnswer")) = some true := of_decide_eq_true (x.cx.fact 106)
theorem Fx.f_ValueError {K : PySem.W.Frag} {h : Heap} {mg : Str → Option Value} (x : Fx K h mg) : mg "ValueError" = none := He.free_ok x.X x.G (x.cx.fact 107)
theorem Fx.ki_TooMany_ValueError {K : PySem.W.Frag} {h : Heap} {mg : Str → Option Value} (x : Fx K h mg) : PySem.W.kitOne K (.ref (He.ga K (clsName 42))) (.type "ValueError") = some false := of_decide_eq_true (x.cx.fact 108)
theorem Fx.f_LookupError {K : PySem.W.Frag} {h : Heap} {mg : Str → Option Value} (x : Fx K h mg) : mg "LookupError" = none := He.free_ok x.X x.G (x.cx.fact 109)
theorem Fx.ki_TooMany_LookupError {K : PySem.W.Frag} {h : Heap} {mg : Str → Option Value} (x : Fx K h mg) : PySem.W.kitOne K (.ref (He.ga K (clsName 42))) (.type "LookupError") = some false := of_decide_eq_true (x.cx.fact 110)
theorem Fx.f_ArithmeticError {K : PySem.W.Frag} {h : Heap} {mg : Str → Option Value} (x : Fx K h mg) : mg "ArithmeticError" = none := He.free_ok x.X x.G (x.cx.fact 111)
theorem Fx.ki_TooMany_ArithmeticError {K : PySem.W.Frag} {h : Heap} {mg : Str → Option Value} (x : Fx K h mg) : PySem.W.kitOne K (.ref (He.ga K (clsName 42))) (.type "ArithmeticError") = some true := of_decide_eq_true (x.cx.fact 112)
theorem Fx.g_law_sort {K : PySem.W.Frag} {h : Heap} {mg : Str → Option Value} (x : Fx K h mg) : mg "_law_sort" = some (.ref (He.ga K "_law_sort")) := He.glo_ok x.X x.G (x.cx.fact 113)
theorem Fx.g_law_kept {K : PySem.W.Frag} {h : Heap} {mg : Str → Option Value} (x : Fx K h mg) : mg "_law_kept" = some (.ref (He.ga K "_law_kept")) := He.glo_ok x.X x.G (x.cx.fact 114)
theorem Fx.f_repr {K : PySem.W.Frag} {h : Heap} {mg : Str → Option Value} (x : Fx K h mg) : mg "repr" = none := He.free_ok x.X x.G (x.cx.fact 115)
theorem Fx.xm_TooMany {K : PySem.W.Frag} {h : Heap} {mg : Str → Option Value} (x : Fx K h mg) : PySem.W.exmAny K (.ref (He.ga K (clsName 42))) [.ref (He.ga K "WrongValue"), .ref (He.ga K "WrongName"), .ref (He.ga K "NoAnswer")] = some true := of_decide_eq_true (x.cx.fact 116)
theorem Fx.k_MOST_SHIFT {K : PySem.W.Frag} {h : Heap} {mg : Str → Option Value} (x : Fx K h mg) : ∃ t, mg "MOST_SHIFT" = some (.int 1000 t) := He.int_ok x.X x.G (x.cx.fact 117)
theorem Fx.xf_InvalidNumber {K : PySem.W.Frag} {h : Heap} {mg : Str → Option Value} (x : Fx K h mg) : XcF K mg 21 (He.ma K (He.ga K (clsName 21)) "__init__") := xcFB_ok x.X x.G (x.cx.fact 118)
theorem Fx.g_flag_at {K : PySem.W.Frag} {h : Heap} {mg : Str → Option Value} (x : Fx K h mg) : mg "flag_at" = some (.ref (He.ga K "flag_at")) := He.glo_ok x.X x.G (x.cx.fact 119)
theorem Fx.k_MOST_LAGS {K : PySem.W.Frag} {h : Heap} {mg : Str → Option Value} (x : Fx K h mg) : ∃ t, mg "MOST_LAGS" = some (.int 2000 t) := He.int_ok x.X x.G (x.cx.fact 120)
theorem Fx.xf_TooMany {K : PySem.W.Frag} {h : Heap} {mg : Str → Option Value} (x : Fx K h mg) : XcF K mg 42 (He.ma K (He.ga K (clsName 42)) "__init__") := xcFB_ok x.X x.G (x.cx.fact 121)
theorem Fx.mk_FormedLags {K : PySem.W.Frag} {h : Heap} {mg : Str → Option Value} (x : Fx K h mg) : Mk K (He.ga K (clsName 1)) (d_FormedLagsx_initx.at_ K) := He.mkr_ok (x.cx.fact 122)
theorem Fx.g_lags_with {K : PySem.W.Frag} {h : Heap} {mg : Str → Option Value} (x : Fx K h mg) : mg "lags_with" = some (.ref (He.ga K "lags_with")) := He.glo_ok x.X x.G (x.cx.fact 123)
theorem Fx.g_bounded {K : PySem.W.Frag} {h : Heap} {mg : Str → Option Value} (x : Fx K h mg) : mg "bounded" = some (.ref (He.ga K "bounded")) := He.glo_ok x.X x.G (x.cx.fact 124)
theorem Fx.mt_Lags_shifted {K : PySem.W.Frag} {h : Heap} {mg : Str → Option Value} (x : Fx K h mg) : Meth K (He.ga K (clsName 0)) "shifted" (He.ma K (He.ga K (clsName 0)) "shifted") := He.meth_ok (x.cx.fact 125)
theorem Fx.mt_FormedLags_shifted {K : PySem.W.Frag} {h : Heap} {mg : Str → Option Value} (x : Fx K h mg) : Meth K (He.ga K (clsName 1)) "shifted" (He.ma K (He.ga K (clsName 1)) "shifted") := He.meth_ok (x.cx.fact 126)
theorem Fx.me_FormedLags_shifted {K : PySem.W.Frag} {h : Heap} {mg : Str → Option Value} (x : Fx K h mg) : He.ma K (He.ga K (clsName 1)) "shifted" = He.ma K (He.ga K (clsName 0)) "shifted" := of_decide_eq_true (x.cx.fact 127)
theorem Fx.g_law_caught {K : PySem.W.Frag} {h : Heap} {mg : Str → Option Value} (x : Fx K h mg) : mg "_law_caught" = some (.ref (He.ga K "_law_caught")) := He.glo_ok x.X x.G (x.cx.fact 128)
theorem Fx.ki_int_Lags {K : PySem.W.Frag} {h : Heap} {mg : Str → Option Value} (x : Fx K h mg) : PySem.W.kitOne K (.type "int") (.ref (He.ga K (clsName 0))) = some false := of_decide_eq_true (x.cx.fact 129)
theorem Fx.ki_bool_Lags {K : PySem.W.Frag} {h : Heap} {mg : Str → Option Value} (x : Fx K h mg) : PySem.W.kitOne K (.type "bool") (.ref (He.ga K (clsName 0))) = some false := of_decide_eq_true (x.cx.fact 130)
theorem Fx.ki_str_Lags {K : PySem.W.Frag} {h : Heap} {mg : Str → Option Value} (x : Fx K h mg) : PySem.W.kitOne K (.type "str") (.ref (He.ga K (clsName 0))) = some false := of_decide_eq_true (x.cx.fact 131)
theorem Fx.ki_tuple_Lags {K : PySem.W.Frag} {h : Heap} {mg : Str → Option Value} (x : Fx K h mg) : PySem.W.kitOne K (.type "tuple") (.ref (He.ga K (clsName 0))) = some false := of_decide_eq_true (x.cx.fact 132)
theorem Fx.ki_list_Lags {K : PySem.W.Frag} {h : Heap} {mg : Str → Option Value} (x : Fx K h mg) : PySem.W.kitOne K (.type "list") (.ref (He.ga K (clsName 0))) = some false := of_decide_eq_true (x.cx.fact 133)
theorem Fx.ki_NoneType_Lags {K : PySem.W.Frag} {h : Heap} {mg : Str → Option Value} (x : Fx K h mg) : PySem.W.kitOne K (.type "NoneType") (.ref (He.ga K (clsName 0))) = some false := of_decide_eq_true (x.cx.fact 134)
theorem Fx.ki_dict_Lags {K : PySem.W.Frag} {h : Heap} {mg : Str → Option Value} (x : Fx K h mg) : PySem.W.kitOne K (.type "dict") (.ref (He.ga K (clsName 0))) = some false := of_decide_eq_true (x.cx.fact 135)
theorem Fx.ki_Lags_Lags {K : PySem.W.Frag} {h : Heap} {mg : Str → Option Value} (x : Fx K h mg) : PySem.W.kitOne K (.ref (He.ga K (clsName 0))) (.ref (He.ga K (clsName 0))) = some true := of_decide_eq_true (x.cx.fact 136)
theorem Fx.ki_FormedLags_Lags {K : PySem.W.Frag} {h : Heap} {mg : Str → Option Value} (x : Fx K h mg) : PySem.W.kitOne K (.ref (He.ga K (clsName 1))) (.ref (He.ga K (clsName 0))) = some true := of_decide_eq_true (x.cx.fact 137)
theorem Fx.nf_Lags_int {K : PySem.W.Frag} {h : Heap} {mg : Str → Option Value} (x : Fx K h mg) : PySem.W.notFirst K (He.ga K (clsName 0)) (.type "int") = true := of_decide_eq_true (x.cx.fact 138)
theorem Fx.fe_Lags_Lagsx_eqx {K : PySem.W.Frag} {h : Heap} {mg : Str → Option Value} (x : Fx K h mg) : PySem.W.findIn K (.ref (He.ga K (clsName 0))) "__eq__" = some (some (.ref (d_Lagsx_eqx.at_ K))) := of_decide_eq_true (x.cx.fact 139)
theorem Fx.fn_Lags {K : PySem.W.Frag} {h : Heap} {mg : Str → Option Value} (x : Fx K h mg) : PySem.W.findIn K (.ref (He.ga K (clsName 0))) "__ne__" = some (some (.builtin "object.__ne__")) := of_decide_eq_true (x.cx.fact 140)
theorem Fx.nf_Lags_bool {K : PySem.W.Frag} {h : Heap} {mg : Str → Option Value} (x : Fx K h mg) : PySem.W.notFirst K (He.ga K (clsName 0)) (.type "bool") = true := of_decide_eq_true (x.cx.fact 141)
theorem Fx.nf_Lags_str {K : PySem.W.Frag} {h : Heap} {mg : Str → Option Value} (x : Fx K h mg) : PySem.W.notFirst K (He.ga K (clsName 0)) (.type "str") = true := of_decide_eq_true (x.cx.fact 142)
theorem Fx.nf_Lags_tuple {K : PySem.W.Frag} {h : Heap} {mg : Str → Option Value} (x : Fx K h mg) : PySem.W.notFirst K (He.ga K (clsName 0)) (.type "tuple") = true := of_decide_eq_true (x.cx.fact 143)
theorem Fx.nf_Lags_list {K : PySem.W.Frag} {h : Heap} {mg : Str → Option Value} (x : Fx K h mg) : PySem.W.notFirst K (He.ga K (clsName 0)) (.type "list") = true := of_decide_eq_true (x.cx.fact 144)
theorem Fx.nf_Lags_NoneType {K : PySem.W.Frag} {h : Heap} {mg : Str → Option Value} (x : Fx K h mg) : PySem.W.notFirst K (He.ga K (clsName 0)) (.type "NoneType") = true := of_decide_eq_true (x.cx.fact 145)
theorem Fx.nf_Lags_Lags {K : PySem.W.Frag} {h : Heap} {mg : Str → Option Value} (x : Fx K h mg) : PySem.W.notFirst K (He.ga K (clsName 0)) (.ref (He.ga K (clsName 0))) = true := of_decide_eq_true (x.cx.fact 146)
theorem Fx.fe_FormedLags_Lagsx_eqx {K : PySem.W.Frag} {h : Heap} {mg : Str → Option Value} (x : Fx K h mg) : PySem.W.findIn K (.ref (He.ga K (clsName 1))) "__eq__" = some (some (.ref (d_Lagsx_eqx.at_ K))) := of_decide_eq_true (x.cx.fact 147)
theorem Fx.fn_FormedLags {K : PySem.W.Frag} {h : Heap} {mg : Str → Option Value} (x : Fx K h mg) : PySem.W.findIn K (.ref (He.ga K (clsName 1))) "__ne__" = some (some (.builtin "object.__ne__")) := of_decide_eq_true (x.cx.fact 148)
theorem Fx.un_Lags_FormedLags {K : PySem.W.Frag} {h : Heap} {mg : Str → Option Value} (x : Fx K h mg) : (He.ga K (clsName 0)) ≠ (He.ga K (clsName 1)) := of_decide_eq_true (x.cx.fact 149)
theorem Fx.sb_FormedLags_Lags {K : PySem.W.Frag} {h : Heap} {mg : Str → Option Value} (x : Fx K h mg) : PySem.W.subIn K (.ref (He.ga K (clsName 1))) (.ref (He.ga K (clsName 0))) = some true := of_decide_eq_true (x.cx.fact 150)
theorem Fx.nf_FormedLags_int {K : PySem.W.Frag} {h : Heap} {mg : Str → Option Value} (x : Fx K h mg) : PySem.W.notFirst K (He.ga K (clsName 1)) (.type "int") = true := of_decide_eq_true (x.cx.fact 151)
theorem Fx.nf_FormedLags_bool {K : PySem.W.Frag} {h : Heap} {mg : Str → Option Value} (x : Fx K h mg) : PySem.W.notFirst K (He.ga K (clsName 1)) (.type "bool") = true := of_decide_eq_true (x.cx.fact 152)
theorem Fx.nf_FormedLags_str {K : PySem.W.Frag} {h : Heap} {mg : Str → Option Value} (x : Fx K h mg) : PySem.W.notFirst K (He.ga K (clsName 1)) (.type "str") = true := of_decide_eq_true (x.cx.fact 153)
theorem Fx.nf_FormedLags_tuple {K : PySem.W.Frag} {h : Heap} {mg : Str → Option Value} (x : Fx K h mg) : PySem.W.notFirst K (He.ga K (clsName 1)) (.type "tuple") = true := of_decide_eq_true (x.cx.fact 154)
theorem Fx.nf_FormedLags_list {K : PySem.W.Frag} {h : Heap} {mg : Str → Option Value} (x : Fx K h mg) : PySem.W.notFirst K (He.ga K (clsName 1)) (.type "list") = true := of_decide_eq_true (x.cx.fact 155)
theorem Fx.nf_FormedLags_NoneType {K : PySem.W.Frag} {h : Heap} {mg : Str → Option Value} (x : Fx K h mg) : PySem.W.notFirst K (He.ga K (clsName 1)) (.type "NoneType") = true := of_decide_eq_true (x.cx.fact 156)
theorem Fx.nf_FormedLags_Lags {K : PySem.W.Frag} {h : Heap} {mg : Str → Option Value} (x : Fx K h mg) : PySem.W.notFirst K (He.ga K (clsName 1)) (.ref (He.ga K (clsName 0))) = true := of_decide_eq_true (x.cx.fact 157)
theorem Fx.nf_FormedLags_FormedLags {K : PySem.W.Frag} {h : Heap} {mg : Str → Option Value} (x : Fx K h mg) : PySem.W.notFirst K (He.ga K (clsName 1)) (.ref (He.ga K (clsName 1))) = true := of_decide_eq_true (x.cx.fact 158)
theorem Fx.if_Lagsx_eqx {K : PySem.W.Frag} {h : Heap} {mg : Str → Option Value} (x : Fx K h mg) : PySem.W.isFn K (.ref (d_Lagsx_eqx.at_ K)) = true := of_decide_eq_true (x.cx.fact 159)
theorem Fx.pr_Lags_start {K : PySem.W.Frag} {h : Heap} {mg : Str → Option Value} (x : Fx K h mg) : PropOf K (He.ga K (clsName 0)) "start" (He.ma K (He.ga K (clsName 0)) "start") (pGet K (He.ma K (He.ga K (clsName 0)) "start")) := propB_ok (x.cx.fact 160)
theorem Fx.pr_FormedLags_start {K : PySem.W.Frag} {h : Heap} {mg : Str → Option Value} (x : Fx K h mg) : PropOf K (He.ga K (clsName 1)) "start" (He.ma K (He.ga K (clsName 1)) "start") (pGet K (He.ma K (He.ga K (clsName 1)) "start")) := propB_ok (x.cx.fact 161)
theorem Fx.me_FormedLags_start {K : PySem.W.Frag} {h : Heap} {mg : Str → Option Value} (x : Fx K h mg) : He.ma K (He.ga K (clsName 1)) "start" = He.ma K (He.ga K (clsName 0)) "start" := of_decide_eq_true (x.cx.fact 162)
theorem Fx.pr_Lags_period {K : PySem.W.Frag} {h : Heap} {mg : Str → Option Value} (x : Fx K h mg) : PropOf K (He.ga K (clsName 0)) "period" (He.ma K (He.ga K (clsName 0)) "period") (pGet K (He.ma K (He.ga K (clsName 0)) "period")) := propB_ok (x.cx.fact 163)
theorem Fx.pr_FormedLags_period {K : PySem.W.Frag} {h : Heap} {mg : Str → Option Value} (x : Fx K h mg) : PropOf K (He.ga K (clsName 1)) "period" (He.ma K (He.ga K (clsName 1)) "period") (pGet K (He.ma K (He.ga K (clsName 1)) "period")) := propB_ok (x.cx.fact 164)
theorem Fx.me_FormedLags_period {K : PySem.W.Frag} {h : Heap} {mg : Str → Option Value} (x : Fx K h mg) : He.ma K (He.ga K (clsName 1)) "period" = He.ma K (He.ga K (clsName 0)) "period" := of_decide_eq_true (x.cx.fact 165)
theorem Fx.pr_Lags_members {K : PySem.W.Frag} {h : Heap} {mg : Str → Option Value} (x : Fx K h mg) : PropOf K (He.ga K (clsName 0)) "members" (He.ma K (He.ga K (clsName 0)) "members") (pGet K (He.ma K (He.ga K (clsName 0)) "members")) := propB_ok (x.cx.fact 166)
theorem Fx.pr_FormedLags_members {K : PySem.W.Frag} {h : Heap} {mg : Str → Option Value} (x : Fx K h mg) : PropOf K (He.ga K (clsName 1)) "members" (He.ma K (He.ga K (clsName 1)) "members") (pGet K (He.ma K (He.ga K (clsName 1)) "members")) := propB_ok (x.cx.fact 167)
theorem Fx.me_FormedLags_members {K : PySem.W.Frag} {h : Heap} {mg : Str → Option Value} (x : Fx K h mg) : He.ma K (He.ga K (clsName 1)) "members" = He.ma K (He.ga K (clsName 0)) "members" := of_decide_eq_true (x.cx.fact 168)
theorem Fx.f_any {K : PySem.W.Frag} {h : Heap} {mg : Str → Option Value} (x : Fx K h mg) : mg "any" = none := He.free_ok x.X x.G (x.cx.fact 169)
theorem Fx.pr_Lags_first {K : PySem.W.Frag} {h : Heap} {mg : Str → Option Value} (x : Fx K h mg) : PropOf K (He.ga K (clsName 0)) "first" (He.ma K (He.ga K (clsName 0)) "first") (pGet K (He.ma K (He.ga K (clsName 0)) "first")) := propB_ok (x.cx.fact 170)
theorem Fx.pr_FormedLags_first {K : PySem.W.Frag} {h : Heap} {mg : Str → Option Value} (x : Fx K h mg) : PropOf K (He.ga K (clsName 1)) "first" (He.ma K (He.ga K (clsName 1)) "first") (pGet K (He.ma K (He.ga K (clsName 1)) "first")) := propB_ok (x.cx.fact 171)
theorem Fx.me_FormedLags_first {K : PySem.W.Frag} {h : Heap} {mg : Str → Option Value} (x : Fx K h mg) : He.ma K (He.ga K (clsName 1)) "first" = He.ma K (He.ga K (clsName 0)) "first" := of_decide_eq_true (x.cx.fact 172)
theorem Fx.pr_Lags_endless {K : PySem.W.Frag} {h : Heap} {mg : Str → Option Value} (x : Fx K h mg) : PropOf K (He.ga K (clsName 0)) "endless" (He.ma K (He.ga K (clsName 0)) "endless") (pGet K (He.ma K (He.ga K (clsName 0)) "endless")) := propB_ok (x.cx.fact 173)
theorem Fx.pr_FormedLags_endless {K : PySem.W.Frag} {h : Heap} {mg : Str → Option Value} (x : Fx K h mg) : PropOf K (He.ga K (clsName 1)) "endless" (He.ma K (He.ga K (clsName 1)) "endless") (pGet K (He.ma K (He.ga K (clsName 1)) "endless")) := propB_ok (x.cx.fact 174)
theorem Fx.me_FormedLags_endless {K : PySem.W.Frag} {h : Heap} {mg : Str → Option Value} (x : Fx K h mg) : He.ma K (He.ga K (clsName 1)) "endless" = He.ma K (He.ga K (clsName 0)) "endless" := of_decide_eq_true (x.cx.fact 175)
theorem Fx.if_Lagsx_boolx {K : PySem.W.Frag} {h : Heap} {mg : Str → Option Value} (x : Fx K h mg) : PySem.W.isFn K (.ref (d_Lagsx_boolx.at_ K)) = true := of_decide_eq_true (x.cx.fact 176)
theorem Fx.sbool_Lags {K : PySem.W.Frag} {h : Heap} {mg : Str → Option Value} (x : Fx K h mg) : PySem.W.findIn K (.ref (He.ga K (clsName 0))) "__bool__" = some (some (.ref (d_Lagsx_boolx.at_ K))) := of_decide_eq_true (x.cx.fact 177)
theorem Fx.sbool_FormedLags {K : PySem.W.Frag} {h : Heap} {mg : Str → Option Value} (x : Fx K h mg) : PySem.W.findIn K (.ref (He.ga K (clsName 1))) "__bool__" = some (some (.ref (d_Lagsx_boolx.at_ K))) := of_decide_eq_true (x.cx.fact 178)
theorem Fx.f_str {K : PySem.W.Frag} {h : Heap} {mg : Str → Option Value} (x : Fx K h mg) : mg "str" = none := He.free_ok x.X x.G (x.cx.fact 179)
theorem Fx.g_text_of {K : PySem.W.Frag} {h : Heap} {mg : Str → Option Value} (x : Fx K h mg) : mg "text_of" = some (.ref (He.ga K "text_of")) := He.glo_ok x.X x.G (x.cx.fact 180)
theorem Fx.if_Lagsx_reprx {K : PySem.W.Frag} {h : Heap} {mg : Str → Option Value} (x : Fx K h mg) : PySem.W.isFn K (.ref (d_Lagsx_reprx.at_ K)) = true := of_decide_eq_true (x.cx.fact 181)
theorem Fx.srepr_Lags {K : PySem.W.Frag} {h : Heap} {mg : Str → Option Value} (x : Fx K h mg) : PySem.W.findIn K (.ref (He.ga K (clsName 0))) "__repr__" = some (some (.ref (d_Lagsx_reprx.at_ K))) := of_decide_eq_true (x.cx.fact 182)
theorem Fx.srepr_FormedLags {K : PySem.W.Frag} {h : Heap} {mg : Str → Option Value} (x : Fx K h mg) : PySem.W.findIn K (.ref (He.ga K (clsName 1))) "__repr__" = some (some (.ref (d_Lagsx_reprx.at_ K))) := of_decide_eq_true (x.cx.fact 183)
theorem Fx.if_Lagsx_strx {K : PySem.W.Frag} {h : Heap} {mg : Str → Option Value} (x : Fx K h mg) : PySem.W.isFn K (.ref (d_Lagsx_strx.at_ K)) = true := of_decide_eq_true (x.cx.fact 184)
theorem Fx.st_Lags {K : PySem.W.Frag} {h : Heap} {mg : Str → Option Value} (x : Fx K h mg) : PySem.W.findIn K (.ref (He.ga K (clsName 0))) "__str__" = some (some (.ref (d_Lagsx_strx.at_ K))) := of_decide_eq_true (x.cx.fact 185)
theorem Fx.st_FormedLags {K : PySem.W.Frag} {h : Heap} {mg : Str → Option Value} (x : Fx K h mg) : PySem.W.findIn K (.ref (He.ga K (clsName 1))) "__str__" = some (some (.ref (d_Lagsx_strx.at_ K))) := of_decide_eq_true (x.cx.fact 186)
theorem Fx.g_law_text {K : PySem.W.Frag} {h : Heap} {mg : Str → Option Value} (x : Fx K h mg) : mg "_law_text" = some (.ref (He.ga K "_law_text")) := He.glo_ok x.X x.G (x.cx.fact 187)
theorem Fx.g_law_is {K : PySem.W.Frag} {h : Heap} {mg : Str → Option Value} (x : Fx K h mg) : mg "_law_is" = some (.ref (He.ga K "_law_is")) := He.glo_ok x.X x.G (x.cx.fact 188)
theorem Fx.g_law_moved {K : PySem.W.Frag} {h : Heap} {mg : Str → Option Value} (x : Fx K h mg) : mg "_law_moved" = some (.ref (He.ga K "_law_moved")) := He.glo_ok x.X x.G (x.cx.fact 189)
theorem Fx.g_law_in {K : PySem.W.Frag} {h : Heap} {mg : Str → Option Value} (x : Fx K h mg) : mg "_law_in" = some (.ref (He.ga K "_law_in")) := He.glo_ok x.X x.G (x.cx.fact 190)
theorem Fx.k_MOST_SHOWN {K : PySem.W.Frag} {h : Heap} {mg : Str → Option Value} (x : Fx K h mg) : ∃ t, mg "MOST_SHOWN" = some (.int 5000 t) := He.int_ok x.X x.G (x.cx.fact 191)
theorem Fx.mt_Lags_upto {K : PySem.W.Frag} {h : Heap} {mg : Str → Option Value} (x : Fx K h mg) : Meth K (He.ga K (clsName 0)) "upto" (He.ma K (He.ga K (clsName 0)) "upto") := He.meth_ok (x.cx.fact 192)
theorem Fx.mt_FormedLags_upto {K : PySem.W.Frag} {h : Heap} {mg : Str → Option Value} (x : Fx K h mg) : Meth K (He.ga K (clsName 1)) "upto" (He.ma K (He.ga K (clsName 1)) "upto") := He.meth_ok (x.cx.fact 193)
theorem Fx.me_FormedLags_upto {K : PySem.W.Frag} {h : Heap} {mg : Str → Option Value} (x : Fx K h mg) : He.ma K (He.ga K (clsName 1)) "upto" = He.ma K (He.ga K (clsName 0)) "upto" := of_decide_eq_true (x.cx.fact 194)
theorem Fx.if_Lagsx_containsx {K : PySem.W.Frag} {h : Heap} {mg : Str → Option Value} (x : Fx K h mg) : PySem.W.isFn K (.ref (d_Lagsx_containsx.at_ K)) = true := of_decide_eq_true (x.cx.fact 195)
theorem Fx.ct_Lags {K : PySem.W.Frag} {h : Heap} {mg : Str → Option Value} (x : Fx K h mg) : PySem.W.findIn K (.ref (He.ga K (clsName 0))) "__contains__" = some (some (.ref (d_Lagsx_containsx.at_ K))) := of_decide_eq_true (x.cx.fact 196)
theorem Fx.ct_FormedLags {K : PySem.W.Frag} {h : Heap} {mg : Str → Option Value} (x : Fx K h mg) : PySem.W.findIn K (.ref (He.ga K (clsName 1))) "__contains__" = some (some (.ref (d_Lagsx_containsx.at_ K))) := of_decide_eq_true (x.cx.fact 197)
theorem Fx.g_law_members {K : PySem.W.Frag} {h : Heap} {mg : Str → Option Value} (x : Fx K h mg) : mg "_law_members" = some (.ref (He.ga K "_law_members")) := He.glo_ok x.X x.G (x.cx.fact 198)
theorem Fx.g_law_some {K : PySem.W.Frag} {h : Heap} {mg : Str → Option Value} (x : Fx K h mg) : mg "_law_some" = some (.ref (He.ga K "_law_some")) := He.glo_ok x.X x.G (x.cx.fact 199)
theorem Fx.g_law_right {K : PySem.W.Frag} {h : Heap} {mg : Str → Option Value} (x : Fx K h mg) : mg "_law_right" = some (.ref (He.ga K "_law_right")) := He.glo_ok x.X x.G (x.cx.fact 200)
theorem Fx.g_law {K : PySem.W.Frag} {h : Heap} {mg : Str → Option Value} (x : Fx K h mg) : mg "law" = some (.ref (He.ga K "law")) := He.glo_ok x.X x.G (x.cx.fact 201)
variable {P : Program} {w : World} {K : PySem.W.Frag} {mg : Str → Option Value} {base h : Heap}
theorem bd_law_cell : Bds K d_law_cell P_law_cell := fun fd F => F.bindsN fun _ _ _ _ _ _ us hl => match us, hl with | [_, _], _ => rfl
def m_law_cell : M Fl := sSeq (sIf (mB (m2 ltD (vR 1) (mCall lenD (aCons (vR 0) (aNil))))) (sRet (m2 ixD (vR 0) (vR 1))) (sNil)) (sSeq (sSet 2 (m2 addD (mPure (.int 71993)) (m2 mulD (mPure (.int 613)) (vR 1)))) (sSeq (sFor (mBind (mSl (vR 0) (mPure none) (mBind (mPure (.int 4)) fun d => mLift (asI d))) fun d => mLift (iterD d)) (gN 3) (sSet 2 (m2 modD (mCall intD (aCons (m2 addD (m2 mulD (vR 2) (mPure (.int 52361))) (vR 3)) (aNil))) (mPure (.int 2147483579))))) (sRet (vR 2))))
def F_law_cell : List D → Option D := runD 4 m_law_cell
theorem b_law_cell (x : Fx K h mg) : BodyX P w K mg base d_law_cell N_law_cell 0 m_law_cell := fun cdv A outer s H E hr hgd G => dss_cons (ds_if (dt_cmpD op_ltD (de_v 1 (pv 1)) (de_cB c_len rfl (x.f_len) rfl (da_cons (de_v 0 (pv 0)) (da_nil))) (nomark _)) (dss_one (ds_ret (de_ix (de_v 0 (pv 0)) (de_v 1 (pv 1))))) (dss_nil)) (dss_cons (ds_set 2 sc_law_cell.nd rfl (.inl rfl) (de_opD op_addD (de_int) (de_opD op_mulD (de_int) (de_v 1 (pv 1))))) (dss_cons (ds_for PassesOwn.never rfl (di_any (de_sl (de_v 0 (pv 0)) (do_none) (do_some (de_int)))) (dg_name 3 sc_law_cell.nd rfl (.inl rfl)) (dss_one (ds_set 2 sc_law_cell.nd rfl (.inl rfl) (de_opD op_modD (de_cT c_int rfl (x.f_int) rfl (da_cons (de_opD op_addD (de_opD op_mulD (de_v 2 (pv 2)) (de_int)) (de_v 3 (pv 3))) (da_nil))) (de_int))))) (dss_one (ds_ret (de_v 2 (pv 2))))))
theorem ok_law_cell (x : Fx K h mg) : Dn P w K mg base d_law_cell 1 P_law_cell (spD K mg 2 F_law_cell) := dnD (x.cx.def_ 0 (d := d_law_cell)) sc_law_cell (b_law_cell x)
theorem bd_law_well : Bds K d_law_well P_law_well := fun fd F => F.bindsN fun _ _ _ _ _ _ us hl => match us, hl with | [_, _], _ => rfl
def m_law_well : M Fl := sSeq (sSet 2 (mFn 2 0 (fun ds _ => ds) F_law_cell (aCons (vR 0) (aCons (vR 1) (aNil))) (aNil))) (sSeq (sSet 3 (mIf (mOr (mB (m2 ltD (vR 2) (mPure (.int 0)))) (mB (m2 geD (vR 2) (m2 powD (mPure (.int 10)) (mPure (.int 18)))))) (mCall absD (aCons (vR 2) (aNil))) (mPure (.int 0)))) (sRetF (mLst (aCons (m2 modD (mCall intD (aCons (m2 addD (m2 mulD (vR 2) (mPure (.int 69621))) (mPure (.int 40014))) (aNil))) (mPure (.int 2147483579))) (aCons (vR 3) (aCons (mPure (.int 0)) (aNil)))))))
def F_law_well : List D → Option (List D) := runF 4 m_law_well
theorem b_law_well (x : Fx K h mg) : BodyX P w K mg base d_law_well N_law_well 1 m_law_well := fun cdv A outer s H E hr hgd G => dss_cons (ds_set 2 sc_law_well.nd rfl (.inl rfl) (dcall (d := d_law_cell) (ok_law_cell x) (KBs.all bd_law_cell) hr hgd (x.g_law_cell) rfl (da_cons (de_v 0 (pv 0)) (da_cons (de_v 1 (pv 1)) (da_nil))) (dk_nil))) (dss_cons (ds_set 3 sc_law_well.nd rfl (.inl rfl) (de_if (DW.dt (dw_or (dt_cmpD op_ltD (de_v 2 (pv 2)) (de_int) (nomark _)) (dw_or1 (dt_cmpD op_geD (de_v 2 (pv 2)) (de_opD op_powD (de_int) (de_int)) (nomark _))))) (de_cB c_abs rfl (x.f_abs) rfl (da_cons (de_v 2 (pv 2)) (da_nil))) (de_int))) (dss_one (ds_retF (df_lst (da_cons (de_opD op_modD (de_cT c_int rfl (x.f_int) rfl (da_cons (de_opD op_addD (de_opD op_mulD (de_v 2 (pv 2)) (de_int)) (de_int)) (da_nil))) (de_int)) (da_cons (de_v 3 (pv 3)) (da_cons (de_int) (da_nil))))))))
theorem ok_law_well (x : Fx K h mg) : Dn P w K mg base d_law_well 2 P_law_well (spF K mg 2 F_law_well) := dnF (x.cx.def_ 1 (d := d_law_well)) sc_law_well (b_law_well x)
theorem bd_law_draw : Bds K d_law_draw P_law_draw := fun fd F => F.bindsN fun _ _ _ _ _ _ us hl => match us, hl with | [_, _], _ => rfl
def m_law_draw : M Fl := sSeq (sSetItem 0 (mPure (.int 2)) (m2 addD (bor (m2 ixD (vR 0) (mPure (.int 2)))) (mPure (.int 1)))) (sSeq (sSetItem 0 (mPure (.int 0)) (m2 modD (mCall intD (aCons (m2 addD (m2 addD (m2 powD (bor (m2 ixD (vR 0) (mPure (.int 0)))) (mPure (.int 3))) (m2 mulD (mPure (.int 91997)) (bor (m2 ixD (vR 0) (mPure (.int 2)))))) (mPure (.int 17))) (aNil))) (mPure (.int 2147483579)))) (sSeq (sIf (mB (m2 gtD (bor (m2 ixD (vR 0) (mPure (.int 1)))) (mPure (.int 0)))) (sSeq (sSet 2 (m2 modD (mCall intD (aCons (bor (m2 ixD (vR 0) (mPure (.int 1)))) (aNil))) (vR 1))) (sSeq (sSetItem 0 (mPure (.int 1)) (m2 fdivD (mCall intD (aCons (bor (m2 ixD (vR 0) (mPure (.int 1)))) (aNil))) (vR 1))) (sRet (vR 2)))) (sNil)) (sRet (m2 modD (mCall intD (aCons (m2 fdivD (bor (m2 ixD (vR 0) (mPure (.int 0)))) (mPure (.int 64))) (aNil))) (vR 1)))))
def F_law_draw : List D → List D → Option (D × List D) := runW 3 m_law_draw
theorem b_law_draw (x : Fx K h mg) : BodyX P w K mg base d_law_draw N_law_draw 0 m_law_draw := fun cdv A outer s H E hr hgd G => dss_cons (ds_setItem 0 (pv 0) (de_int) (de_opD op_addD (de_bor (fun _ => de_ix (de_v 0 (pv 0)) (de_int))) (de_int))) (dss_cons (ds_setItem 0 (pv 0) (de_int) (de_opD op_modD (de_cT c_int rfl (x.f_int) rfl (da_cons (de_opD op_addD (de_opD op_addD (de_opD op_powD (de_bor (fun _ => de_ix (de_v 0 (pv 0)) (de_int))) (de_int)) (de_opD op_mulD (de_int) (de_bor (fun _ => de_ix (de_v 0 (pv 0)) (de_int))))) (de_int)) (da_nil))) (de_int))) (dss_cons (ds_if (dt_cmpD op_gtD (de_bor (fun _ => de_ix (de_v 0 (pv 0)) (de_int))) (de_int) (nomark _)) (dss_cons (ds_set 2 sc_law_draw.nd rfl (.inl rfl) (de_opD op_modD (de_cT c_int rfl (x.f_int) rfl (da_cons (de_bor (fun _ => de_ix (de_v 0 (pv 0)) (de_int))) (da_nil))) (de_v 1 (pv 1)))) (dss_cons (ds_setItem 0 (pv 0) (de_int) (de_opD op_fdivD (de_cT c_int rfl (x.f_int) rfl (da_cons (de_bor (fun _ => de_ix (de_v 0 (pv 0)) (de_int))) (da_nil))) (de_v 1 (pv 1)))) (dss_one (ds_ret (de_v 2 (pv 2)))))) (dss_nil)) (dss_one (ds_ret (de_opD op_modD (de_cT c_int rfl (x.f_int) rfl (da_cons (de_opD op_fdivD (de_bor (fun _ => de_ix (de_v 0 (pv 0)) (de_int))) (de_int)) (da_nil))) (de_v 1 (pv 1)))))))
theorem ok_law_draw (x : Fx K h mg) : Dn P w K mg base d_law_draw 1 P_law_draw (spW K mg 2 F_law_draw) := dnW (x.cx.def_ 2 (d := d_law_draw)) sc_law_draw (b_law_draw x)
theorem bd_law_flags : Bds K d_law_flags P_law_flags := fun fd F => F.bindsN fun _ _ _ _ _ _ us hl => match us, hl with | [_, _, _, _], _ => rfl
def m_law_flags : M Fl := sSeq (sOwn 4 (mLc (mBind (aCons (vR 3) (aNil)) fun l => mLift (rng1 l)) (gN 5) (mPure true) (m2 (inD false) (vR 5) (vR 0)) [5])) (sSeq (sFor (mBind (vR 1) fun d => mLift (iterD d)) (gN 6) (sFor (mBind (aCons (vR 6) (aCons (vR 3) (aCons (vR 2) (aNil)))) fun l => mLift (rng3 l)) (gN 5) (sSetItem 4 (vR 5) (mPure (.bl true))))) (frz 4 (sRet (vR 4))))
def F_law_flags : List D → Option D := runD 7 m_law_flags
theorem b_law_flags (x : Fx K h mg) : BodyX P w K mg base d_law_flags N_law_flags 0 m_law_flags := fun cdv A outer s H E hr hgd G => dss_cons (ds_ownLc 4 (by decide) (own := [("_law_k", 5)]) rfl sc_law_flags.nd rfl rfl (sw_true rfl rfl rfl (by decide +kernel)) (di_range1 rfl (x.f_range) (da_cons (de_v 3 (pv 3)) (da_nil))) (blkOk_by (own := [("_law_k", 5)]) (N := N_law_flags) (sc := d_law_flags.scope) (by decide +kernel)) (by decide) (fun _ _ _ _ _ _ => dg_name 5 sc_law_flags.nd rfl (.inl rfl)) (fun _ _ _ _ _ _ => dts_nil) (fun _ _ _ _ _ _ => de_cmpD op_inDD (de_v 5 (pv 5)) (de_v 0 (pv 0)) rfl)) (dss_cons (ds_for PassesOwn.never rfl (di_any (de_v 1 (pv 1))) (dg_name 6 sc_law_flags.nd rfl (.inl rfl)) (dss_one (ds_for PassesOwn.never rfl (di_range3 rfl (x.f_range) (da_cons (de_v 6 (pv 6)) (da_cons (de_v 3 (pv 3)) (da_cons (de_v 2 (pv 2)) (da_nil))))) (dg_name 5 sc_law_flags.nd rfl (.inl rfl)) (dss_one (ds_setItem 4 (pv 4) (de_v 5 (pv 5)) (de_bl)))))) (dss_one (ds_frz 4 (ds_ret (de_v 4 (pv 4))))))
theorem ok_law_flags (x : Fx K h mg) : Dn P w K mg base d_law_flags 1 P_law_flags (spD K mg 4 F_law_flags) := dnD (x.cx.def_ 3 (d := d_law_flags)) sc_law_flags (b_law_flags x)
def ti_tuple : List (Tg × Bool) := [(.ty "int", false), (.ty "bool", false), (.ty "str", false), (.ty "tuple", true), (.ty "list", false), (.ty "NoneType", false), (.ty "dict", false), (.cl 0, false), (.cl 1, false)]
theorem tk_ti_tuple (x : Fx K h mg) : ∀ p ∈ ti_tuple, TagOk K mg (.type "tuple") p := by
  intro p hp
  simp only [ti_tuple, List.mem_cons, List.not_mem_nil, or_false] at hp
  rcases hp with rfl | rfl | rfl | rfl | rfl | rfl | rfl | rfl | rfl
  · exact (x.ki_int_tuple)
  · exact (x.ki_bool_tuple)
  · exact (x.ki_str_tuple)
  · exact (x.ki_tuple_tuple)
  · exact (x.ki_list_tuple)
  · exact (x.ki_NoneType_tuple)
  · exact (x.ki_dict_tuple)
  · exact ⟨_, (x.c_Lags), (x.ki_Lags_tuple)⟩
  · exact ⟨_, (x.c_FormedLags), (x.ki_FormedLags_tuple)⟩
def ti_int : List (Tg × Bool) := [(.ty "int", true), (.ty "bool", true), (.ty "str", false), (.ty "tuple", false), (.ty "list", false), (.ty "NoneType", false), (.ty "dict", false), (.cl 0, false), (.cl 1, false)]
theorem tk_ti_int (x : Fx K h mg) : ∀ p ∈ ti_int, TagOk K mg (.type "int") p := by
  intro p hp
  simp only [ti_int, List.mem_cons, List.not_mem_nil, or_false] at hp
  rcases hp with rfl | rfl | rfl | rfl | rfl | rfl | rfl | rfl | rfl
  · exact (x.ki_int_int)
  · exact (x.ki_bool_int)
  · exact (x.ki_str_int)
  · exact (x.ki_tuple_int)
  · exact (x.ki_list_int)
  · exact (x.ki_NoneType_int)
  · exact (x.ki_dict_int)
  · exact ⟨_, (x.c_Lags), (x.ki_Lags_int)⟩
  · exact ⟨_, (x.c_FormedLags), (x.ki_FormedLags_int)⟩
def ti_bool : List (Tg × Bool) := [(.ty "int", false), (.ty "bool", true), (.ty "str", false), (.ty "tuple", false), (.ty "list", false), (.ty "NoneType", false), (.ty "dict", false), (.cl 0, false), (.cl 1, false)]
theorem tk_ti_bool (x : Fx K h mg) : ∀ p ∈ ti_bool, TagOk K mg (.type "bool") p := by
  intro p hp
  simp only [ti_bool, List.mem_cons, List.not_mem_nil, or_false] at hp
  rcases hp with rfl | rfl | rfl | rfl | rfl | rfl | rfl | rfl | rfl
  · exact (x.ki_int_bool)
  · exact (x.ki_bool_bool)
  · exact (x.ki_str_bool)
  · exact (x.ki_tuple_bool)
  · exact (x.ki_list_bool)
  · exact (x.ki_NoneType_bool)
  · exact (x.ki_dict_bool)
  · exact ⟨_, (x.c_Lags), (x.ki_Lags_bool)⟩
  · exact ⟨_, (x.c_FormedLags), (x.ki_FormedLags_bool)⟩
theorem bd_is_integer : Bds K d_is_integer P_is_integer := fun fd F => F.bindsN fun _ _ _ _ _ _ us hl => match us, hl with | [_], _ => rfl
def m_is_integer : M Fl := sRet (mAndV (m1 (isiD ti_int) (vR 0)) (mNotV (m1 (isiD ti_bool) (vR 0))))
def F_is_integer : List D → Option D := runD 1 m_is_integer
theorem b_is_integer (x : Fx K h mg) : BodyX P w K mg base d_is_integer N_is_integer 0 m_is_integer := fun cdv A outer s H E hr hgd G => dss_one (ds_ret (de_and (de_isi rfl (x.f_isinstance) (de_v 0 (pv 0)) (pe_bltn (v := .ty "int") rfl (x.f_int) rfl rfl) (.ty "int") (tk_ti_int x)) (de_one (de_not (de_isi rfl (x.f_isinstance) (de_v 0 (pv 0)) (pe_bltn (v := .ty "bool") rfl (x.f_bool) rfl rfl) (.ty "bool") (tk_ti_bool x))))))
theorem ok_is_integer (x : Fx K h mg) : Dn P w K mg base d_is_integer 1 P_is_integer (spD K mg 1 F_is_integer) := dnD (x.cx.def_ 4 (d := d_is_integer)) sc_is_integer (b_is_integer x)
theorem bd_check_numbers : Bds K d_check_numbers P_check_numbers := fun fd F => F.bindsN fun _ _ _ _ _ _ us hl => match us, hl with | [_], _ => rfl
def m_check_numbers : M Fl := sSeq (sIf (mNot (mTru (m1 (isiD ti_tuple) (vR 0)))) (sNo) (sNil)) (sFor (mBind (aCons (vR 0) (aNil)) fun l => mLift (enumD l)) (gT 2 (gsCons (gN 1) (gsCons (gN 2) (gsNil)))) (sIf (mOr (mNot (mTru (mFn 1 0 (fun ds _ => ds) F_is_integer (aCons (vR 2) (aNil)) (aNil)))) (mNot (mB (mCh leD leD (mPure (.int 0)) (vR 2) (mPure (.int 1000)))))) (sNo) (sNil)))
def F_check_numbers : List D → Option D := runD 3 m_check_numbers
theorem b_check_numbers (x : Fx K h mg) : BodyX P w K mg base d_check_numbers N_check_numbers 1 m_check_numbers := fun cdv A outer s H E hr hgd G => dss_cons (ds_if (dt_not (dt_of (de_isi rfl (x.f_isinstance) (de_v 0 (pv 0)) (pe_bltn (v := .ty "tuple") rfl (x.f_tuple) rfl rfl) (.ty "tuple") (tk_ti_tuple x)))) (dss_one (ds_no)) (dss_nil)) (dss_one (ds_for PassesOwn.never rfl (di_enum rfl (x.f_enumerate) (da_cons (de_v 0 (pv 0)) (da_nil))) (dg_tup rfl (dgs_cons (dg_name 1 sc_check_numbers.nd rfl (.inl rfl)) (dgs_cons (dg_name 2 sc_check_numbers.nd rfl (.inl rfl)) (dgs_nil)))) (dss_one (ds_if (DW.dt (dw_or (dt_not (dt_of (dcall (d := d_is_integer) (ok_is_integer x) (KBs.all bd_is_integer) hr hgd (x.g_is_integer) rfl (da_cons (de_v 2 (pv 2)) (da_nil)) (dk_nil)))) (dw_or1 (dt_not (dt_chainD op_leD op_leD (de_int) (de_v 2 (pv 2)) (de_gi rfl (x.k_MOST_MEMBER))))))) (dss_one (ds_no)) (dss_nil)))))
theorem ok_check_numbers (x : Fx K h mg) : Dn P w K mg base d_check_numbers 2 P_check_numbers (spD K mg 1 F_check_numbers) := dnD (x.cx.def_ 5 (d := d_check_numbers)) sc_check_numbers (b_check_numbers x)
theorem bd_least_period : Bds K d_least_period P_least_period := fun fd F => F.bindsN fun _ _ _ _ _ _ us hl => match us, hl with | [_, _, _], _ => rfl
def m_least_period : M Fl := sSeq (sFor (mBind (aCons (mPure (.int 1)) (aCons (vR 2) (aNil))) fun l => mLift (rng2 l)) (gN 3) (sIf (mB (m2 (eqD false) (m2 modD (vR 2) (vR 3)) (mPure (.int 0)))) (sSeq (sSetL 4 (mLc (mBind (aCons (vR 2) (aNil)) fun l => mLift (rng1 l)) (gN 5) (mPure true) (m2 ixD (vR 0) (m2 addD (vR 1) (m2 modD (m2 addD (vR 5) (vR 3)) (vR 2)))) [5])) (sIf (mB (m2 (eqD false) (vR 4) (mCall listD (aCons (mSl (vR 0) (mBind (vR 1) fun d => mLift (asI d)) (mBind (m2 addD (vR 1) (vR 2)) fun d => mLift (asI d))) (aNil))))) (sRet (vR 3)) (sNil))) (sNil))) (sRet (vR 2))
def F_least_period : List D → Option D := runD 6 m_least_period
theorem b_least_period (x : Fx K h mg) : BodyX P w K mg base d_least_period N_least_period 0 m_least_period := fun cdv A outer s H E hr hgd G => dss_cons (ds_for PassesOwn.never rfl (di_range2 rfl (x.f_range) (da_cons (de_int) (da_cons (de_v 2 (pv 2)) (da_nil)))) (dg_name 3 sc_least_period.nd rfl (.inr rfl)) (dss_one (ds_if (dt_cmpD (op_eqDD (roomN hr)) (de_opD op_modD (de_v 2 (pv 2)) (de_v 3 (pv 3))) (de_int) (nomark _)) (dss_cons (ds_setLc 4 (own := [("k", 5)]) rfl sc_least_period.nd rfl rfl (sw_true rfl rfl rfl (by decide +kernel)) (di_range1 rfl (x.f_range) (da_cons (de_v 2 (pv 2)) (da_nil))) (blkOk_by (own := [("k", 5)]) (N := N_least_period) (sc := d_least_period.scope) (by decide +kernel)) (by decide) (fun _ _ _ _ _ _ => dg_name 5 sc_least_period.nd rfl (.inl rfl)) (fun _ _ _ _ _ _ => dts_nil) (fun _ _ _ _ _ _ => de_ix (de_v 0 (pv 0)) (de_opD op_addD (de_v 1 (pv 1)) (de_opD op_modD (de_opD op_addD (de_v 5 (pv 5)) (de_v 3 (pv 3))) (de_v 2 (pv 2)))))) (dss_one (ds_if (dt_cmpD (op_eqDD (roomN hr)) (de_v 4 (pv 4)) (de_cT c_list rfl (x.f_list) rfl (da_cons (de_sl (de_v 0 (pv 0)) (do_some (de_v 1 (pv 1))) (do_some (de_opD op_addD (de_v 1 (pv 1)) (de_v 2 (pv 2))))) (da_nil))) (nomark _)) (dss_one (ds_ret (de_v 3 (pv 3)))) (dss_nil)))) (dss_nil)))) (dss_one (ds_ret (de_v 2 (pv 2))))
theorem ok_least_period (x : Fx K h mg) : Dn P w K mg base d_least_period 1 P_least_period (spD K mg 3 F_least_period) := dnD (x.cx.def_ 6 (d := d_least_period)) sc_least_period (b_least_period x)
theorem bd_least_form : Bds K d_least_form P_least_form := fun fd F => F.bindsN fun _ _ _ _ _ _ us hl => match us, hl with | [_, _, _], _ => rfl
def m_least_form : M Fl := sSeq (sSet 3 (mFn 3 0 (fun ds _ => ds) F_least_period (aCons (vR 0) (aCons (vR 1) (aCons (vR 2) (aNil)))) (aNil))) (sSeq (sWhile (mAnd (mB (m2 gtD (vR 1) (mPure (.int 0)))) (mB (m2 (eqD false) (m2 ixD (vR 0) (m2 subD (vR 1) (mPure (.int 1)))) (m2 ixD (vR 0) (m2 addD (m2 subD (vR 1) (mPure (.int 1))) (vR 3)))))) (sSet 1 (m2 subD (vR 1) (mPure (.int 1))))) (sRet (mTup (aCons (vR 1) (aCons (vR 3) (aCons (mCall tupleD (aCons (mSl (vR 0) (mPure none) (mBind (m2 addD (vR 1) (vR 3)) fun d => mLift (asI d))) (aNil))) (aNil)))))))
def F_least_form : List D → Option D := runD 4 m_least_form
theorem b_least_form (x : Fx K h mg) : BodyX P w K mg base d_least_form N_least_form 1 m_least_form := fun cdv A outer s H E hr hgd G => dss_cons (ds_set 3 sc_least_form.nd rfl (.inl rfl) (dcall (d := d_least_period) (ok_least_period x) (KBs.all bd_least_period) hr hgd (x.g_least_period) rfl (da_cons (de_v 0 (pv 0)) (da_cons (de_v 1 (pv 1)) (da_cons (de_v 2 (pv 2)) (da_nil)))) (dk_nil))) (dss_cons (ds_while PassesOwn.never (DW.dt (dw_and (dt_cmpD op_gtD (de_v 1 (pv 1)) (de_int) (nomark _)) (dw_and1 (dt_cmpD (op_eqDD (roomN hr)) (de_ix (de_v 0 (pv 0)) (de_opD op_subD (de_v 1 (pv 1)) (de_int))) (de_ix (de_v 0 (pv 0)) (de_opD op_addD (de_opD op_subD (de_v 1 (pv 1)) (de_int)) (de_v 3 (pv 3)))) (nomark _))))) (dss_one (ds_set 1 sc_least_form.nd rfl (.inl rfl) (de_opD op_subD (de_v 1 (pv 1)) (de_int))))) (dss_one (ds_ret (de_tup (da_cons (de_v 1 (pv 1)) (da_cons (de_v 3 (pv 3)) (da_cons (de_cT c_tuple rfl (x.f_tuple) rfl (da_cons (de_sl (de_v 0 (pv 0)) (do_none) (do_some (de_opD op_addD (de_v 1 (pv 1)) (de_v 3 (pv 3))))) (da_nil))) (da_nil))))))))
theorem ok_least_form (x : Fx K h mg) : Dn P w K mg base d_least_form 2 P_least_form (spD K mg 3 F_least_form) := dnD (x.cx.def_ 7 (d := d_least_form)) sc_least_form (b_least_form x)
theorem bd_flags_of : Bds K d_flags_of P_flags_of := fun fd F => F.bindsN fun _ _ _ _ _ _ us hl => match us, hl with | [_, _, _, _], _ => rfl
def m_flags_of : M Fl := sSeq (sOwn 4 (m2F repF (mBind (mLst (aCons (mPure (.bl false)) (aNil))) fun l => mPure (.lst l)) (m2 addD (vR 2) (vR 3)))) (sSeq (sFor (mBind (vR 0) fun d => mLift (iterD d)) (gN 5) (sSetItem 4 (vR 5) (mPure (.bl true)))) (sSeq (sFor (mBind (vR 1) fun d => mLift (iterD d)) (gN 5) (sFor (mBind (aCons (vR 5) (aCons (m2 addD (vR 2) (vR 3)) (aCons (vR 3) (aNil)))) fun l => mLift (rng3 l)) (gN 6) (sSetItem 4 (vR 6) (mPure (.bl true))))) (frz 4 (sRet (vR 4)))))
def F_flags_of : List D → Option D := runD 7 m_flags_of
theorem b_flags_of (x : Fx K h mg) : BodyX P w K mg base d_flags_of N_flags_of 0 m_flags_of := fun cdv A outer s H E hr hgd G => dss_cons (ds_own 4 (by decide) sc_flags_of.nd rfl (.inl rfl) (df_rep (DF.de (df_lst (da_cons (de_bl) (da_nil)))) (de_opD op_addD (de_v 2 (pv 2)) (de_v 3 (pv 3))))) (dss_cons (ds_for PassesOwn.never rfl (di_any (de_v 0 (pv 0))) (dg_name 5 sc_flags_of.nd rfl (.inl rfl)) (dss_one (ds_setItem 4 (pv 4) (de_v 5 (pv 5)) (de_bl)))) (dss_cons (ds_for PassesOwn.never rfl (di_any (de_v 1 (pv 1))) (dg_name 5 sc_flags_of.nd rfl (.inl rfl)) (dss_one (ds_for PassesOwn.never rfl (di_range3 rfl (x.f_range) (da_cons (de_v 5 (pv 5)) (da_cons (de_opD op_addD (de_v 2 (pv 2)) (de_v 3 (pv 3))) (da_cons (de_v 3 (pv 3)) (da_nil))))) (dg_name 6 sc_flags_of.nd rfl (.inl rfl)) (dss_one (ds_setItem 4 (pv 4) (de_v 6 (pv 6)) (de_bl)))))) (dss_one (ds_frz 4 (ds_ret (de_v 4 (pv 4)))))))
theorem ok_flags_of (x : Fx K h mg) : Dn P w K mg base d_flags_of 1 P_flags_of (spD K mg 4 F_flags_of) := dnD (x.cx.def_ 8 (d := d_flags_of)) sc_flags_of (b_flags_of x)
def m_Lagsx_initx : M Fl := sSeq (sExpr (mFn 1 0 (fun ds _ => ds) F_check_numbers (aCons (vR 1) (aNil)) (aNil))) (sSeq (sExpr (mFn 1 0 (fun ds _ => ds) F_check_numbers (aCons (vR 2) (aNil)) (aNil))) (sSeq (sIf (mOr (mNot (mTru (mFn 1 0 (fun ds _ => ds) F_is_integer (aCons (vR 3) (aNil)) (aNil)))) (mNot (mB (mCh leD leD (mPure (.int 1)) (vR 3) (mPure (.int 60)))))) (sNo) (sNil)) (sSeq (sSet 4 (m2 addD (mCall maxD (aCons (mBind (mLst (aCons (m1 negD (mPure (.int 1))) (aStar (vR 1) (aStar (vR 2) (aNil))))) fun l => mPure (.lst l)) (aNil))) (mPure (.int 1)))) (sSetFs 0 "form" [0, 1] (mFn 3 0 (fun ds _ => ds) F_least_form (aCons (mFn 4 0 (fun ds _ => ds) F_flags_of (aCons (vR 1) (aCons (vR 2) (aCons (vR 4) (aCons (vR 3) (aNil))))) (aNil)) (aCons (vR 4) (aCons (vR 3) (aNil)))) (aNil))))))
def F_Lagsx_initx : List D → Option (List D) := runI 5 0 m_Lagsx_initx
theorem b_Lagsx_initx (x : Fx K h mg) : BodyX P w K mg base d_Lagsx_initx N_Lagsx_initx 2 m_Lagsx_initx := fun cdv A outer s H E hr hgd G => dss_cons (ds_expr (dcall (d := d_check_numbers) (ok_check_numbers x) (KBs.all bd_check_numbers) hr hgd (x.g_check_numbers) rfl (da_cons (de_v 1 (pv 1)) (da_nil)) (dk_nil))) (dss_cons (ds_expr (dcall (d := d_check_numbers) (ok_check_numbers x) (KBs.all bd_check_numbers) hr hgd (x.g_check_numbers) rfl (da_cons (de_v 2 (pv 2)) (da_nil)) (dk_nil))) (dss_cons (ds_if (DW.dt (dw_or (dt_not (dt_of (dcall (d := d_is_integer) (ok_is_integer x) (KBs.all bd_is_integer) hr hgd (x.g_is_integer) rfl (da_cons (de_v 3 (pv 3)) (da_nil)) (dk_nil)))) (dw_or1 (dt_not (dt_chainD op_leD op_leD (de_int) (de_v 3 (pv 3)) (de_gi rfl (x.k_MOST_PERIOD))))))) (dss_one (ds_no)) (dss_nil)) (dss_cons (ds_set 4 sc_Lagsx_initx.nd rfl (.inl rfl) (de_opD op_addD (de_cB (c_max rfl) rfl (x.f_max) rfl (da_cons (DF.de (df_lst (da_cons (de_neg (de_int)) (da_star (de_v 1 (pv 1)) (da_star (de_v 2 (pv 2)) (da_nil)))))) (da_nil))) (de_int))) (dss_one (ds_setFs (cs := [0, 1]) 0 (pv 0) (dcall (d := d_least_form) (ok_least_form x) (KBs.all bd_least_form) hr hgd (x.g_least_form) rfl (da_cons (dcall (d := d_flags_of) (ok_flags_of x) (KBs.all bd_flags_of) hr hgd (x.g_flags_of) rfl (da_cons (de_v 1 (pv 1)) (da_cons (de_v 2 (pv 2)) (da_cons (de_v 4 (pv 4)) (da_cons (de_v 3 (pv 3)) (da_nil))))) (dk_nil)) (da_cons (de_v 4 (pv 4)) (da_cons (de_v 3 (pv 3)) (da_nil)))) (dk_nil)) (by intro c hc; simp only [List.mem_cons, List.not_mem_nil, or_false] at hc; rcases hc with rfl | rfl <;> first | exact ⟨_, (x.c_Lags), (x.na_Lags_form)⟩ | exact ⟨_, (x.c_FormedLags), (x.na_FormedLags_form)⟩))))))
theorem ok_Lagsx_initx (x : Fx K h mg) : Dn P w K mg base d_Lagsx_initx 3 P_Lagsx_initx (spI K mg 4 0 F_Lagsx_initx) := dnI (x.cx.def_ 9 (d := d_Lagsx_initx)) sc_Lagsx_initx (b_Lagsx_initx x)
theorem kb_Lagsx_initx_3 (x : Fx K h mg) : KIs K mg d_Lagsx_initx P_Lagsx_initx 3 [] (fun ds es => pick [.p 0, .p 1, .p 2] ds [(.tup []), (.tup []), (.int 1)] [] es) := fun fd F => by
  obtain ⟨its, h⟩ := F.kbindsD (ps := P_Lagsx_initx) 4 [] (fun us its ws => pick (.p 0 :: ([.p 0, .p 1, .p 2] : List Src).map Src.up) us its [] ws) (by simp [d_Lagsx_initx]) (fun a b d => pick_vals a b .nil d _) (fun _ _ _ _ _ _ _ us its ws h1 h2 h4 => match us, its, ws, h1, h2, h4 with | [_, _, _, _], [_, _, _], [], _, _, _ => ⟨_, rfl, rfl⟩)
  exact KI.ofV (src := [.p 0, .p 1, .p 2]) (dv := d_Lagsx_initx.dfl K) (dd := [(.tup []), (.tup []), (.int 1)]) (md := []) h (fun H => .cons (tupE_ok (x.td_Lagsx_initx_0) H) (.cons (tupE_ok (x.td_Lagsx_initx_1) H) (.cons (.int _) (.nil)))) (by decide) (by decide) (by decide)
theorem bd_law_comes : Bds K d_law_comes P_law_comes := fun fd F => F.bindsN fun _ _ _ _ _ _ us hl => match us, hl with | [_, _, _, _], _ => rfl
def m_law_comes : M Fl := sSeq (sIf (mB (m2 (eqD true) (m2 modD (mCall intD (aCons (vR 2) (aNil))) (vR 3)) (mPure (.int 0)))) (sRet (mPure (.bl false))) (sNil)) (sSeq (sSetL 4 (mLc (mBind (aCons (vR 2) (aNil)) fun l => mLift (rng1 l)) (gN 5) (mPure true) (m2 ixD (vR 0) (m2 addD (vR 1) (m2 modD (mCall intD (aCons (m2 addD (vR 5) (vR 3)) (aNil))) (vR 2)))) [5])) (sRet (m2 (eqD false) (vR 4) (mSl (vR 0) (mBind (vR 1) fun d => mLift (asI d)) (mBind (m2 addD (vR 1) (vR 2)) fun d => mLift (asI d))))))
def F_law_comes : List D → Option D := runD 6 m_law_comes
theorem b_law_comes (x : Fx K h mg) : BodyX P w K mg base d_law_comes N_law_comes 0 m_law_comes := fun cdv A outer s H E hr hgd G => dss_cons (ds_if (dt_cmpD (op_neDD (roomN hr)) (de_opD op_modD (de_cT c_int rfl (x.f_int) rfl (da_cons (de_v 2 (pv 2)) (da_nil))) (de_v 3 (pv 3))) (de_int) (nomark _)) (dss_one (ds_ret (de_bl))) (dss_nil)) (dss_cons (ds_setLc 4 (own := [("_law_k", 5)]) rfl sc_law_comes.nd rfl rfl (sw_true rfl rfl rfl (by decide +kernel)) (di_range1 rfl (x.f_range) (da_cons (de_v 2 (pv 2)) (da_nil))) (blkOk_by (own := [("_law_k", 5)]) (N := N_law_comes) (sc := d_law_comes.scope) (by decide +kernel)) (by decide) (fun _ _ _ _ _ _ => dg_name 5 sc_law_comes.nd rfl (.inl rfl)) (fun _ _ _ _ _ _ => dts_nil) (fun _ _ _ _ _ _ => de_ix (de_v 0 (pv 0)) (de_opD op_addD (de_v 1 (pv 1)) (de_opD op_modD (de_cT c_int rfl (x.f_int) rfl (da_cons (de_opD op_addD (de_v 5 (pv 5)) (de_v 3 (pv 3))) (da_nil))) (de_v 2 (pv 2)))))) (dss_one (ds_ret (de_cmpD (op_eqDD (roomN hr)) (de_v 4 (pv 4)) (de_sl (de_v 0 (pv 0)) (do_some (de_v 1 (pv 1))) (do_some (de_opD op_addD (de_v 1 (pv 1)) (de_v 2 (pv 2))))) (nomark _)))))
theorem ok_law_comes (x : Fx K h mg) : Dn P w K mg base d_law_comes 1 P_law_comes (spD K mg 4 F_law_comes) := dnD (x.cx.def_ 10 (d := d_law_comes)) sc_law_comes (b_law_comes x)
theorem bd_law_form : Bds K d_law_form P_law_form := fun fd F => F.bindsN fun _ _ _ _ _ _ us hl => match us, hl with | [_, _, _], _ => rfl
def m_law_form : M Fl := sSeq (sPar 3 4 (aCons (vR 2) (aCons (vR 1) (aNil)))) (sSeq (sFor (mBind (aCons (m2 subD (vR 2) (mPure (.int 1))) (aCons (mPure (.int 0)) (aCons (m1 negD (mPure (.int 1))) (aNil)))) fun l => mLift (rng3 l)) (gN 5) (sIf (mTru (mFn 4 0 (fun ds _ => ds) F_law_comes (aCons (vR 0) (aCons (vR 1) (aCons (vR 2) (aCons (vR 5) (aNil))))) (aNil))) (sSet 3 (vR 5)) (sNil))) (sSeq (sWhile (mAnd (mB (m2 gtD (vR 4) (mPure (.int 0)))) (mB (m2 (eqD false) (m2 ixD (vR 0) (m2 subD (vR 4) (mPure (.int 1)))) (m2 ixD (vR 0) (m2 addD (m2 subD (vR 4) (mPure (.int 1))) (vR 3)))))) (sSet 4 (m2 subD (vR 4) (mPure (.int 1))))) (sRet (mTup (aCons (vR 4) (aCons (vR 3) (aCons (mBind (mLc (mBind (aCons (m2 addD (vR 4) (vR 3)) (aNil)) fun l => mLift (rng1 l)) (gN 6) (mTru (m2 ixD (vR 0) (vR 6))) (vR 6) [6]) fun l => mPure (.lst l)) (aNil))))))))
def F_law_form : List D → Option D := runD 7 m_law_form
theorem b_law_form (x : Fx K h mg) : BodyX P w K mg base d_law_form N_law_form 1 m_law_form := fun cdv A outer s H E hr hgd G => dss_cons (ds_par 3 4 rfl sc_law_form.nd rfl rfl (by decide) rfl rfl (da_cons (de_v 2 (pv 2)) (da_cons (de_v 1 (pv 1)) (da_nil))) (by rfl)) (dss_cons (ds_for PassesOwn.never rfl (di_range3 rfl (x.f_range) (da_cons (de_opD op_subD (de_v 2 (pv 2)) (de_int)) (da_cons (de_int) (da_cons (de_neg (de_int)) (da_nil))))) (dg_name 5 sc_law_form.nd rfl (.inl rfl)) (dss_one (ds_if (dt_of (dcall (d := d_law_comes) (ok_law_comes x) (KBs.all bd_law_comes) hr hgd (x.g_law_comes) rfl (da_cons (de_v 0 (pv 0)) (da_cons (de_v 1 (pv 1)) (da_cons (de_v 2 (pv 2)) (da_cons (de_v 5 (pv 5)) (da_nil))))) (dk_nil))) (dss_one (ds_set 3 sc_law_form.nd rfl (.inl rfl) (de_v 5 (pv 5)))) (dss_nil)))) (dss_cons (ds_while PassesOwn.never (DW.dt (dw_and (dt_cmpD op_gtD (de_v 4 (pv 4)) (de_int) (nomark _)) (dw_and1 (dt_cmpD (op_eqDD (roomN hr)) (de_ix (de_v 0 (pv 0)) (de_opD op_subD (de_v 4 (pv 4)) (de_int))) (de_ix (de_v 0 (pv 0)) (de_opD op_addD (de_opD op_subD (de_v 4 (pv 4)) (de_int)) (de_v 3 (pv 3)))) (nomark _))))) (dss_one (ds_set 4 sc_law_form.nd rfl (.inl rfl) (de_opD op_subD (de_v 4 (pv 4)) (de_int))))) (dss_one (ds_ret (de_tup (da_cons (de_v 4 (pv 4)) (da_cons (de_v 3 (pv 3)) (da_cons (DF.de (df_lc (own := [("_law_k", 6)]) rfl sc_law_form.nd (di_range1 rfl (x.f_range) (da_cons (de_opD op_addD (de_v 4 (pv 4)) (de_v 3 (pv 3))) (da_nil))) (blkOk_by (own := [("_law_k", 6)]) (N := N_law_form) (sc := d_law_form.scope) (by decide +kernel)) (by decide) (fun _ _ _ _ _ _ => dg_name 6 sc_law_form.nd rfl (.inl rfl)) (fun _ _ _ _ _ _ => dts_one (dt_of (de_ix (de_v 0 (pv 0)) (de_v 6 (pv 6))))) (fun _ _ _ _ _ _ => de_v 6 (pv 6)))) (da_nil)))))))))
theorem ok_law_form (x : Fx K h mg) : Dn P w K mg base d_law_form 2 P_law_form (spD K mg 3 F_law_form) := dnD (x.cx.def_ 11 (d := d_law_form)) sc_law_form (b_law_form x)
def ti_InvalidPeriodx : List (Tg × Bool) := [(.xc 42, false)]
theorem tk_ti_InvalidPeriodx (x : Fx K h mg) : ∀ p ∈ ti_InvalidPeriodx, TagOk K mg (.ref (He.ga K "InvalidPeriod")) p := by
  intro p hp
  simp only [ti_InvalidPeriodx, List.mem_cons, List.not_mem_nil, or_false] at hp
  rcases hp with rfl
  · exact ⟨_, (x.xi_TooMany), (x.ki_TooMany_InvalidPeriod)⟩
def ti_InvalidNumberx : List (Tg × Bool) := [(.xc 42, false)]
theorem tk_ti_InvalidNumberx (x : Fx K h mg) : ∀ p ∈ ti_InvalidNumberx, TagOk K mg (.ref (He.ga K "InvalidNumber")) p := by
  intro p hp
  simp only [ti_InvalidNumberx, List.mem_cons, List.not_mem_nil, or_false] at hp
  rcases hp with rfl
  · exact ⟨_, (x.xi_TooMany), (x.ki_TooMany_InvalidNumber)⟩
def ti_InvalidTextx : List (Tg × Bool) := [(.xc 42, false)]
theorem tk_ti_InvalidTextx (x : Fx K h mg) : ∀ p ∈ ti_InvalidTextx, TagOk K mg (.ref (He.ga K "InvalidText")) p := by
  intro p hp
  simp only [ti_InvalidTextx, List.mem_cons, List.not_mem_nil, or_false] at hp
  rcases hp with rfl
  · exact ⟨_, (x.xi_TooMany), (x.ki_TooMany_InvalidText)⟩
def ti_InvalidNamex : List (Tg × Bool) := [(.xc 42, false)]
theorem tk_ti_InvalidNamex (x : Fx K h mg) : ∀ p ∈ ti_InvalidNamex, TagOk K mg (.ref (He.ga K "InvalidName")) p := by
  intro p hp
  simp only [ti_InvalidNamex, List.mem_cons, List.not_mem_nil, or_false] at hp
  rcases hp with rfl
  · exact ⟨_, (x.xi_TooMany), (x.ki_TooMany_InvalidName)⟩
def ti_InvalidHandsx : List (Tg × Bool) := [(.xc 42, false)]
theorem tk_ti_InvalidHandsx (x : Fx K h mg) : ∀ p ∈ ti_InvalidHandsx, TagOk K mg (.ref (He.ga K "InvalidHands")) p := by
  intro p hp
  simp only [ti_InvalidHandsx, List.mem_cons, List.not_mem_nil, or_false] at hp
  rcases hp with rfl
  · exact ⟨_, (x.xi_TooMany), (x.ki_TooMany_InvalidHands)⟩
def ti_InvalidStockx : List (Tg × Bool) := [(.xc 42, false)]
theorem tk_ti_InvalidStockx (x : Fx K h mg) : ∀ p ∈ ti_InvalidStockx, TagOk K mg (.ref (He.ga K "InvalidStock")) p := by
  intro p hp
  simp only [ti_InvalidStockx, List.mem_cons, List.not_mem_nil, or_false] at hp
  rcases hp with rfl
  · exact ⟨_, (x.xi_TooMany), (x.ki_TooMany_InvalidStock)⟩
def ti_InvalidFlagx : List (Tg × Bool) := [(.xc 42, false)]
theorem tk_ti_InvalidFlagx (x : Fx K h mg) : ∀ p ∈ ti_InvalidFlagx, TagOk K mg (.ref (He.ga K "InvalidFlag")) p := by
  intro p hp
  simp only [ti_InvalidFlagx, List.mem_cons, List.not_mem_nil, or_false] at hp
  rcases hp with rfl
  · exact ⟨_, (x.xi_TooMany), (x.ki_TooMany_InvalidFlag)⟩
def ti_InvalidOutletx : List (Tg × Bool) := [(.xc 42, false)]
theorem tk_ti_InvalidOutletx (x : Fx K h mg) : ∀ p ∈ ti_InvalidOutletx, TagOk K mg (.ref (He.ga K "InvalidOutlet")) p := by
  intro p hp
  simp only [ti_InvalidOutletx, List.mem_cons, List.not_mem_nil, or_false] at hp
  rcases hp with rfl
  · exact ⟨_, (x.xi_TooMany), (x.ki_TooMany_InvalidOutlet)⟩
def ti_InvalidIndexx : List (Tg × Bool) := [(.xc 42, false)]
theorem tk_ti_InvalidIndexx (x : Fx K h mg) : ∀ p ∈ ti_InvalidIndexx, TagOk K mg (.ref (He.ga K "InvalidIndex")) p := by
  intro p hp
  simp only [ti_InvalidIndexx, List.mem_cons, List.not_mem_nil, or_false] at hp
  rcases hp with rfl
  · exact ⟨_, (x.xi_TooMany), (x.ki_TooMany_InvalidIndex)⟩
def ti_InvalidTimesx : List (Tg × Bool) := [(.xc 42, false)]
theorem tk_ti_InvalidTimesx (x : Fx K h mg) : ∀ p ∈ ti_InvalidTimesx, TagOk K mg (.ref (He.ga K "InvalidTimes")) p := by
  intro p hp
  simp only [ti_InvalidTimesx, List.mem_cons, List.not_mem_nil, or_false] at hp
  rcases hp with rfl
  · exact ⟨_, (x.xi_TooMany), (x.ki_TooMany_InvalidTimes)⟩
def ti_NotLagsx : List (Tg × Bool) := [(.xc 42, false)]
theorem tk_ti_NotLagsx (x : Fx K h mg) : ∀ p ∈ ti_NotLagsx, TagOk K mg (.ref (He.ga K "NotLags")) p := by
  intro p hp
  simp only [ti_NotLagsx, List.mem_cons, List.not_mem_nil, or_false] at hp
  rcases hp with rfl
  · exact ⟨_, (x.xi_TooMany), (x.ki_TooMany_NotLags)⟩
def ti_NotALinex : List (Tg × Bool) := [(.xc 42, false)]
theorem tk_ti_NotALinex (x : Fx K h mg) : ∀ p ∈ ti_NotALinex, TagOk K mg (.ref (He.ga K "NotALine")) p := by
  intro p hp
  simp only [ti_NotALinex, List.mem_cons, List.not_mem_nil, or_false] at hp
  rcases hp with rfl
  · exact ⟨_, (x.xi_TooMany), (x.ki_TooMany_NotALine)⟩
def ti_NotALinkx : List (Tg × Bool) := [(.xc 42, false)]
theorem tk_ti_NotALinkx (x : Fx K h mg) : ∀ p ∈ ti_NotALinkx, TagOk K mg (.ref (He.ga K "NotALink")) p := by
  intro p hp
  simp only [ti_NotALinkx, List.mem_cons, List.not_mem_nil, or_false] at hp
  rcases hp with rfl
  · exact ⟨_, (x.xi_TooMany), (x.ki_TooMany_NotALink)⟩
def ti_InvalidNumbersx : List (Tg × Bool) := [(.xc 42, false)]
theorem tk_ti_InvalidNumbersx (x : Fx K h mg) : ∀ p ∈ ti_InvalidNumbersx, TagOk K mg (.ref (He.ga K "InvalidNumbers")) p := by
  intro p hp
  simp only [ti_InvalidNumbersx, List.mem_cons, List.not_mem_nil, or_false] at hp
  rcases hp with rfl
  · exact ⟨_, (x.xi_TooMany), (x.ki_TooMany_InvalidNumbers)⟩
def ti_InvalidStationsx : List (Tg × Bool) := [(.xc 42, false)]
theorem tk_ti_InvalidStationsx (x : Fx K h mg) : ∀ p ∈ ti_InvalidStationsx, TagOk K mg (.ref (He.ga K "InvalidStations")) p := by
  intro p hp
  simp only [ti_InvalidStationsx, List.mem_cons, List.not_mem_nil, or_false] at hp
  rcases hp with rfl
  · exact ⟨_, (x.xi_TooMany), (x.ki_TooMany_InvalidStations)⟩
def ti_InvalidLinksx : List (Tg × Bool) := [(.xc 42, false)]
theorem tk_ti_InvalidLinksx (x : Fx K h mg) : ∀ p ∈ ti_InvalidLinksx, TagOk K mg (.ref (He.ga K "InvalidLinks")) p := by
  intro p hp
  simp only [ti_InvalidLinksx, List.mem_cons, List.not_mem_nil, or_false] at hp
  rcases hp with rfl
  · exact ⟨_, (x.xi_TooMany), (x.ki_TooMany_InvalidLinks)⟩
def ti_UnknownNamex : List (Tg × Bool) := [(.xc 42, false)]
theorem tk_ti_UnknownNamex (x : Fx K h mg) : ∀ p ∈ ti_UnknownNamex, TagOk K mg (.ref (He.ga K "UnknownName")) p := by
  intro p hp
  simp only [ti_UnknownNamex, List.mem_cons, List.not_mem_nil, or_false] at hp
  rcases hp with rfl
  · exact ⟨_, (x.xi_TooMany), (x.ki_TooMany_UnknownName)⟩
def ti_Takenx : List (Tg × Bool) := [(.xc 42, false)]
theorem tk_ti_Takenx (x : Fx K h mg) : ∀ p ∈ ti_Takenx, TagOk K mg (.ref (He.ga K "Taken")) p := by
  intro p hp
  simp only [ti_Takenx, List.mem_cons, List.not_mem_nil, or_false] at hp
  rcases hp with rfl
  · exact ⟨_, (x.xi_TooMany), (x.ki_TooMany_Taken)⟩
def ti_TooManyx : List (Tg × Bool) := [(.xc 42, true)]
theorem tk_ti_TooManyx (x : Fx K h mg) : ∀ p ∈ ti_TooManyx, TagOk K mg (.ref (He.ga K "TooMany")) p := by
  intro p hp
  simp only [ti_TooManyx, List.mem_cons, List.not_mem_nil, or_false] at hp
  rcases hp with rfl
  · exact ⟨_, (x.xi_TooMany), (x.ki_TooMany_TooMany)⟩
def ti_Stuckx : List (Tg × Bool) := [(.xc 42, false)]
theorem tk_ti_Stuckx (x : Fx K h mg) : ∀ p ∈ ti_Stuckx, TagOk K mg (.ref (He.ga K "Stuck")) p := by
  intro p hp
  simp only [ti_Stuckx, List.mem_cons, List.not_mem_nil, or_false] at hp
  rcases hp with rfl
  · exact ⟨_, (x.xi_TooMany), (x.ki_TooMany_Stuck)⟩
def ti_EarlyLinkx : List (Tg × Bool) := [(.xc 42, false)]
theorem tk_ti_EarlyLinkx (x : Fx K h mg) : ∀ p ∈ ti_EarlyLinkx, TagOk K mg (.ref (He.ga K "EarlyLink")) p := by
  intro p hp
  simp only [ti_EarlyLinkx, List.mem_cons, List.not_mem_nil, or_false] at hp
  rcases hp with rfl
  · exact ⟨_, (x.xi_TooMany), (x.ki_TooMany_EarlyLink)⟩
def ti_WrongValuex : List (Tg × Bool) := [(.xc 42, false)]
theorem tk_ti_WrongValuex (x : Fx K h mg) : ∀ p ∈ ti_WrongValuex, TagOk K mg (.ref (He.ga K "WrongValue")) p := by
  intro p hp
  simp only [ti_WrongValuex, List.mem_cons, List.not_mem_nil, or_false] at hp
  rcases hp with rfl
  · exact ⟨_, (x.xi_TooMany), (x.ki_TooMany_WrongValue)⟩
def ti_WrongNamex : List (Tg × Bool) := [(.xc 42, false)]
theorem tk_ti_WrongNamex (x : Fx K h mg) : ∀ p ∈ ti_WrongNamex, TagOk K mg (.ref (He.ga K "WrongName")) p := by
  intro p hp
  simp only [ti_WrongNamex, List.mem_cons, List.not_mem_nil, or_false] at hp
  rcases hp with rfl
  · exact ⟨_, (x.xi_TooMany), (x.ki_TooMany_WrongName)⟩
def ti_NoAnswerx : List (Tg × Bool) := [(.xc 42, true)]
theorem tk_ti_NoAnswerx (x : Fx K h mg) : ∀ p ∈ ti_NoAnswerx, TagOk K mg (.ref (He.ga K "NoAnswer")) p := by
  intro p hp
  simp only [ti_NoAnswerx, List.mem_cons, List.not_mem_nil, or_false] at hp
  rcases hp with rfl
  · exact ⟨_, (x.xi_TooMany), (x.ki_TooMany_NoAnswer)⟩
def ti_ValueErrorx : List (Tg × Bool) := [(.xc 42, false)]
theorem tk_ti_ValueErrorx (x : Fx K h mg) : ∀ p ∈ ti_ValueErrorx, TagOk K mg (.type "ValueError") p := by
  intro p hp
  simp only [ti_ValueErrorx, List.mem_cons, List.not_mem_nil, or_false] at hp
  rcases hp with rfl
  · exact ⟨_, (x.xi_TooMany), (x.ki_TooMany_ValueError)⟩
def ti_LookupErrorx : List (Tg × Bool) := [(.xc 42, false)]
theorem tk_ti_LookupErrorx (x : Fx K h mg) : ∀ p ∈ ti_LookupErrorx, TagOk K mg (.type "LookupError") p := by
  intro p hp
  simp only [ti_LookupErrorx, List.mem_cons, List.not_mem_nil, or_false] at hp
  rcases hp with rfl
  · exact ⟨_, (x.xi_TooMany), (x.ki_TooMany_LookupError)⟩
def ti_ArithmeticErrorx : List (Tg × Bool) := [(.xc 42, true)]
theorem tk_ti_ArithmeticErrorx (x : Fx K h mg) : ∀ p ∈ ti_ArithmeticErrorx, TagOk K mg (.type "ArithmeticError") p := by
  intro p hp
  simp only [ti_ArithmeticErrorx, List.mem_cons, List.not_mem_nil, or_false] at hp
  rcases hp with rfl
  · exact ⟨_, (x.xi_TooMany), (x.ki_TooMany_ArithmeticError)⟩
theorem bd_law_sort : Bds K d_law_sort P_law_sort := fun fd F => F.bindsN fun _ _ _ _ _ _ us hl => match us, hl with | [_], _ => rfl
def m_law_sort : M Fl := sSeq (sSet 1 (mBind (mLst (aCons (m1 (isiD ti_InvalidPeriodx) (vR 0)) (aCons (m1 (isiD ti_InvalidNumberx) (vR 0)) (aCons (m1 (isiD ti_InvalidTextx) (vR 0)) (aNil))))) fun l => mPure (.lst l))) (sSeq (sSet 1 (m2 addD (vR 1) (mBind (mLst (aCons (m1 (isiD ti_InvalidNamex) (vR 0)) (aCons (m1 (isiD ti_InvalidHandsx) (vR 0)) (aNil)))) fun l => mPure (.lst l)))) (sSeq (sSet 1 (m2 addD (vR 1) (mBind (mLst (aCons (m1 (isiD ti_InvalidStockx) (vR 0)) (aCons (m1 (isiD ti_InvalidFlagx) (vR 0)) (aNil)))) fun l => mPure (.lst l)))) (sSeq (sSet 1 (m2 addD (vR 1) (mBind (mLst (aCons (m1 (isiD ti_InvalidOutletx) (vR 0)) (aCons (m1 (isiD ti_InvalidIndexx) (vR 0)) (aNil)))) fun l => mPure (.lst l)))) (sSeq (sSet 1 (m2 addD (vR 1) (mBind (mLst (aCons (m1 (isiD ti_InvalidTimesx) (vR 0)) (aCons (m1 (isiD ti_NotLagsx) (vR 0)) (aCons (m1 (isiD ti_NotALinex) (vR 0)) (aNil))))) fun l => mPure (.lst l)))) (sSeq (sSet 1 (m2 addD (vR 1) (mBind (mLst (aCons (m1 (isiD ti_NotALinkx) (vR 0)) (aCons (m1 (isiD ti_InvalidNumbersx) (vR 0)) (aNil)))) fun l => mPure (.lst l)))) (sSeq (sSet 1 (m2 addD (vR 1) (mBind (mLst (aCons (m1 (isiD ti_InvalidStationsx) (vR 0)) (aCons (m1 (isiD ti_InvalidLinksx) (vR 0)) (aNil)))) fun l => mPure (.lst l)))) (sSeq (sSet 1 (m2 addD (vR 1) (mBind (mLst (aCons (m1 (isiD ti_UnknownNamex) (vR 0)) (aCons (m1 (isiD ti_Takenx) (vR 0)) (aNil)))) fun l => mPure (.lst l)))) (sSeq (sSet 1 (m2 addD (vR 1) (mBind (mLst (aCons (m1 (isiD ti_TooManyx) (vR 0)) (aCons (m1 (isiD ti_Stuckx) (vR 0)) (aCons (m1 (isiD ti_EarlyLinkx) (vR 0)) (aNil))))) fun l => mPure (.lst l)))) (sSeq (sSet 2 (mBind (mLst (aCons (m1 (isiD ti_WrongValuex) (vR 0)) (aCons (m1 (isiD ti_WrongNamex) (vR 0)) (aCons (m1 (isiD ti_NoAnswerx) (vR 0)) (aNil))))) fun l => mPure (.lst l))) (sSeq (sSet 3 (mBind (mLst (aCons (m1 (isiD ti_ValueErrorx) (vR 0)) (aCons (m1 (isiD ti_LookupErrorx) (vR 0)) (aCons (m1 (isiD ti_ArithmeticErrorx) (vR 0)) (aNil))))) fun l => mPure (.lst l))) (sSeq (sIf (mOr (mB (m2 (eqD true) (mBm isLstD countD (vR 1) (aCons (mPure (.bl true)) (aNil))) (mPure (.int 1)))) (mB (m2 (eqD true) (vR 3) (vR 2)))) (sRet (mPure (.str "odd"))) (sNil)) (sSeq (sSet 4 (mBm isLstD indexD (vR 1) (aCons (mPure (.bl true)) (aNil)))) (sSeq (sIf (mB (m2 (eqD true) (vR 2) (mBind (mLst (aCons (m2 ltD (vR 4) (mPure (.int 16))) (aCons (mCh leD ltD (mPure (.int 16)) (vR 4) (mPure (.int 18))) (aCons (m2 geD (vR 4) (mPure (.int 18))) (aNil))))) fun l => mPure (.lst l)))) (sRet (mPure (.str "odd"))) (sNil)) (sSeq (sSet 5 (mBind (mLst (aCons (mPure (.str "period")) (aCons (mPure (.str "count")) (aCons (mPure (.str "script")) (aCons (mPure (.str "word")) (aCons (mPure (.str "staff")) (aCons (mPure (.str "store")) (aCons (mPure (.str "flag")) (aCons (mPure (.str "door")) (aCons (mPure (.str "place")) (aCons (mPure (.str "clock")) (aNil)))))))))))) fun l => mPure (.lst l))) (sSeq (sSet 5 (m2 addD (vR 5) (mBind (mLst (aCons (mPure (.str "lagless")) (aCons (mPure (.str "lineless")) (aCons (mPure (.str "linkless")) (aCons (mPure (.str "members")) (aCons (mPure (.str "rooms")) (aCons (mPure (.str "ways")) (aCons (mPure (.str "stranger")) (aCons (mPure (.str "double")) (aNil)))))))))) fun l => mPure (.lst l)))) (sRet (m2 ixD (m2 addD (vR 5) (mBind (mLst (aCons (mPure (.str "much")) (aCons (mPure (.str "stuck")) (aCons (mPure (.str "ahead")) (aNil))))) fun l => mPure (.lst l))) (vR 4))))))))))))))))))
def F_law_sort : List D → Option D := runD 6 m_law_sort
theorem b_law_sort (x : Fx K h mg) : BodyNX P w K mg base d_law_sort N_law_sort 0 m_law_sort := fun cdv A outer s H E hr hgd G => dss_cons (ds_set 1 sc_law_sort.nd rfl (.inl rfl) (DF.de (df_lst (da_cons (de_isi rfl (x.f_isinstance) (de_v 0 (pv 0)) (pe_glob (v := .ref _) rfl (x.g_InvalidPeriod) rfl) (.own _) (tk_ti_InvalidPeriodx x)) (da_cons (de_isi rfl (x.f_isinstance) (de_v 0 (pv 0)) (pe_glob (v := .ref _) rfl (x.g_InvalidNumber) rfl) (.own _) (tk_ti_InvalidNumberx x)) (da_cons (de_isi rfl (x.f_isinstance) (de_v 0 (pv 0)) (pe_glob (v := .ref _) rfl (x.g_InvalidText) rfl) (.own _) (tk_ti_InvalidTextx x)) (da_nil))))))) (dss_cons (ds_set 1 sc_law_sort.nd rfl (.inl rfl) (de_opD op_addD (de_v 1 (pv 1)) (DF.de (df_lst (da_cons (de_isi rfl (x.f_isinstance) (de_v 0 (pv 0)) (pe_glob (v := .ref _) rfl (x.g_InvalidName) rfl) (.own _) (tk_ti_InvalidNamex x)) (da_cons (de_isi rfl (x.f_isinstance) (de_v 0 (pv 0)) (pe_glob (v := .ref _) rfl (x.g_InvalidHands) rfl) (.own _) (tk_ti_InvalidHandsx x)) (da_nil))))))) (dss_cons (ds_set 1 sc_law_sort.nd rfl (.inl rfl) (de_opD op_addD (de_v 1 (pv 1)) (DF.de (df_lst (da_cons (de_isi rfl (x.f_isinstance) (de_v 0 (pv 0)) (pe_glob (v := .ref _) rfl (x.g_InvalidStock) rfl) (.own _) (tk_ti_InvalidStockx x)) (da_cons (de_isi rfl (x.f_isinstance) (de_v 0 (pv 0)) (pe_glob (v := .ref _) rfl (x.g_InvalidFlag) rfl) (.own _) (tk_ti_InvalidFlagx x)) (da_nil))))))) (dss_cons (ds_set 1 sc_law_sort.nd rfl (.inl rfl) (de_opD op_addD (de_v 1 (pv 1)) (DF.de (df_lst (da_cons (de_isi rfl (x.f_isinstance) (de_v 0 (pv 0)) (pe_glob (v := .ref _) rfl (x.g_InvalidOutlet) rfl) (.own _) (tk_ti_InvalidOutletx x)) (da_cons (de_isi rfl (x.f_isinstance) (de_v 0 (pv 0)) (pe_glob (v := .ref _) rfl (x.g_InvalidIndex) rfl) (.own _) (tk_ti_InvalidIndexx x)) (da_nil))))))) (dss_cons (ds_set 1 sc_law_sort.nd rfl (.inl rfl) (de_opD op_addD (de_v 1 (pv 1)) (DF.de (df_lst (da_cons (de_isi rfl (x.f_isinstance) (de_v 0 (pv 0)) (pe_glob (v := .ref _) rfl (x.g_InvalidTimes) rfl) (.own _) (tk_ti_InvalidTimesx x)) (da_cons (de_isi rfl (x.f_isinstance) (de_v 0 (pv 0)) (pe_glob (v := .ref _) rfl (x.g_NotLags) rfl) (.own _) (tk_ti_NotLagsx x)) (da_cons (de_isi rfl (x.f_isinstance) (de_v 0 (pv 0)) (pe_glob (v := .ref _) rfl (x.g_NotALine) rfl) (.own _) (tk_ti_NotALinex x)) (da_nil)))))))) (dss_cons (ds_set 1 sc_law_sort.nd rfl (.inl rfl) (de_opD op_addD (de_v 1 (pv 1)) (DF.de (df_lst (da_cons (de_isi rfl (x.f_isinstance) (de_v 0 (pv 0)) (pe_glob (v := .ref _) rfl (x.g_NotALink) rfl) (.own _) (tk_ti_NotALinkx x)) (da_cons (de_isi rfl (x.f_isinstance) (de_v 0 (pv 0)) (pe_glob (v := .ref _) rfl (x.g_InvalidNumbers) rfl) (.own _) (tk_ti_InvalidNumbersx x)) (da_nil))))))) (dss_cons (ds_set 1 sc_law_sort.nd rfl (.inl rfl) (de_opD op_addD (de_v 1 (pv 1)) (DF.de (df_lst (da_cons (de_isi rfl (x.f_isinstance) (de_v 0 (pv 0)) (pe_glob (v := .ref _) rfl (x.g_InvalidStations) rfl) (.own _) (tk_ti_InvalidStationsx x)) (da_cons (de_isi rfl (x.f_isinstance) (de_v 0 (pv 0)) (pe_glob (v := .ref _) rfl (x.g_InvalidLinks) rfl) (.own _) (tk_ti_InvalidLinksx x)) (da_nil))))))) (dss_cons (ds_set 1 sc_law_sort.nd rfl (.inl rfl) (de_opD op_addD (de_v 1 (pv 1)) (DF.de (df_lst (da_cons (de_isi rfl (x.f_isinstance) (de_v 0 (pv 0)) (pe_glob (v := .ref _) rfl (x.g_UnknownName) rfl) (.own _) (tk_ti_UnknownNamex x)) (da_cons (de_isi rfl (x.f_isinstance) (de_v 0 (pv 0)) (pe_glob (v := .ref _) rfl (x.g_Taken) rfl) (.own _) (tk_ti_Takenx x)) (da_nil))))))) (dss_cons (ds_set 1 sc_law_sort.nd rfl (.inl rfl) (de_opD op_addD (de_v 1 (pv 1)) (DF.de (df_lst (da_cons (de_isi rfl (x.f_isinstance) (de_v 0 (pv 0)) (pe_glob (v := .ref _) rfl (x.g_TooMany) rfl) (.own _) (tk_ti_TooManyx x)) (da_cons (de_isi rfl (x.f_isinstance) (de_v 0 (pv 0)) (pe_glob (v := .ref _) rfl (x.g_Stuck) rfl) (.own _) (tk_ti_Stuckx x)) (da_cons (de_isi rfl (x.f_isinstance) (de_v 0 (pv 0)) (pe_glob (v := .ref _) rfl (x.g_EarlyLink) rfl) (.own _) (tk_ti_EarlyLinkx x)) (da_nil)))))))) (dss_cons (ds_set 2 sc_law_sort.nd rfl (.inl rfl) (DF.de (df_lst (da_cons (de_isi rfl (x.f_isinstance) (de_v 0 (pv 0)) (pe_glob (v := .ref _) rfl (x.g_WrongValue) rfl) (.own _) (tk_ti_WrongValuex x)) (da_cons (de_isi rfl (x.f_isinstance) (de_v 0 (pv 0)) (pe_glob (v := .ref _) rfl (x.g_WrongName) rfl) (.own _) (tk_ti_WrongNamex x)) (da_cons (de_isi rfl (x.f_isinstance) (de_v 0 (pv 0)) (pe_glob (v := .ref _) rfl (x.g_NoAnswer) rfl) (.own _) (tk_ti_NoAnswerx x)) (da_nil))))))) (dss_cons (ds_set 3 sc_law_sort.nd rfl (.inl rfl) (DF.de (df_lst (da_cons (de_isi rfl (x.f_isinstance) (de_v 0 (pv 0)) (pe_bltn (v := .ty "ValueError") rfl (x.f_ValueError) rfl rfl) (.ty "ValueError") (tk_ti_ValueErrorx x)) (da_cons (de_isi rfl (x.f_isinstance) (de_v 0 (pv 0)) (pe_bltn (v := .ty "LookupError") rfl (x.f_LookupError) rfl rfl) (.ty "LookupError") (tk_ti_LookupErrorx x)) (da_cons (de_isi rfl (x.f_isinstance) (de_v 0 (pv 0)) (pe_bltn (v := .ty "ArithmeticError") rfl (x.f_ArithmeticError) rfl rfl) (.ty "ArithmeticError") (tk_ti_ArithmeticErrorx x)) (da_nil))))))) (dss_cons (ds_if (DW.dt (dw_or (dt_cmpD (op_neDD hr) (de_bm mtd_count PySem.F.plainAttrs_list PySem.F.slot_list_count PySem.F.type_list_count (de_v 1 (pv 1)) (da_cons (de_bl) (da_nil))) (de_int) (nomark _)) (dw_or1 (dt_cmpD (op_neDD hr) (de_v 3 (pv 3)) (de_v 2 (pv 2)) (nomark _))))) (dss_one (ds_ret (de_str))) (dss_nil)) (dss_cons (ds_set 4 sc_law_sort.nd rfl (.inl rfl) (de_bm mtd_index PySem.F.plainAttrs_list PySem.F.slot_list_index PySem.F.type_list_index (de_v 1 (pv 1)) (da_cons (de_bl) (da_nil)))) (dss_cons (ds_if (dt_cmpD (op_neDD hr) (de_v 2 (pv 2)) (DF.de (df_lst (da_cons (de_cmpD op_ltD (de_v 4 (pv 4)) (de_int) (nomark _)) (da_cons (de_chainD op_leD op_ltD (de_int) (de_v 4 (pv 4)) (de_int)) (da_cons (de_cmpD op_geD (de_v 4 (pv 4)) (de_int) (nomark _)) (da_nil)))))) (nomark _)) (dss_one (ds_ret (de_str))) (dss_nil)) (dss_cons (ds_set 5 sc_law_sort.nd rfl (.inl rfl) (DF.de (df_lst (da_cons (de_str) (da_cons (de_str) (da_cons (de_str) (da_cons (de_str) (da_cons (de_str) (da_cons (de_str) (da_cons (de_str) (da_cons (de_str) (da_cons (de_str) (da_cons (de_str) (da_nil)))))))))))))) (dss_cons (ds_set 5 sc_law_sort.nd rfl (.inl rfl) (de_opD op_addD (de_v 5 (pv 5)) (DF.de (df_lst (da_cons (de_str) (da_cons (de_str) (da_cons (de_str) (da_cons (de_str) (da_cons (de_str) (da_cons (de_str) (da_cons (de_str) (da_cons (de_str) (da_nil))))))))))))) (dss_one (ds_ret (de_ix (de_opD op_addD (de_v 5 (pv 5)) (DF.de (df_lst (da_cons (de_str) (da_cons (de_str) (da_cons (de_str) (da_nil))))))) (de_v 4 (pv 4))))))))))))))))))))
theorem okn_law_sort (x : Fx K h mg) : DnN P w K mg base d_law_sort 1 P_law_sort (spD K mg 1 F_law_sort) := dnN (x.cx.def_ 13 (d := d_law_sort)) sc_law_sort (b_law_sort x)
theorem bd_law_kept : Bds K d_law_kept P_law_kept := fun fd F => F.bindsN fun _ _ _ _ _ _ us hl => match us, hl with | [_, _], _ => rfl
def m_law_kept : M Fl := sSeq (sIf (mB (m2 (inD false) (vR 1) (mBind (mLst (aCons (mPure (.str "members")) (aCons (mPure (.str "rooms")) (aCons (mPure (.str "ways")) (aCons (mPure (.str "ahead")) (aNil)))))) fun l => mPure (.lst l)))) (sRet (m1 (xfldD [] "index") (vR 0))) (sNil)) (sSeq (sIf (mB (m2 (eqD false) (vR 1) (mPure (.str "much")))) (sRet (m1 (xfldD [42] "limit") (vR 0))) (sNil)) (sRet (mIf (mB (m2 (eqD false) (vR 1) (mPure (.str "stuck")))) (m1 (xfldD [] "ring") (vR 0)) (m1 (xfldD [] "given") (vR 0)))))
def F_law_kept : List D → Option D := runD 2 m_law_kept
theorem b_law_kept (x : Fx K h mg) : BodyNX P w K mg base d_law_kept N_law_kept 0 m_law_kept := fun cdv A outer s H E hr hgd G => dss_cons (ds_if (dt_cmpD op_inDD (de_v 1 (pv 1)) (DF.de (df_lst (da_cons (de_str) (da_cons (de_str) (da_cons (de_str) (da_cons (de_str) (da_nil))))))) rfl) (dss_one (ds_ret (de_xfld (cs := []) (de_v 0 (pv 0)) (by intro c hc; cases hc) (by intro c hc; cases hc)))) (dss_nil)) (dss_cons (ds_if (dt_cmpD (op_eqDD hr) (de_v 1 (pv 1)) (de_str) (nomark _)) (dss_one (ds_ret (de_xfld (cs := [42]) (de_v 0 (pv 0)) (by intro c hc; simp only [List.mem_cons, List.not_mem_nil, or_false] at hc; rcases hc with rfl <;> first | exact ⟨_, (x.xi_TooMany)⟩) (by intro c hc; simp only [List.mem_cons, List.not_mem_nil, or_false] at hc; rcases hc with rfl <;> decide)))) (dss_nil)) (dss_one (ds_ret (de_if (dt_cmpD (op_eqDD hr) (de_v 1 (pv 1)) (de_str) (nomark _)) (de_xfld (cs := []) (de_v 0 (pv 0)) (by intro c hc; cases hc) (by intro c hc; cases hc)) (de_xfld (cs := []) (de_v 0 (pv 0)) (by intro c hc; cases hc) (by intro c hc; cases hc))))))
theorem okn_law_kept (x : Fx K h mg) : DnN P w K mg base d_law_kept 1 P_law_kept (spD K mg 2 F_law_kept) := dnN (x.cx.def_ 14 (d := d_law_kept)) sc_law_kept (b_law_kept x)
theorem bd_law_caught : Bds K d_law_caught P_law_caught := fun fd F => F.bindsN fun _ _ _ _ _ _ us hl => match us, hl with | [_], _ => rfl
def ms_law_caught : M Fl := sSeq (sSet 3 (mFn 1 0 (fun ds _ => ds) F_law_sort (aCons (vR 2) (aNil)) aNil)) (sRet (mTup (aCons (mPure (.str "raised")) (aCons (vR 3) (aCons (mIf (mB (m2 (eqD false) (vR 3) (mPure (.str "odd")))) (mPure (.str "")) (mCall reprD (aCons (mFn 2 0 (fun ds _ => ds) F_law_kept (aCons (vR 2) (aCons (vR 3) (aNil))) aNil) (aNil)))) (aNil))))))
def mr_law_caught : M Fl := sRet (mTup (aCons (mPure (.str "told")) (aCons (vR 1) (aCons (mPure (.str "")) (aNil)))))
theorem su_law_caught {X : Cx} {h : Heap} (cdv : Value) (s : Shared) (H : Hp) (ad : Addr) (pn : List (Addr × Obj)) (G : Gx) (x : Fx (Cx.heard (actCx X N_law_caught "_law_caught" d_law_caught.scope (d_law_caught.at_ X.K) cdv s H) ad pn).K h (Cx.heard (actCx X N_law_caught "_law_caught" d_law_caught.scope (d_law_caught.at_ X.K) cdv s H) ad pn).mg) (hr : RoomN 1 (Cx.heard (actCx X N_law_caught "_law_caught" d_law_caught.scope (d_law_caught.at_ X.K) cdv s H) ad pn).A) (hgd : (Cx.heard (actCx X N_law_caught "_law_caught" d_law_caught.scope (d_law_caught.at_ X.K) cdv s H) ad pn).A.guards = some []) : DSs (Cx.heard (actCx X N_law_caught "_law_caught" d_law_caught.scope (d_law_caught.at_ X.K) cdv s H) ad pn) G (trySuite d_law_caught.body) ms_law_caught := dss_cons (ds_set 3 sc_law_caught.nd rfl (.inl rfl) (dcallN (d := d_law_sort) (okn_law_sort x) bd_law_sort hr hgd (x.g_law_sort) rfl (da_cons (de_v 2 (pv 2)) (da_nil)))) (dss_one (ds_ret (de_tup (da_cons (de_str) (da_cons (de_v 3 (pv 3)) (da_cons (de_if (dt_cmpD (op_eqDD hr) (de_v 3 (pv 3)) (de_str) (nomark _)) (de_str) (de_cB (c_repr hr hgd) rfl (x.f_repr) rfl (da_cons (dcallN (d := d_law_kept) (okn_law_kept x) bd_law_kept hr hgd (x.g_law_kept) rfl (da_cons (de_v 2 (pv 2)) (da_cons (de_v 3 (pv 3)) (da_nil)))) (da_nil)))) (da_nil)))))))
theorem re_law_caught {X : Cx} {h : Heap} (cdv : Value) (s : Shared) (H : Hp) (G : Gx) (x : Fx (actCx X N_law_caught "_law_caught" d_law_caught.scope (d_law_caught.at_ X.K) cdv s H).K h (actCx X N_law_caught "_law_caught" d_law_caught.scope (d_law_caught.at_ X.K) cdv s H).mg) : DSs (actCx X N_law_caught "_law_caught" d_law_caught.scope (d_law_caught.at_ X.K) cdv s H) G (tryRet d_law_caught.body) mr_law_caught := dss_one (ds_ret (de_tup (da_cons (de_str) (da_cons (de_v 1 (pv 1)) (da_cons (de_str) (da_nil))))))
def hits : List Nat := [42]
theorem hits_ok (x : Fx K h mg) : ∀ c ∈ hits, ∃ C, mg (clsName c) = some (.ref C) ∧ PySem.W.exmAny K (.ref C) [.ref (He.ga K "WrongValue"), .ref (He.ga K "WrongName"), .ref (He.ga K "NoAnswer")] = some true := by
  intro c hc
  simp only [hits, List.mem_cons, List.not_mem_nil, or_false] at hc
  rcases hc with rfl <;> first | exact ⟨_, (x.xi_TooMany).g, (x.xm_TooMany)⟩
@[reducible] def caught : Out D → Option D := heard 4 1 2 hits ms_law_caught mr_law_caught
theorem bd_InvalidNumberx_initx : Bds K d_InvalidNumberx_initx P_InvalidNumberx_initx := fun fd F => F.bindsN fun _ _ _ _ _ _ us hl => match us, hl with | [_, _], _ => rfl
theorem okE_InvalidNumberx_initx (x : Fx K h mg) : DnE P w K mg base d_InvalidNumberx_initx ["given"] := dnE1 (x.cx.def_ 15 (d := d_InvalidNumberx_initx)) sc_InvalidNumberx_initx rfl
theorem bd_flag_at : Bds K d_flag_at P_flag_at := fun fd F => F.bindsN fun _ _ _ _ _ _ us hl => match us, hl with | [_, _], _ => rfl
def m_flag_at : M Fl := sSeq (sAsg (vR 0) (gT 3 (gsCons (gN 2) (gsCons (gN 3) (gsCons (gN 4) (gsNil)))))) (sRet (mIf (mB (m2 ltD (vR 1) (m2 addD (vR 2) (vR 3)))) (m2 ixD (vR 4) (vR 1)) (m2 ixD (vR 4) (m2 addD (vR 2) (m2 modD (m2 subD (vR 1) (vR 2)) (vR 3))))))
def F_flag_at : List D → Option D := runD 5 m_flag_at
theorem b_flag_at (x : Fx K h mg) : BodyX P w K mg base d_flag_at N_flag_at 0 m_flag_at := fun cdv A outer s H E hr hgd G => dss_cons (ds_asg (de_v 0 (pv 0)) (dg_tup rfl (dgs_cons (dg_name 2 sc_flag_at.nd rfl (.inl rfl)) (dgs_cons (dg_name 3 sc_flag_at.nd rfl (.inl rfl)) (dgs_cons (dg_name 4 sc_flag_at.nd rfl (.inl rfl)) (dgs_nil)))))) (dss_one (ds_ret (de_if (dt_cmpD op_ltD (de_v 1 (pv 1)) (de_opD op_addD (de_v 2 (pv 2)) (de_v 3 (pv 3))) (nomark _)) (de_ix (de_v 4 (pv 4)) (de_v 1 (pv 1))) (de_ix (de_v 4 (pv 4)) (de_opD op_addD (de_v 2 (pv 2)) (de_opD op_modD (de_opD op_subD (de_v 1 (pv 1)) (de_v 2 (pv 2))) (de_v 3 (pv 3))))))))
theorem ok_flag_at (x : Fx K h mg) : Dn P w K mg base d_flag_at 1 P_flag_at (spD K mg 2 F_flag_at) := dnD (x.cx.def_ 16 (d := d_flag_at)) sc_flag_at (b_flag_at x)
theorem bd_TooManyx_initx : Bds K d_TooManyx_initx P_TooManyx_initx := fun fd F => F.bindsN fun _ _ _ _ _ _ us hl => match us, hl with | [_, _], _ => rfl
theorem okE_TooManyx_initx (x : Fx K h mg) : DnE P w K mg base d_TooManyx_initx ["limit"] := dnE1 (x.cx.def_ 17 (d := d_TooManyx_initx)) sc_TooManyx_initx rfl
theorem bd_FormedLagsx_initx : Bds K d_FormedLagsx_initx P_FormedLagsx_initx := fun fd F => F.bindsN fun _ _ _ _ _ _ us hl => match us, hl with | [_, _], _ => rfl
def m_FormedLagsx_initx : M Fl := sSetFs 0 "form" [1] (vR 1)
def F_FormedLagsx_initx : List D → Option (List D) := runI 2 1 m_FormedLagsx_initx
theorem b_FormedLagsx_initx (x : Fx K h mg) : BodyX P w K mg base d_FormedLagsx_initx N_FormedLagsx_initx 0 m_FormedLagsx_initx := fun cdv A outer s H E hr hgd G => dss_one (ds_setFs (cs := [1]) 0 (pv 0) (de_v 1 (pv 1)) (by intro c hc; simp only [List.mem_cons, List.not_mem_nil, or_false] at hc; rcases hc with rfl <;> first | exact ⟨_, (x.c_FormedLags), (x.na_FormedLags_form)⟩))
theorem ok_FormedLagsx_initx (x : Fx K h mg) : Dn P w K mg base d_FormedLagsx_initx 1 P_FormedLagsx_initx (spI K mg 2 1 F_FormedLagsx_initx) := dnI (x.cx.def_ 18 (d := d_FormedLagsx_initx)) sc_FormedLagsx_initx (b_FormedLagsx_initx x)
theorem kb_FormedLagsx_initx_1 : KIs K mg d_FormedLagsx_initx P_FormedLagsx_initx 1 [] (fun ds es => pick [.p 0] ds [] [] es) := fun fd F => by
  have h := kb00 (ps := P_FormedLagsx_initx) (n := 2) (ks := []) F (.p 0 :: ([.p 0] : List Src).map Src.up) (fun _ _ _ _ _ _ us ws h1 h4 => match us, ws, h1, h4 with | [_, _], [], _, _ => rfl)
  exact KI.of (src := [.p 0]) (dd := []) (md := []) h (by decide) (by decide) (by decide)
theorem bd_lags_with : Bds K d_lags_with P_lags_with := fun fd F => F.bindsN fun _ _ _ _ _ _ us hl => match us, hl with | [_], _ => rfl
def m_lags_with : M Fl := sRet (mMk 1 1 0 (fun ds es => pick [.p 0] ds [] [] es) F_FormedLagsx_initx (aCons (vR 0) (aNil)) (aNil))
def F_lags_with : List D → Option D := runD 1 m_lags_with
theorem b_lags_with (x : Fx K h mg) : BodyX P w K mg base d_lags_with N_lags_with 2 m_lags_with := fun cdv A outer s H E hr hgd G => dss_one (ds_ret (dmk (d := d_FormedLagsx_initx) (c := 1) (x.mk_FormedLags) (ok_FormedLagsx_initx x) kb_FormedLagsx_initx_1 hr hgd (x.c_FormedLags).g rfl rfl (da_cons (de_v 0 (pv 0)) (da_nil)) (dk_nil)))
theorem ok_lags_with (x : Fx K h mg) : Dn P w K mg base d_lags_with 3 P_lags_with (spD K mg 1 F_lags_with) := dnD (x.cx.def_ 19 (d := d_lags_with)) sc_lags_with (b_lags_with x)
theorem bd_bounded : Bds K d_bounded P_bounded := fun fd F => F.bindsN fun _ _ _ _ _ _ us hl => match us, hl with | [_], _ => rfl
def mx_bounded : M Fl := sSeq (sIf (mB (m2 gtD (m2 addD (m2 ixD (vR 0) (mPure (.int 0))) (m2 ixD (vR 0) (mPure (.int 1)))) (mPure (.int 2000)))) (sRaise 42 (mUp (aCons (mPure (.int 2000)) (aNil)))) (sNil)) (sRet (mFn 1 0 (fun ds _ => ds) F_lags_with (aCons (vR 0) (aNil)) (aNil)))
def FX_bounded : List D → Option (Out D) := runX 1 mx_bounded
theorem bx_bounded (x : Fx K h mg) : BodyRX P w K mg base d_bounded N_bounded 3 mx_bounded := fun cdv A outer s H E hr hgd G tk hp => dss_cons (ds_if (dt_cmpD op_gtD (de_opD op_addD (de_ix (de_v 0 (pv 0)) (de_int)) (de_ix (de_v 0 (pv 0)) (de_int))) (de_gi rfl (x.k_MOST_LAGS)) (nomark _)) (dss_one (xraise (d := d_TooManyx_initx) (c := 42) tk rfl (x.xf_TooMany) (okE_TooManyx_initx x) bd_TooManyx_initx hr rfl rfl (ax_up (da_cons (de_gi rfl (x.k_MOST_LAGS)) (da_nil))))) (dss_nil)) (dss_one (ds_ret (dcall (d := d_lags_with) (ok_lags_with x) (KBs.all bd_lags_with) hr hgd (x.g_lags_with) rfl (da_cons (de_v 0 (pv 0)) (da_nil)) (dk_nil))))
theorem okx_bounded (x : Fx K h mg) : DnX P w K mg base d_bounded 4 P_bounded (spX K mg 1 FX_bounded) := dnX (x.cx.def_ 20 (d := d_bounded)) sc_bounded (bx_bounded x)
theorem bd_Lags_shifted : Bds K d_Lags_shifted P_Lags_shifted := fun fd F => F.bindsN fun _ _ _ _ _ _ us hl => match us, hl with | [_, _], _ => rfl
def mx_Lags_shifted : M Fl := sSeq (sIf (mOr (mNot (mTru (mFn 1 0 (fun ds _ => ds) F_is_integer (aCons (vR 1) (aNil)) (aNil)))) (mNot (mB (mCh leD leD (m1 negD (mPure (.int 1000))) (vR 1) (mPure (.int 1000)))))) (sRaise 21 (mUp (aCons (vR 1) (aNil)))) (sNil)) (sSeq (sPar 2 3 (aCons (mCall maxD (aCons (mPure (.int 0)) (aCons (m2 addD (m2 ixD (m1 (fldD [0, 1]) (vR 0)) (mPure (.int 0))) (vR 1)) (aNil)))) (aCons (m2 ixD (m1 (fldD [0, 1]) (vR 0)) (mPure (.int 1))) (aNil)))) (sSeq (sSetL 4 (mLc (mBind (aCons (m2 addD (vR 2) (vR 3)) (aNil)) fun l => mLift (rng1 l)) (gN 5) (mPure true) (mAndV (m2 geD (vR 5) (vR 1)) (mFn 2 0 (fun ds _ => ds) F_flag_at (aCons (m1 (fldD [0, 1]) (vR 0)) (aCons (m2 subD (vR 5) (vR 1)) (aNil))) (aNil))) [5])) (sRetX (xFn 1 0 (fun ds _ => ds) FX_bounded (mUp (aCons (mFn 3 0 (fun ds _ => ds) F_least_form (aCons (vR 4) (aCons (vR 2) (aCons (vR 3) (aNil)))) (aNil)) (aNil))) (mUp (aNil))))))
def FX_Lags_shifted : List D → Option (Out D) := runX 6 mx_Lags_shifted
theorem bx_Lags_shifted (x : Fx K h mg) : BodyRX P w K mg base d_Lags_shifted N_Lags_shifted 4 mx_Lags_shifted := fun cdv A outer s H E hr hgd G tk hp => dss_cons (ds_if (DW.dt (dw_or (dt_not (dt_of (dcall (d := d_is_integer) (ok_is_integer x) (KBs.all bd_is_integer) hr hgd (x.g_is_integer) rfl (da_cons (de_v 1 (pv 1)) (da_nil)) (dk_nil)))) (dw_or1 (dt_not (dt_chainD op_leD op_leD (de_neg (de_gi rfl (x.k_MOST_SHIFT))) (de_v 1 (pv 1)) (de_gi rfl (x.k_MOST_SHIFT))))))) (dss_one (xraise (d := d_InvalidNumberx_initx) (c := 21) tk rfl (x.xf_InvalidNumber) (okE_InvalidNumberx_initx x) bd_InvalidNumberx_initx hr rfl rfl (ax_up (da_cons (de_v 1 (pv 1)) (da_nil))))) (dss_nil)) (dss_cons (ds_par 2 3 rfl sc_Lags_shifted.nd rfl rfl (by decide) rfl rfl (da_cons (de_cB (c_max rfl) rfl (x.f_max) rfl (da_cons (de_int) (da_cons (de_opD op_addD (de_ix (de_fld (cs := [0, 1]) (de_v 0 (pv 0)) (by intro c hc; simp only [List.mem_cons, List.not_mem_nil, or_false] at hc; rcases hc with rfl | rfl <;> first | exact ⟨_, (x.c_Lags), (x.na_Lags_form), rfl⟩ | exact ⟨_, (x.c_FormedLags), (x.na_FormedLags_form), rfl⟩)) (de_int)) (de_v 1 (pv 1))) (da_nil)))) (da_cons (de_ix (de_fld (cs := [0, 1]) (de_v 0 (pv 0)) (by intro c hc; simp only [List.mem_cons, List.not_mem_nil, or_false] at hc; rcases hc with rfl | rfl <;> first | exact ⟨_, (x.c_Lags), (x.na_Lags_form), rfl⟩ | exact ⟨_, (x.c_FormedLags), (x.na_FormedLags_form), rfl⟩)) (de_int)) (da_nil))) (by rfl)) (dss_cons (ds_setLc 4 (own := [("k", 5)]) rfl sc_Lags_shifted.nd rfl rfl (sw_true rfl rfl rfl (by decide +kernel)) (di_range1 rfl (x.f_range) (da_cons (de_opD op_addD (de_v 2 (pv 2)) (de_v 3 (pv 3))) (da_nil))) (blkOk_by (own := [("k", 5)]) (N := N_Lags_shifted) (sc := d_Lags_shifted.scope) (by decide +kernel)) (by decide) (fun _ _ _ _ _ _ => dg_name 5 sc_Lags_shifted.nd rfl (.inl rfl)) (fun _ _ _ _ _ _ => dts_nil) (fun _ _ _ _ _ _ => de_and (de_cmpD op_geD (de_v 5 (pv 5)) (de_v 1 (pv 1)) (nomark _)) (de_one (dcall (d := d_flag_at) (ok_flag_at x) (KBs.all bd_flag_at) hr hgd (x.g_flag_at) rfl (da_cons (de_fld (cs := [0, 1]) (de_v 0 (pv 0)) (by intro c hc; simp only [List.mem_cons, List.not_mem_nil, or_false] at hc; rcases hc with rfl | rfl <;> first | exact ⟨_, (x.c_Lags), (x.na_Lags_form), rfl⟩ | exact ⟨_, (x.c_FormedLags), (x.na_FormedLags_form), rfl⟩)) (da_cons (de_opD op_subD (de_v 5 (pv 5)) (de_v 1 (pv 1))) (da_nil))) (dk_nil))))) (dss_one (ds_retX (xcall (d := d_bounded) tk (okx_bounded x) (KBs.all bd_bounded) hr hgd (x.g_bounded) rfl (ax_up (da_cons (dcall (d := d_least_form) (ok_least_form x) (KBs.all bd_least_form) hr hgd (x.g_least_form) rfl (da_cons (de_v 4 (pv 4)) (da_cons (de_v 2 (pv 2)) (da_cons (de_v 3 (pv 3)) (da_nil)))) (dk_nil)) (da_nil))) (kx_up (dk_nil)))))))
theorem okx_Lags_shifted (x : Fx K h mg) : DnX P w K mg base d_Lags_shifted 5 P_Lags_shifted (spX K mg 2 FX_Lags_shifted) := dnX (x.cx.def_ 21 (d := d_Lags_shifted)) sc_Lags_shifted (bx_Lags_shifted x)
def ti_Lags : List (Tg × Bool) := [(.ty "int", false), (.ty "bool", false), (.ty "str", false), (.ty "tuple", false), (.ty "list", false), (.ty "NoneType", false), (.ty "dict", false), (.cl 0, true), (.cl 1, true)]
theorem tk_ti_Lags (x : Fx K h mg) : ∀ p ∈ ti_Lags, TagOk K mg (.ref (He.ga K (clsName 0))) p := by
  intro p hp
  simp only [ti_Lags, List.mem_cons, List.not_mem_nil, or_false] at hp
  rcases hp with rfl | rfl | rfl | rfl | rfl | rfl | rfl | rfl | rfl
  · exact (x.ki_int_Lags)
  · exact (x.ki_bool_Lags)
  · exact (x.ki_str_Lags)
  · exact (x.ki_tuple_Lags)
  · exact (x.ki_list_Lags)
  · exact (x.ki_NoneType_Lags)
  · exact (x.ki_dict_Lags)
  · exact ⟨_, (x.c_Lags), (x.ki_Lags_Lags)⟩
  · exact ⟨_, (x.c_FormedLags), (x.ki_FormedLags_Lags)⟩
theorem bd_Lagsx_eqx : Bds K d_Lagsx_eqx P_Lagsx_eqx := fun fd F => F.bindsN fun _ _ _ _ _ _ us hl => match us, hl with | [_, _], _ => rfl
def m_Lagsx_eqx : M Fl := sRet (mAndV (m1 (isiD ti_Lags) (vR 1)) (m2 (eqD false) (m1 (fldD [0, 1]) (vR 0)) (m1 (fldD [0, 1]) (vR 1))))
def F_Lagsx_eqx : List D → Option D := runD 2 m_Lagsx_eqx
theorem b_Lagsx_eqx (x : Fx K h mg) : BodyX P w K mg base d_Lagsx_eqx N_Lagsx_eqx 0 m_Lagsx_eqx := fun cdv A outer s H E hr hgd G => dss_one (ds_ret (de_and (de_isi rfl (x.f_isinstance) (de_v 1 (pv 1)) (pe_glob (v := .ref _) rfl (x.c_Lags).g rfl) (.own _) (tk_ti_Lags x)) (de_one (de_cmpD (op_eqDD (roomN hr)) (de_fld (cs := [0, 1]) (de_v 0 (pv 0)) (by intro c hc; simp only [List.mem_cons, List.not_mem_nil, or_false] at hc; rcases hc with rfl | rfl <;> first | exact ⟨_, (x.c_Lags), (x.na_Lags_form), rfl⟩ | exact ⟨_, (x.c_FormedLags), (x.na_FormedLags_form), rfl⟩)) (de_fld (cs := [0, 1]) (de_v 1 (pv 1)) (by intro c hc; simp only [List.mem_cons, List.not_mem_nil, or_false] at hc; rcases hc with rfl | rfl <;> first | exact ⟨_, (x.c_Lags), (x.na_Lags_form), rfl⟩ | exact ⟨_, (x.c_FormedLags), (x.na_FormedLags_form), rfl⟩)) (nomark _)))))
theorem ok_Lagsx_eqx (x : Fx K h mg) : Dn P w K mg base d_Lagsx_eqx 1 P_Lagsx_eqx (spD K mg 2 F_Lagsx_eqx) := dnD (x.cx.def_ 22 (d := d_Lagsx_eqx)) sc_Lagsx_eqx (b_Lagsx_eqx x)
def t_Lagsx_eqx : List ((Nat × Tg) × Bool) := [((0, .ty "int"), false), ((0, .ty "bool"), false), ((0, .ty "str"), false), ((0, .ty "tuple"), false), ((0, .ty "list"), false), ((0, .ty "NoneType"), false), ((0, .cl 0), false), ((0, .cl 1), true), ((1, .ty "int"), false), ((1, .ty "bool"), false), ((1, .ty "str"), false), ((1, .ty "tuple"), false), ((1, .ty "list"), false), ((1, .ty "NoneType"), false), ((1, .cl 0), false), ((1, .cl 1), false)]
theorem te_Lagsx_eqx (x : Fx K h mg) : ∀ p ∈ t_Lagsx_eqx, EqOk K mg (d_Lagsx_eqx.at_ K) p := by
  intro p hp
  simp only [t_Lagsx_eqx, List.mem_cons, List.not_mem_nil, or_false] at hp
  rcases hp with rfl | rfl | rfl | rfl | rfl | rfl | rfl | rfl | rfl | rfl | rfl | rfl | rfl | rfl | rfl | rfl
  · exact ⟨fun _ => ⟨_, _, (x.c_Lags), rfl, (x.nf_Lags_int), (x.fe_Lags_Lagsx_eqx), (x.fn_Lags)⟩, fun e => nomatch e⟩
  · exact ⟨fun _ => ⟨_, _, (x.c_Lags), rfl, (x.nf_Lags_bool), (x.fe_Lags_Lagsx_eqx), (x.fn_Lags)⟩, fun e => nomatch e⟩
  · exact ⟨fun _ => ⟨_, _, (x.c_Lags), rfl, (x.nf_Lags_str), (x.fe_Lags_Lagsx_eqx), (x.fn_Lags)⟩, fun e => nomatch e⟩
  · exact ⟨fun _ => ⟨_, _, (x.c_Lags), rfl, (x.nf_Lags_tuple), (x.fe_Lags_Lagsx_eqx), (x.fn_Lags)⟩, fun e => nomatch e⟩
  · exact ⟨fun _ => ⟨_, _, (x.c_Lags), rfl, (x.nf_Lags_list), (x.fe_Lags_Lagsx_eqx), (x.fn_Lags)⟩, fun e => nomatch e⟩
  · exact ⟨fun _ => ⟨_, _, (x.c_Lags), rfl, (x.nf_Lags_NoneType), (x.fe_Lags_Lagsx_eqx), (x.fn_Lags)⟩, fun e => nomatch e⟩
  · exact ⟨fun _ => ⟨_, _, (x.c_Lags), ⟨_, (x.c_Lags), rfl⟩, (x.nf_Lags_Lags), (x.fe_Lags_Lagsx_eqx), (x.fn_Lags)⟩, fun e => nomatch e⟩
  · exact ⟨(fun e => nomatch e), fun _ => ⟨_, _, _, rfl, (x.c_Lags), (x.c_FormedLags), (x.un_Lags_FormedLags), (x.sb_FormedLags_Lags), (x.fe_FormedLags_Lagsx_eqx), (x.fn_FormedLags)⟩⟩
  · exact ⟨fun _ => ⟨_, _, (x.c_FormedLags), rfl, (x.nf_FormedLags_int), (x.fe_FormedLags_Lagsx_eqx), (x.fn_FormedLags)⟩, fun e => nomatch e⟩
  · exact ⟨fun _ => ⟨_, _, (x.c_FormedLags), rfl, (x.nf_FormedLags_bool), (x.fe_FormedLags_Lagsx_eqx), (x.fn_FormedLags)⟩, fun e => nomatch e⟩
  · exact ⟨fun _ => ⟨_, _, (x.c_FormedLags), rfl, (x.nf_FormedLags_str), (x.fe_FormedLags_Lagsx_eqx), (x.fn_FormedLags)⟩, fun e => nomatch e⟩
  · exact ⟨fun _ => ⟨_, _, (x.c_FormedLags), rfl, (x.nf_FormedLags_tuple), (x.fe_FormedLags_Lagsx_eqx), (x.fn_FormedLags)⟩, fun e => nomatch e⟩
  · exact ⟨fun _ => ⟨_, _, (x.c_FormedLags), rfl, (x.nf_FormedLags_list), (x.fe_FormedLags_Lagsx_eqx), (x.fn_FormedLags)⟩, fun e => nomatch e⟩
  · exact ⟨fun _ => ⟨_, _, (x.c_FormedLags), rfl, (x.nf_FormedLags_NoneType), (x.fe_FormedLags_Lagsx_eqx), (x.fn_FormedLags)⟩, fun e => nomatch e⟩
  · exact ⟨fun _ => ⟨_, _, (x.c_FormedLags), ⟨_, (x.c_Lags), rfl⟩, (x.nf_FormedLags_Lags), (x.fe_FormedLags_Lagsx_eqx), (x.fn_FormedLags)⟩, fun e => nomatch e⟩
  · exact ⟨fun _ => ⟨_, _, (x.c_FormedLags), ⟨_, (x.c_FormedLags), rfl⟩, (x.nf_FormedLags_FormedLags), (x.fe_FormedLags_Lagsx_eqx), (x.fn_FormedLags)⟩, fun e => nomatch e⟩
def eqX : D → D → Option D := (fun a b => ((eqD false) a b).or ((eqO t_Lagsx_eqx F_Lagsx_eqx) a b))
theorem bd_Lags_start : Bds K d_Lags_start P_Lags_start := fun fd F => F.bindsN fun _ _ _ _ _ _ us hl => match us, hl with | [_], _ => rfl
def m_Lags_start : M Fl := sRet (m2 ixD (m1 (fldD [0, 1]) (vR 0)) (mPure (.int 0)))
def F_Lags_start : List D → Option D := runD 1 m_Lags_start
theorem b_Lags_start (x : Fx K h mg) : BodyX P w K mg base d_Lags_start N_Lags_start 0 m_Lags_start := fun cdv A outer s H E hr hgd G => dss_one (ds_ret (de_ix (de_fld (cs := [0, 1]) (de_v 0 (pv 0)) (by intro c hc; simp only [List.mem_cons, List.not_mem_nil, or_false] at hc; rcases hc with rfl | rfl <;> first | exact ⟨_, (x.c_Lags), (x.na_Lags_form), rfl⟩ | exact ⟨_, (x.c_FormedLags), (x.na_FormedLags_form), rfl⟩)) (de_int)))
theorem ok_Lags_start (x : Fx K h mg) : Dn P w K mg base d_Lags_start 1 P_Lags_start (spD K mg 1 F_Lags_start) := dnD (x.cx.def_ 23 (d := d_Lags_start)) sc_Lags_start (b_Lags_start x)
theorem bd_Lags_period : Bds K d_Lags_period P_Lags_period := fun fd F => F.bindsN fun _ _ _ _ _ _ us hl => match us, hl with | [_], _ => rfl
def m_Lags_period : M Fl := sRet (m2 ixD (m1 (fldD [0, 1]) (vR 0)) (mPure (.int 1)))
def F_Lags_period : List D → Option D := runD 1 m_Lags_period
theorem b_Lags_period (x : Fx K h mg) : BodyX P w K mg base d_Lags_period N_Lags_period 0 m_Lags_period := fun cdv A outer s H E hr hgd G => dss_one (ds_ret (de_ix (de_fld (cs := [0, 1]) (de_v 0 (pv 0)) (by intro c hc; simp only [List.mem_cons, List.not_mem_nil, or_false] at hc; rcases hc with rfl | rfl <;> first | exact ⟨_, (x.c_Lags), (x.na_Lags_form), rfl⟩ | exact ⟨_, (x.c_FormedLags), (x.na_FormedLags_form), rfl⟩)) (de_int)))
theorem ok_Lags_period (x : Fx K h mg) : Dn P w K mg base d_Lags_period 1 P_Lags_period (spD K mg 1 F_Lags_period) := dnD (x.cx.def_ 24 (d := d_Lags_period)) sc_Lags_period (b_Lags_period x)
theorem bd_Lags_members : Bds K d_Lags_members P_Lags_members := fun fd F => F.bindsN fun _ _ _ _ _ _ us hl => match us, hl with | [_], _ => rfl
def m_Lags_members : M Fl := sRet (mCall tupleD (aCons (mBind (mLc (mBind (aCons (m2 ixD (m1 (fldD [0, 1]) (vR 0)) (mPure (.int 2))) (aNil)) fun l => mLift (enumD l)) (gT 2 (gsCons (gN 1) (gsCons (gN 2) (gsNil)))) (mTru (vR 2)) (vR 1) [1, 2]) fun l => mPure (.lst l)) (aNil)))
def F_Lags_members : List D → Option D := runD 3 m_Lags_members
theorem b_Lags_members (x : Fx K h mg) : BodyX P w K mg base d_Lags_members N_Lags_members 0 m_Lags_members := fun cdv A outer s H E hr hgd G => dss_one (ds_ret (de_cT c_tuple rfl (x.f_tuple) rfl (da_cons (DF.de (df_lc (own := [("k", 1), ("flag", 2)]) rfl sc_Lags_members.nd (di_enum rfl (x.f_enumerate) (da_cons (de_ix (de_fld (cs := [0, 1]) (de_v 0 (pv 0)) (by intro c hc; simp only [List.mem_cons, List.not_mem_nil, or_false] at hc; rcases hc with rfl | rfl <;> first | exact ⟨_, (x.c_Lags), (x.na_Lags_form), rfl⟩ | exact ⟨_, (x.c_FormedLags), (x.na_FormedLags_form), rfl⟩)) (de_int)) (da_nil))) (blkOk_by (own := [("k", 1), ("flag", 2)]) (N := N_Lags_members) (sc := d_Lags_members.scope) (by decide +kernel)) (by decide) (fun _ _ _ _ _ _ => dg_tup rfl (dgs_cons (dg_name 1 sc_Lags_members.nd rfl (.inl rfl)) (dgs_cons (dg_name 2 sc_Lags_members.nd rfl (.inl rfl)) (dgs_nil)))) (fun _ _ _ _ _ _ => dts_one (dt_of (de_v 2 (pv 2)))) (fun _ _ _ _ _ _ => de_v 1 (pv 1)))) (da_nil))))
theorem ok_Lags_members (x : Fx K h mg) : Dn P w K mg base d_Lags_members 1 P_Lags_members (spD K mg 1 F_Lags_members) := dnD (x.cx.def_ 25 (d := d_Lags_members)) sc_Lags_members (b_Lags_members x)
theorem bd_Lags_first : Bds K d_Lags_first P_Lags_first := fun fd F => F.bindsN fun _ _ _ _ _ _ us hl => match us, hl with | [_], _ => rfl
def m_Lags_first : M Fl := sRet (mIf (mTru (mCall anyX (aCons (m2 ixD (m1 (fldD [0, 1]) (vR 0)) (mPure (.int 2))) (aNil)))) (m2 ixD (mMe0 [0, 1] F_Lags_members (vR 0)) (mPure (.int 0))) (mPure .non))
def F_Lags_first : List D → Option D := runD 1 m_Lags_first
theorem b_Lags_first (x : Fx K h mg) : BodyX P w K mg base d_Lags_first N_Lags_first 2 m_Lags_first := fun cdv A outer s H E hr hgd G => dss_one (ds_ret (de_if (dt_of (de_cB (c_anyX rfl) rfl (x.f_any) rfl (da_cons (de_ix (de_fld (cs := [0, 1]) (de_v 0 (pv 0)) (by intro c hc; simp only [List.mem_cons, List.not_mem_nil, or_false] at hc; rcases hc with rfl | rfl <;> first | exact ⟨_, (x.c_Lags), (x.na_Lags_form), rfl⟩ | exact ⟨_, (x.c_FormedLags), (x.na_FormedLags_form), rfl⟩)) (de_int)) (da_nil)))) (de_ix (dprop (d := d_Lags_members) (pp := fun K => He.ma K (He.ga K (clsName 0)) "members") (cs := [0, 1]) (de_v 0 (pv 0)) (by intro c hc; simp only [List.mem_cons, List.not_mem_nil, or_false] at hc; rcases hc with rfl | rfl <;> first | exact ⟨_, (x.c_Lags), (x.pr_Lags_members)⟩ | exact ⟨_, (x.c_FormedLags), propSub (x.me_FormedLags_members) (x.pr_FormedLags_members)⟩) (ok_Lags_members x) bd_Lags_members hr hgd) (de_int)) (de_non)))
theorem ok_Lags_first (x : Fx K h mg) : Dn P w K mg base d_Lags_first 3 P_Lags_first (spD K mg 1 F_Lags_first) := dnD (x.cx.def_ 26 (d := d_Lags_first)) sc_Lags_first (b_Lags_first x)
theorem bd_Lags_endless : Bds K d_Lags_endless P_Lags_endless := fun fd F => F.bindsN fun _ _ _ _ _ _ us hl => match us, hl with | [_], _ => rfl
def m_Lags_endless : M Fl := sRet (mCall anyX (aCons (mSl (m2 ixD (m1 (fldD [0, 1]) (vR 0)) (mPure (.int 2))) (mBind (m2 ixD (m1 (fldD [0, 1]) (vR 0)) (mPure (.int 0))) fun d => mLift (asI d)) (mPure none)) (aNil)))
def F_Lags_endless : List D → Option D := runD 1 m_Lags_endless
theorem b_Lags_endless (x : Fx K h mg) : BodyX P w K mg base d_Lags_endless N_Lags_endless 0 m_Lags_endless := fun cdv A outer s H E hr hgd G => dss_one (ds_ret (de_cB (c_anyX rfl) rfl (x.f_any) rfl (da_cons (de_sl (de_ix (de_fld (cs := [0, 1]) (de_v 0 (pv 0)) (by intro c hc; simp only [List.mem_cons, List.not_mem_nil, or_false] at hc; rcases hc with rfl | rfl <;> first | exact ⟨_, (x.c_Lags), (x.na_Lags_form), rfl⟩ | exact ⟨_, (x.c_FormedLags), (x.na_FormedLags_form), rfl⟩)) (de_int)) (do_some (de_ix (de_fld (cs := [0, 1]) (de_v 0 (pv 0)) (by intro c hc; simp only [List.mem_cons, List.not_mem_nil, or_false] at hc; rcases hc with rfl | rfl <;> first | exact ⟨_, (x.c_Lags), (x.na_Lags_form), rfl⟩ | exact ⟨_, (x.c_FormedLags), (x.na_FormedLags_form), rfl⟩)) (de_int))) (do_none)) (da_nil))))
theorem ok_Lags_endless (x : Fx K h mg) : Dn P w K mg base d_Lags_endless 1 P_Lags_endless (spD K mg 1 F_Lags_endless) := dnD (x.cx.def_ 27 (d := d_Lags_endless)) sc_Lags_endless (b_Lags_endless x)
theorem bd_Lagsx_boolx : Bds K d_Lagsx_boolx P_Lagsx_boolx := fun fd F => F.bindsN fun _ _ _ _ _ _ us hl => match us, hl with | [_], _ => rfl
def m_Lagsx_boolx : M Fl := sRet (mCall anyX (aCons (m2 ixD (m1 (fldD [0, 1]) (vR 0)) (mPure (.int 2))) (aNil)))
def F_Lagsx_boolx : List D → Option D := runD 1 m_Lagsx_boolx
theorem b_Lagsx_boolx (x : Fx K h mg) : BodyX P w K mg base d_Lagsx_boolx N_Lagsx_boolx 0 m_Lagsx_boolx := fun cdv A outer s H E hr hgd G => dss_one (ds_ret (de_cB (c_anyX rfl) rfl (x.f_any) rfl (da_cons (de_ix (de_fld (cs := [0, 1]) (de_v 0 (pv 0)) (by intro c hc; simp only [List.mem_cons, List.not_mem_nil, or_false] at hc; rcases hc with rfl | rfl <;> first | exact ⟨_, (x.c_Lags), (x.na_Lags_form), rfl⟩ | exact ⟨_, (x.c_FormedLags), (x.na_FormedLags_form), rfl⟩)) (de_int)) (da_nil))))
theorem ok_Lagsx_boolx (x : Fx K h mg) : Dn P w K mg base d_Lagsx_boolx 1 P_Lagsx_boolx (spD K mg 1 F_Lagsx_boolx) := dnD (x.cx.def_ 28 (d := d_Lagsx_boolx)) sc_Lagsx_boolx (b_Lagsx_boolx x)
def boolX : List D → Option D := (fun ds => ((boolO []) ds).or ((bolO [0, 1] F_Lagsx_boolx) ds))
def neX : D → D → Option D := (fun a b => ((eqD true) a b).or ((neO t_Lagsx_eqx F_Lagsx_eqx) a b))
theorem bd_text_of : Bds K d_text_of P_text_of := fun fd F => F.bindsN fun _ _ _ _ _ _ us hl => match us, hl with | [_], _ => rfl
def m_text_of : M Fl := sSeq (sAsg (vR 0) (gT 3 (gsCons (gN 1) (gsCons (gN 2) (gsCons (gN 3) (gsNil)))))) (sSeq (sSetL 4 (mLc (mBind (aCons (m2 addD (vR 1) (vR 2)) (aNil)) fun l => mLift (rng1 l)) (gN 5) (mTru (m2 ixD (vR 3) (vR 5))) (mIf (mB (m2 ltD (vR 5) (vR 1))) (mCall strD (aCons (vR 5) (aNil))) (jsF [m1 fmtD (vR 5), mPure (.str "+"), m1 fmtD (vR 2)] Str.empty)) [5])) (sRet (mIf (mTru (vR 4)) (mJoin (mPure (.str " ")) (vR 4)) (mPure (.str "none")))))
def F_text_of : List D → Option D := runD 6 m_text_of
theorem b_text_of (x : Fx K h mg) : BodyX P w K mg base d_text_of N_text_of 0 m_text_of := fun cdv A outer s H E hr hgd G => dss_cons (ds_asg (de_v 0 (pv 0)) (dg_tup rfl (dgs_cons (dg_name 1 sc_text_of.nd rfl (.inr rfl)) (dgs_cons (dg_name 2 sc_text_of.nd rfl (.inr rfl)) (dgs_cons (dg_name 3 sc_text_of.nd rfl (.inr rfl)) (dgs_nil)))))) (dss_cons (ds_setLc 4 (own := [("k", 5)]) rfl sc_text_of.nd rfl rfl (sw_true rfl rfl rfl (by decide +kernel)) (di_range1 rfl (x.f_range) (da_cons (de_opD op_addD (de_v 1 (pv 1)) (de_v 2 (pv 2))) (da_nil))) (blkOk_by (own := [("k", 5)]) (N := N_text_of) (sc := d_text_of.scope) (by decide +kernel)) (by decide) (fun _ _ _ _ _ _ => dg_name 5 sc_text_of.nd rfl (.inl rfl)) (fun _ _ _ _ _ _ => dts_one (dt_of (de_ix (de_v 3 (pv 3)) (de_v 5 (pv 5))))) (fun _ _ _ _ _ _ => de_if (dt_cmpD op_ltD (de_v 5 (pv 5)) (de_v 1 (pv 1)) (nomark _)) (de_cT c_str rfl (x.f_str) rfl (da_cons (de_v 5 (pv 5)) (da_nil))) (de_joined (.cons (de_fmt (de_v 5 (pv 5))) (.cons (de_str) (.cons (de_fmt (de_v 2 (pv 2))) (.nil))))))) (dss_one (ds_ret (de_if (dt_of (de_v 4 (pv 4))) (de_joinD (de_str) (de_v 4 (pv 4))) (de_str)))))
theorem ok_text_of (x : Fx K h mg) : Dn P w K mg base d_text_of 1 P_text_of (spD K mg 1 F_text_of) := dnD (x.cx.def_ 29 (d := d_text_of)) sc_text_of (b_text_of x)
theorem bd_Lagsx_reprx : Bds K d_Lagsx_reprx P_Lagsx_reprx := fun fd F => F.bindsN fun _ _ _ _ _ _ us hl => match us, hl with | [_], _ => rfl
def m_Lagsx_reprx : M Fl := sRet (jsF [mPure (.str "Lags('"), m1 fmtD (mFn 1 0 (fun ds _ => ds) F_text_of (aCons (m1 (fldD [0, 1]) (vR 0)) (aNil)) (aNil)), mPure (.str "')")] Str.empty)
def F_Lagsx_reprx : List D → Option D := runD 1 m_Lagsx_reprx
theorem b_Lagsx_reprx (x : Fx K h mg) : BodyX P w K mg base d_Lagsx_reprx N_Lagsx_reprx 1 m_Lagsx_reprx := fun cdv A outer s H E hr hgd G => dss_one (ds_ret (de_joined (.cons (de_str) (.cons (de_fmt (dcall (d := d_text_of) (ok_text_of x) (KBs.all bd_text_of) hr hgd (x.g_text_of) rfl (da_cons (de_fld (cs := [0, 1]) (de_v 0 (pv 0)) (by intro c hc; simp only [List.mem_cons, List.not_mem_nil, or_false] at hc; rcases hc with rfl | rfl <;> first | exact ⟨_, (x.c_Lags), (x.na_Lags_form), rfl⟩ | exact ⟨_, (x.c_FormedLags), (x.na_FormedLags_form), rfl⟩)) (da_nil)) (dk_nil))) (.cons (de_str) (.nil))))))
theorem ok_Lagsx_reprx (x : Fx K h mg) : Dn P w K mg base d_Lagsx_reprx 2 P_Lagsx_reprx (spD K mg 1 F_Lagsx_reprx) := dnD (x.cx.def_ 30 (d := d_Lagsx_reprx)) sc_Lagsx_reprx (b_Lagsx_reprx x)
def reprX : List D → Option D := (fun ds => (reprD ds).or ((strO [0, 1] F_Lagsx_reprx) ds))
theorem bd_Lagsx_strx : Bds K d_Lagsx_strx P_Lagsx_strx := fun fd F => F.bindsN fun _ _ _ _ _ _ us hl => match us, hl with | [_], _ => rfl
def m_Lagsx_strx : M Fl := sRet (m1 fmtD (mFn 1 0 (fun ds _ => ds) F_text_of (aCons (m1 (fldD [0, 1]) (vR 0)) (aNil)) (aNil)))
def F_Lagsx_strx : List D → Option D := runD 1 m_Lagsx_strx
theorem b_Lagsx_strx (x : Fx K h mg) : BodyX P w K mg base d_Lagsx_strx N_Lagsx_strx 1 m_Lagsx_strx := fun cdv A outer s H E hr hgd G => dss_one (ds_ret (de_joined1 (de_fmt (dcall (d := d_text_of) (ok_text_of x) (KBs.all bd_text_of) hr hgd (x.g_text_of) rfl (da_cons (de_fld (cs := [0, 1]) (de_v 0 (pv 0)) (by intro c hc; simp only [List.mem_cons, List.not_mem_nil, or_false] at hc; rcases hc with rfl | rfl <;> first | exact ⟨_, (x.c_Lags), (x.na_Lags_form), rfl⟩ | exact ⟨_, (x.c_FormedLags), (x.na_FormedLags_form), rfl⟩)) (da_nil)) (dk_nil)))))
theorem ok_Lagsx_strx (x : Fx K h mg) : Dn P w K mg base d_Lagsx_strx 2 P_Lagsx_strx (spD K mg 1 F_Lagsx_strx) := dnD (x.cx.def_ 31 (d := d_Lagsx_strx)) sc_Lagsx_strx (b_Lagsx_strx x)
def strX : List D → Option D := (fun ds => (strD ds).or ((strO [0, 1] F_Lagsx_strx) ds))
theorem bd_law_text : Bds K d_law_text P_law_text := fun fd F => F.bindsN fun _ _ _ _ _ _ us hl => match us, hl with | [_], _ => rfl
def m_law_text : M Fl := sSeq (sSetL 1 (mLc (mBind (m2 ixD (vR 0) (mPure (.int 2))) fun d => mLift (iterD d)) (gN 2) (mPure true) (mIf (mB (m2 ltD (vR 2) (m2 ixD (vR 0) (mPure (.int 0))))) (mCall strD (aCons (vR 2) (aNil))) (m2 addD (m2 addD (mCall strD (aCons (vR 2) (aNil))) (mPure (.str "+"))) (mCall strD (aCons (m2 ixD (vR 0) (mPure (.int 1))) (aNil))))) [2])) (sRet (mIf (mB (m2 (eqD true) (vR 1) (mBind (mLst (aNil)) fun l => mPure (.lst l)))) (mJoin (mPure (.str " ")) (vR 1)) (mPure (.str "none"))))
def F_law_text : List D → Option D := runD 3 m_law_text
theorem b_law_text (x : Fx K h mg) : BodyX P w K mg base d_law_text N_law_text 0 m_law_text := fun cdv A outer s H E hr hgd G => dss_cons (ds_setLc 1 (own := [("_law_k", 2)]) rfl sc_law_text.nd rfl rfl (sw_true rfl rfl rfl (by decide +kernel)) (di_any (de_ix (de_v 0 (pv 0)) (de_int))) (blkOk_by (own := [("_law_k", 2)]) (N := N_law_text) (sc := d_law_text.scope) (by decide +kernel)) (by decide) (fun _ _ _ _ _ _ => dg_name 2 sc_law_text.nd rfl (.inl rfl)) (fun _ _ _ _ _ _ => dts_nil) (fun _ _ _ _ _ _ => de_if (dt_cmpD op_ltD (de_v 2 (pv 2)) (de_ix (de_v 0 (pv 0)) (de_int)) (nomark _)) (de_cT c_str rfl (x.f_str) rfl (da_cons (de_v 2 (pv 2)) (da_nil))) (de_opD op_addD (de_opD op_addD (de_cT c_str rfl (x.f_str) rfl (da_cons (de_v 2 (pv 2)) (da_nil))) (de_str)) (de_cT c_str rfl (x.f_str) rfl (da_cons (de_ix (de_v 0 (pv 0)) (de_int)) (da_nil)))))) (dss_one (ds_ret (de_if (dt_cmpD (op_neDD (roomN hr)) (de_v 1 (pv 1)) (DF.de (df_lst (da_nil))) (nomark _)) (de_joinD (de_str) (de_v 1 (pv 1))) (de_str))))
theorem ok_law_text (x : Fx K h mg) : Dn P w K mg base d_law_text 1 P_law_text (spD K mg 1 F_law_text) := dnD (x.cx.def_ 32 (d := d_law_text)) sc_law_text (b_law_text x)
theorem bd_law_is : Bds K d_law_is P_law_is := fun fd F => F.bindsN fun _ _ _ _ _ _ us hl => match us, hl with | [_, _], _ => rfl
def m_law_is : M Fl := sSeq (sIf (mNot (mTru (m1 (isiD ti_Lags) (vR 0)))) (sRet (mPure (.bl false))) (sNil)) (sSeq (sAsg (vR 1) (gT 3 (gsCons (gN 2) (gsCons (gN 3) (gsCons (gN 4) (gsNil)))))) (sSeq (sSet 5 (mBind (mLst (aCons (mMe0 [0, 1] F_Lags_start (vR 0)) (aCons (mMe0 [0, 1] F_Lags_period (vR 0)) (aCons (mMe0 [0, 1] F_Lags_members (vR 0)) (aCons (mMe0 [0, 1] F_Lags_first (vR 0)) (aCons (mMe0 [0, 1] F_Lags_endless (vR 0)) (aCons (mCall boolX (aCons (vR 0) (aNil))) (aNil)))))))) fun l => mPure (.lst l))) (sSeq (sSet 6 (mBind (mLst (aCons (vR 2) (aCons (vR 3) (aCons (mCall tupleD (aCons (vR 4) (aNil))) (aCons (mIf (mB (m2 neX (vR 4) (mBind (mLst (aNil)) fun l => mPure (.lst l)))) (m2 ixD (vR 4) (mPure (.int 0))) (mPure .non)) (aNil)))))) fun l => mPure (.lst l))) (sSeq (sSet 6 (m2 addD (vR 6) (mBind (mLst (aCons (m2 neX (mBind (mLc (mBind (vR 4) fun d => mLift (iterD d)) (gN 7) (mB (m2 geD (vR 7) (vR 2))) (vR 7) [7]) fun l => mPure (.lst l)) (mBind (mLst (aNil)) fun l => mPure (.lst l))) (aCons (m2 neX (vR 4) (mBind (mLst (aNil)) fun l => mPure (.lst l))) (aNil)))) fun l => mPure (.lst l)))) (sSeq (sIf (mB (m2 neX (mCall reprX (aCons (vR 5) (aNil))) (mCall reprX (aCons (vR 6) (aNil))))) (sRet (mPure (.bl false))) (sNil)) (sRet (mAndV (m2 eqX (mCall strX (aCons (vR 0) (aNil))) (mFn 1 0 (fun ds _ => ds) F_law_text (aCons (vR 1) (aNil)) (aNil))) (m2 eqX (mCall reprX (aCons (vR 0) (aNil))) (m2 addD (m2 addD (mPure (.str "Lags('")) (mFn 1 0 (fun ds _ => ds) F_law_text (aCons (vR 1) (aNil)) (aNil))) (mPure (.str "')")))))))))))
def F_law_is : List D → Option D := runD 8 m_law_is
theorem b_law_is (x : Fx K h mg) : BodyX P w K mg base d_law_is N_law_is 4 m_law_is := fun cdv A outer s H E hr hgd G => dss_cons (ds_if (dt_not (dt_of (de_isi rfl (x.f_isinstance) (de_v 0 (pv 0)) (pe_glob (v := .ref _) rfl (x.c_Lags).g rfl) (.own _) (tk_ti_Lags x)))) (dss_one (ds_ret (de_bl))) (dss_nil)) (dss_cons (ds_asg (de_v 1 (pv 1)) (dg_tup rfl (dgs_cons (dg_name 2 sc_law_is.nd rfl (.inr rfl)) (dgs_cons (dg_name 3 sc_law_is.nd rfl (.inl rfl)) (dgs_cons (dg_name 4 sc_law_is.nd rfl (.inl rfl)) (dgs_nil)))))) (dss_cons (ds_set 5 sc_law_is.nd rfl (.inl rfl) (DF.de (df_lst (da_cons (dprop (d := d_Lags_start) (pp := fun K => He.ma K (He.ga K (clsName 0)) "start") (cs := [0, 1]) (de_v 0 (pv 0)) (by intro c hc; simp only [List.mem_cons, List.not_mem_nil, or_false] at hc; rcases hc with rfl | rfl <;> first | exact ⟨_, (x.c_Lags), (x.pr_Lags_start)⟩ | exact ⟨_, (x.c_FormedLags), propSub (x.me_FormedLags_start) (x.pr_FormedLags_start)⟩) (ok_Lags_start x) bd_Lags_start hr hgd) (da_cons (dprop (d := d_Lags_period) (pp := fun K => He.ma K (He.ga K (clsName 0)) "period") (cs := [0, 1]) (de_v 0 (pv 0)) (by intro c hc; simp only [List.mem_cons, List.not_mem_nil, or_false] at hc; rcases hc with rfl | rfl <;> first | exact ⟨_, (x.c_Lags), (x.pr_Lags_period)⟩ | exact ⟨_, (x.c_FormedLags), propSub (x.me_FormedLags_period) (x.pr_FormedLags_period)⟩) (ok_Lags_period x) bd_Lags_period hr hgd) (da_cons (dprop (d := d_Lags_members) (pp := fun K => He.ma K (He.ga K (clsName 0)) "members") (cs := [0, 1]) (de_v 0 (pv 0)) (by intro c hc; simp only [List.mem_cons, List.not_mem_nil, or_false] at hc; rcases hc with rfl | rfl <;> first | exact ⟨_, (x.c_Lags), (x.pr_Lags_members)⟩ | exact ⟨_, (x.c_FormedLags), propSub (x.me_FormedLags_members) (x.pr_FormedLags_members)⟩) (ok_Lags_members x) bd_Lags_members hr hgd) (da_cons (dprop (d := d_Lags_first) (pp := fun K => He.ma K (He.ga K (clsName 0)) "first") (cs := [0, 1]) (de_v 0 (pv 0)) (by intro c hc; simp only [List.mem_cons, List.not_mem_nil, or_false] at hc; rcases hc with rfl | rfl <;> first | exact ⟨_, (x.c_Lags), (x.pr_Lags_first)⟩ | exact ⟨_, (x.c_FormedLags), propSub (x.me_FormedLags_first) (x.pr_FormedLags_first)⟩) (ok_Lags_first x) bd_Lags_first hr hgd) (da_cons (dprop (d := d_Lags_endless) (pp := fun K => He.ma K (He.ga K (clsName 0)) "endless") (cs := [0, 1]) (de_v 0 (pv 0)) (by intro c hc; simp only [List.mem_cons, List.not_mem_nil, or_false] at hc; rcases hc with rfl | rfl <;> first | exact ⟨_, (x.c_Lags), (x.pr_Lags_endless)⟩ | exact ⟨_, (x.c_FormedLags), propSub (x.me_FormedLags_endless) (x.pr_FormedLags_endless)⟩) (ok_Lags_endless x) bd_Lags_endless hr hgd) (da_cons (de_cT (callD_or (c_boolO (by intro c hc; cases hc)) (dbol (d := d_Lagsx_boolx) (by intro c hc; simp only [List.mem_cons, List.not_mem_nil, or_false] at hc; rcases hc with rfl | rfl <;> first | exact ⟨⟨_, (x.c_Lags), (x.sbool_Lags)⟩⟩ | exact ⟨⟨_, (x.c_FormedLags), (x.sbool_FormedLags)⟩⟩) (x.if_Lagsx_boolx) (ok_Lagsx_boolx x) bd_Lagsx_boolx hr hgd)) rfl (x.f_bool) rfl (da_cons (de_v 0 (pv 0)) (da_nil))) (da_nil)))))))))) (dss_cons (ds_set 6 sc_law_is.nd rfl (.inl rfl) (DF.de (df_lst (da_cons (de_v 2 (pv 2)) (da_cons (de_v 3 (pv 3)) (da_cons (de_cT c_tuple rfl (x.f_tuple) rfl (da_cons (de_v 4 (pv 4)) (da_nil))) (da_cons (de_if (dt_cmpD (opD_or (op_neDD (roomN hr)) (dne (te_Lagsx_eqx x) (x.if_Lagsx_eqx) (ok_Lagsx_eqx x) rfl bd_Lagsx_eqx hr hgd)) (de_v 4 (pv 4)) (DF.de (df_lst (da_nil))) (nomark _)) (de_ix (de_v 4 (pv 4)) (de_int)) (de_non)) (da_nil)))))))) (dss_cons (ds_set 6 sc_law_is.nd rfl (.inl rfl) (de_opD op_addD (de_v 6 (pv 6)) (DF.de (df_lst (da_cons (de_cmpD (opD_or (op_neDD (roomN hr)) (dne (te_Lagsx_eqx x) (x.if_Lagsx_eqx) (ok_Lagsx_eqx x) rfl bd_Lagsx_eqx hr hgd)) (DF.de (df_lc (own := [("_law_k", 7)]) rfl sc_law_is.nd (di_any (de_v 4 (pv 4))) (blkOk_by (own := [("_law_k", 7)]) (N := N_law_is) (sc := d_law_is.scope) (by decide +kernel)) (by decide) (fun _ _ _ _ _ _ => dg_name 7 sc_law_is.nd rfl (.inl rfl)) (fun _ _ _ _ _ _ => dts_one (dt_cmpD op_geD (de_v 7 (pv 7)) (de_v 2 (pv 2)) (nomark _))) (fun _ _ _ _ _ _ => de_v 7 (pv 7)))) (DF.de (df_lst (da_nil))) (nomark _)) (da_cons (de_cmpD (opD_or (op_neDD (roomN hr)) (dne (te_Lagsx_eqx x) (x.if_Lagsx_eqx) (ok_Lagsx_eqx x) rfl bd_Lagsx_eqx hr hgd)) (de_v 4 (pv 4)) (DF.de (df_lst (da_nil))) (nomark _)) (da_nil))))))) (dss_cons (ds_if (dt_cmpD (opD_or (op_neDD (roomN hr)) (dne (te_Lagsx_eqx x) (x.if_Lagsx_eqx) (ok_Lagsx_eqx x) rfl bd_Lagsx_eqx hr hgd)) (de_cB (callD_or (c_repr (roomN hr) hgd) (drepr (d := d_Lagsx_reprx) (by intro c hc; simp only [List.mem_cons, List.not_mem_nil, or_false] at hc; rcases hc with rfl | rfl <;> first | exact ⟨⟨_, (x.c_Lags), (x.srepr_Lags)⟩⟩ | exact ⟨⟨_, (x.c_FormedLags), (x.srepr_FormedLags)⟩⟩) (x.if_Lagsx_reprx) (ok_Lagsx_reprx x) bd_Lagsx_reprx hr hgd)) rfl (x.f_repr) rfl (da_cons (de_v 5 (pv 5)) (da_nil))) (de_cB (callD_or (c_repr (roomN hr) hgd) (drepr (d := d_Lagsx_reprx) (by intro c hc; simp only [List.mem_cons, List.not_mem_nil, or_false] at hc; rcases hc with rfl | rfl <;> first | exact ⟨⟨_, (x.c_Lags), (x.srepr_Lags)⟩⟩ | exact ⟨⟨_, (x.c_FormedLags), (x.srepr_FormedLags)⟩⟩) (x.if_Lagsx_reprx) (ok_Lagsx_reprx x) bd_Lagsx_reprx hr hgd)) rfl (x.f_repr) rfl (da_cons (de_v 6 (pv 6)) (da_nil))) (nomark _)) (dss_one (ds_ret (de_bl))) (dss_nil)) (dss_one (ds_ret (de_and (de_cmpD (opD_or (op_eqDD (roomN hr)) (deq (te_Lagsx_eqx x) (x.if_Lagsx_eqx) (ok_Lagsx_eqx x) rfl bd_Lagsx_eqx hr hgd)) (de_cT (callD_or c_str (dstr (d := d_Lagsx_strx) (by intro c hc; simp only [List.mem_cons, List.not_mem_nil, or_false] at hc; rcases hc with rfl | rfl <;> first | exact ⟨⟨_, (x.c_Lags), (x.st_Lags)⟩⟩ | exact ⟨⟨_, (x.c_FormedLags), (x.st_FormedLags)⟩⟩) (x.if_Lagsx_strx) (ok_Lagsx_strx x) bd_Lagsx_strx hr hgd)) rfl (x.f_str) rfl (da_cons (de_v 0 (pv 0)) (da_nil))) (dcall (d := d_law_text) (ok_law_text x) (KBs.all bd_law_text) hr hgd (x.g_law_text) rfl (da_cons (de_v 1 (pv 1)) (da_nil)) (dk_nil)) (nomark _)) (de_one (de_cmpD (opD_or (op_eqDD (roomN hr)) (deq (te_Lagsx_eqx x) (x.if_Lagsx_eqx) (ok_Lagsx_eqx x) rfl bd_Lagsx_eqx hr hgd)) (de_cB (callD_or (c_repr (roomN hr) hgd) (drepr (d := d_Lagsx_reprx) (by intro c hc; simp only [List.mem_cons, List.not_mem_nil, or_false] at hc; rcases hc with rfl | rfl <;> first | exact ⟨⟨_, (x.c_Lags), (x.srepr_Lags)⟩⟩ | exact ⟨⟨_, (x.c_FormedLags), (x.srepr_FormedLags)⟩⟩) (x.if_Lagsx_reprx) (ok_Lagsx_reprx x) bd_Lagsx_reprx hr hgd)) rfl (x.f_repr) rfl (da_cons (de_v 0 (pv 0)) (da_nil))) (de_opD op_addD (de_opD op_addD (de_str) (dcall (d := d_law_text) (ok_law_text x) (KBs.all bd_law_text) hr hgd (x.g_law_text) rfl (da_cons (de_v 1 (pv 1)) (da_nil)) (dk_nil))) (de_str)) (nomark _)))))))))))
theorem ok_law_is (x : Fx K h mg) : Dn P w K mg base d_law_is 5 P_law_is (spD K mg 2 F_law_is) := dnD (x.cx.def_ 33 (d := d_law_is)) sc_law_is (b_law_is x)
def m_bounded : M Fl := sSeq (sIf (mB (m2 gtD (m2 addD (m2 ixD (vR 0) (mPure (.int 0))) (m2 ixD (vR 0) (mPure (.int 1)))) (mPure (.int 2000)))) (sNo) (sNil)) (sRet (mFn 1 0 (fun ds _ => ds) F_lags_with (aCons (vR 0) (aNil)) (aNil)))
def F_bounded : List D → Option D := runD 1 m_bounded
theorem b_bounded (x : Fx K h mg) : BodyX P w K mg base d_bounded N_bounded 3 m_bounded := fun cdv A outer s H E hr hgd G => dss_cons (ds_if (dt_cmpD op_gtD (de_opD op_addD (de_ix (de_v 0 (pv 0)) (de_int)) (de_ix (de_v 0 (pv 0)) (de_int))) (de_gi rfl (x.k_MOST_LAGS)) (nomark _)) (dss_one (ds_no)) (dss_nil)) (dss_one (ds_ret (dcall (d := d_lags_with) (ok_lags_with x) (KBs.all bd_lags_with) hr hgd (x.g_lags_with) rfl (da_cons (de_v 0 (pv 0)) (da_nil)) (dk_nil))))
theorem ok_bounded (x : Fx K h mg) : Dn P w K mg base d_bounded 4 P_bounded (spD K mg 1 F_bounded) := dnD (x.cx.def_ 20 (d := d_bounded)) sc_bounded (b_bounded x)
def m_Lags_shifted : M Fl := sSeq (sIf (mOr (mNot (mTru (mFn 1 0 (fun ds _ => ds) F_is_integer (aCons (vR 1) (aNil)) (aNil)))) (mNot (mB (mCh leD leD (m1 negD (mPure (.int 1000))) (vR 1) (mPure (.int 1000)))))) (sNo) (sNil)) (sSeq (sPar 2 3 (aCons (mCall maxD (aCons (mPure (.int 0)) (aCons (m2 addD (m2 ixD (m1 (fldD [0, 1]) (vR 0)) (mPure (.int 0))) (vR 1)) (aNil)))) (aCons (m2 ixD (m1 (fldD [0, 1]) (vR 0)) (mPure (.int 1))) (aNil)))) (sSeq (sSetL 4 (mLc (mBind (aCons (m2 addD (vR 2) (vR 3)) (aNil)) fun l => mLift (rng1 l)) (gN 5) (mPure true) (mAndV (m2 geD (vR 5) (vR 1)) (mFn 2 0 (fun ds _ => ds) F_flag_at (aCons (m1 (fldD [0, 1]) (vR 0)) (aCons (m2 subD (vR 5) (vR 1)) (aNil))) (aNil))) [5])) (sRet (mFn 1 0 (fun ds _ => ds) F_bounded (aCons (mFn 3 0 (fun ds _ => ds) F_least_form (aCons (vR 4) (aCons (vR 2) (aCons (vR 3) (aNil)))) (aNil)) (aNil)) (aNil)))))
def F_Lags_shifted : List D → Option D := runD 6 m_Lags_shifted
theorem b_Lags_shifted (x : Fx K h mg) : BodyX P w K mg base d_Lags_shifted N_Lags_shifted 4 m_Lags_shifted := fun cdv A outer s H E hr hgd G => dss_cons (ds_if (DW.dt (dw_or (dt_not (dt_of (dcall (d := d_is_integer) (ok_is_integer x) (KBs.all bd_is_integer) hr hgd (x.g_is_integer) rfl (da_cons (de_v 1 (pv 1)) (da_nil)) (dk_nil)))) (dw_or1 (dt_not (dt_chainD op_leD op_leD (de_neg (de_gi rfl (x.k_MOST_SHIFT))) (de_v 1 (pv 1)) (de_gi rfl (x.k_MOST_SHIFT))))))) (dss_one (ds_no)) (dss_nil)) (dss_cons (ds_par 2 3 rfl sc_Lags_shifted.nd rfl rfl (by decide) rfl rfl (da_cons (de_cB (c_max rfl) rfl (x.f_max) rfl (da_cons (de_int) (da_cons (de_opD op_addD (de_ix (de_fld (cs := [0, 1]) (de_v 0 (pv 0)) (by intro c hc; simp only [List.mem_cons, List.not_mem_nil, or_false] at hc; rcases hc with rfl | rfl <;> first | exact ⟨_, (x.c_Lags), (x.na_Lags_form), rfl⟩ | exact ⟨_, (x.c_FormedLags), (x.na_FormedLags_form), rfl⟩)) (de_int)) (de_v 1 (pv 1))) (da_nil)))) (da_cons (de_ix (de_fld (cs := [0, 1]) (de_v 0 (pv 0)) (by intro c hc; simp only [List.mem_cons, List.not_mem_nil, or_false] at hc; rcases hc with rfl | rfl <;> first | exact ⟨_, (x.c_Lags), (x.na_Lags_form), rfl⟩ | exact ⟨_, (x.c_FormedLags), (x.na_FormedLags_form), rfl⟩)) (de_int)) (da_nil))) (by rfl)) (dss_cons (ds_setLc 4 (own := [("k", 5)]) rfl sc_Lags_shifted.nd rfl rfl (sw_true rfl rfl rfl (by decide +kernel)) (di_range1 rfl (x.f_range) (da_cons (de_opD op_addD (de_v 2 (pv 2)) (de_v 3 (pv 3))) (da_nil))) (blkOk_by (own := [("k", 5)]) (N := N_Lags_shifted) (sc := d_Lags_shifted.scope) (by decide +kernel)) (by decide) (fun _ _ _ _ _ _ => dg_name 5 sc_Lags_shifted.nd rfl (.inl rfl)) (fun _ _ _ _ _ _ => dts_nil) (fun _ _ _ _ _ _ => de_and (de_cmpD op_geD (de_v 5 (pv 5)) (de_v 1 (pv 1)) (nomark _)) (de_one (dcall (d := d_flag_at) (ok_flag_at x) (KBs.all bd_flag_at) hr hgd (x.g_flag_at) rfl (da_cons (de_fld (cs := [0, 1]) (de_v 0 (pv 0)) (by intro c hc; simp only [List.mem_cons, List.not_mem_nil, or_false] at hc; rcases hc with rfl | rfl <;> first | exact ⟨_, (x.c_Lags), (x.na_Lags_form), rfl⟩ | exact ⟨_, (x.c_FormedLags), (x.na_FormedLags_form), rfl⟩)) (da_cons (de_opD op_subD (de_v 5 (pv 5)) (de_v 1 (pv 1))) (da_nil))) (dk_nil))))) (dss_one (ds_ret (dcall (d := d_bounded) (ok_bounded x) (KBs.all bd_bounded) hr hgd (x.g_bounded) rfl (da_cons (dcall (d := d_least_form) (ok_least_form x) (KBs.all bd_least_form) hr hgd (x.g_least_form) rfl (da_cons (de_v 4 (pv 4)) (da_cons (de_v 2 (pv 2)) (da_cons (de_v 3 (pv 3)) (da_nil)))) (dk_nil)) (da_nil)) (dk_nil))))))
theorem ok_Lags_shifted (x : Fx K h mg) : Dn P w K mg base d_Lags_shifted 5 P_Lags_shifted (spD K mg 2 F_Lags_shifted) := dnD (x.cx.def_ 21 (d := d_Lags_shifted)) sc_Lags_shifted (b_Lags_shifted x)
theorem kb_Lags_shifted_1_by : KBs K mg d_Lags_shifted P_Lags_shifted 1 ["by"] (fun ds es => pick [.p 0, .k 0] ds [] [] es) := fun fd F => by
  have h := kb00 (ps := P_Lags_shifted) (n := 1) (ks := ["by"]) F ([.p 0, .k 0] : List Src) (fun _ _ _ _ _ _ us ws h1 h4 => match us, ws, h1, h4 with | [_], [_], _, _ => rfl)
  exact KB.of (src := [.p 0, .k 0]) (dd := []) (md := []) h (by decide) (by decide) (by decide)
theorem bd_law_moved : Bds K d_law_moved P_law_moved := fun fd F => F.bindsN fun _ _ _ _ _ _ us hl => match us, hl with | [_, _, _, _, _], _ => rfl
def m_law_moved : M Fl := sSeq (sSet 5 (m2 addD (mBind (mLc (mBind (aCons (vR 4) (aNil)) fun l => mLift (rng1 l)) (gN 6) (mPure true) (mPure (.bl false)) [6]) fun l => mPure (.lst l)) (mSl (vR 1) (mBind (mCall maxD (aCons (mPure (.int 0)) (aCons (m1 negD (vR 4)) (aNil)))) fun d => mLift (asI d)) (mPure none)))) (sSeq (sSet 7 (mFn 3 0 (fun ds _ => ds) F_law_form (aCons (vR 5) (aCons (mCall maxD (aCons (mPure (.int 0)) (aCons (m2 addD (vR 2) (vR 4)) (aNil)))) (aCons (vR 3) (aNil)))) (aNil))) (sSeq (sSet 8 (mHear caught (xMe 2 [0, 1] FX_Lags_shifted (mUp (vR 0)) (mUp (aCons (vR 4) (aNil)))))) (sSeq (sIf (mB (m2 gtD (m2 addD (m2 ixD (vR 7) (mPure (.int 0))) (m2 ixD (vR 7) (mPure (.int 1)))) (mPure (.int 2000)))) (sRet (m2 eqX (vR 8) (mTup (aCons (mPure (.str "raised")) (aCons (mPure (.str "much")) (aCons (mPure (.str "2000")) (aNil))))))) (sNil)) (sRet (mAndV (m2 eqX (m2 ixD (vR 8) (mPure (.int 0))) (mPure (.str "told"))) (mAndV (mFn 2 0 (fun ds _ => ds) F_law_is (aCons (m2 ixD (vR 8) (mPure (.int 1))) (aCons (vR 7) (aNil))) (aNil)) (m2 eqX (mMeK 1 [0, 1] (fun ds es => pick [.p 0, .k 0] ds [] [] es) F_Lags_shifted (vR 0) (aCons (vR 4) (aNil))) (m2 ixD (vR 8) (mPure (.int 1))))))))))
def F_law_moved : List D → Option D := runD 9 m_law_moved
theorem b_law_moved (x : Fx K h mg) (tb : Tb K mg base) : BodyLX P w K mg base d_law_moved N_law_moved 7 (tabsOf K lamF) m_law_moved := fun A outer s H E hr hgd G eT => dss_cons (ds_set 5 sc_law_moved.nd rfl (.inl rfl) (de_opD op_addD (DF.de (df_lc (own := [("_law_k", 6)]) rfl sc_law_moved.nd (di_range1 rfl (x.f_range) (da_cons (de_v 4 (pv 4)) (da_nil))) (blkOk_by (own := [("_law_k", 6)]) (N := N_law_moved) (sc := d_law_moved.scope) (by decide +kernel)) (by decide) (fun _ _ _ _ _ _ => dg_name 6 sc_law_moved.nd rfl (.inl rfl)) (fun _ _ _ _ _ _ => dts_nil) (fun _ _ _ _ _ _ => de_bl))) (de_sl (de_v 1 (pv 1)) (do_some (de_cB (c_max rfl) rfl (x.f_max) rfl (da_cons (de_int) (da_cons (de_neg (de_v 4 (pv 4))) (da_nil))))) (do_none)))) (dss_cons (ds_set 7 sc_law_moved.nd rfl (.inl rfl) (dcall (d := d_law_form) (ok_law_form x) (KBs.all bd_law_form) hr hgd (x.g_law_form) rfl (da_cons (de_v 5 (pv 5)) (da_cons (de_cB (c_max rfl) rfl (x.f_max) rfl (da_cons (de_int) (da_cons (de_opD op_addD (de_v 2 (pv 2)) (de_v 4 (pv 4))) (da_nil)))) (da_cons (de_v 3 (pv 3)) (da_nil)))) (dk_nil))) (dss_cons (ds_set 8 sc_law_moved.nd rfl (.inl rfl) (dhear (fl := lamF) (d0 := d_law_moved) (sc := d_law_moved.scope) (k := 5) (j := 1) (Ng := N_law_caught) (x.cx.def_ 12 (d := d_law_caught)) bd_law_caught sc_law_caught (x.g_law_caught) (x.g_WrongValue) (x.g_WrongName) (x.g_NoAnswer) (hits_ok x) eT (by simp [lamF]) x.c.cd x.c.nd tb hr hgd (fun A outer s H E f c1 hr hgd G tk => xmeth (d := d_Lags_shifted) (cs := [0, 1]) tk (ex_up (de_v 0 (pv 0))) (by intro c hc; simp only [List.mem_cons, List.not_mem_nil, or_false] at hc; rcases hc with rfl | rfl <;> first | exact ⟨_, (x.c_Lags), (x.mt_Lags_shifted), by decide⟩ | exact ⟨_, (x.c_FormedLags), methSub (x.me_FormedLags_shifted) (x.mt_FormedLags_shifted), by decide⟩) (okx_Lags_shifted x) bd_Lags_shifted hr hgd (ax_up (da_cons (de_v 4 (pv 4)) (da_nil)))) (fun cdv s H ad pn G => su_law_caught cdv s H ad pn G x) (fun cdv s H G => re_law_caught cdv s H G x) rfl)) (dss_cons (ds_if (dt_cmpD op_gtD (de_opD op_addD (de_ix (de_v 7 (pv 7)) (de_int)) (de_ix (de_v 7 (pv 7)) (de_int))) (de_int) (nomark _)) (dss_one (ds_ret (de_cmpD (opD_or (op_eqDD (roomN hr)) (deq (te_Lagsx_eqx x) (x.if_Lagsx_eqx) (ok_Lagsx_eqx x) rfl bd_Lagsx_eqx hr hgd)) (de_v 8 (pv 8)) (de_tup (da_cons (de_str) (da_cons (de_str) (da_cons (de_str) (da_nil))))) (nomark _)))) (dss_nil)) (dss_one (ds_ret (de_and (de_cmpD (opD_or (op_eqDD (roomN hr)) (deq (te_Lagsx_eqx x) (x.if_Lagsx_eqx) (ok_Lagsx_eqx x) rfl bd_Lagsx_eqx hr hgd)) (de_ix (de_v 8 (pv 8)) (de_int)) (de_str) (nomark _)) (de_and (dcall (d := d_law_is) (ok_law_is x) (KBs.all bd_law_is) hr hgd (x.g_law_is) rfl (da_cons (de_ix (de_v 8 (pv 8)) (de_int)) (da_cons (de_v 7 (pv 7)) (da_nil))) (dk_nil)) (de_one (de_cmpD (opD_or (op_eqDD (roomN hr)) (deq (te_Lagsx_eqx x) (x.if_Lagsx_eqx) (ok_Lagsx_eqx x) rfl bd_Lagsx_eqx hr hgd)) (dmethK (d := d_Lags_shifted) (cs := [0, 1]) (de_v 0 (pv 0)) (by intro c hc; simp only [List.mem_cons, List.not_mem_nil, or_false] at hc; rcases hc with rfl | rfl <;> first | exact ⟨_, (x.c_Lags), (x.mt_Lags_shifted), by decide⟩ | exact ⟨_, (x.c_FormedLags), methSub (x.me_FormedLags_shifted) (x.mt_FormedLags_shifted), by decide⟩) (ok_Lags_shifted x) kb_Lags_shifted_1_by hr hgd (dk_cons (de_v 4 (pv 4)) (dk_nil))) (de_ix (de_v 8 (pv 8)) (de_int)) (nomark _))))))))))
theorem ok_law_moved (x : Fx K h mg) (tb : Tb K mg base) : Dn P w K mg base d_law_moved 8 P_law_moved (spL K mg (tabsOf K lamF) 5 F_law_moved) := dnL (x.cx.def_ 34 (d := d_law_moved)) sc_law_moved (b_law_moved x tb)
theorem bd_law_in : Bds K d_law_in P_law_in := fun fd F => F.bindsN fun _ _ _ _ _ _ us hl => match us, hl with | [_, _, _, _], _ => rfl
def m_law_in : M Fl := sSeq (sIf (mB (m2 ltD (vR 3) (mPure (.int 0)))) (sRet (mPure (.bl false))) (sNil)) (sRet (mIf (mB (m2 ltD (vR 3) (vR 1))) (m2 ixD (vR 0) (vR 3)) (m2 ixD (vR 0) (m2 addD (vR 1) (m2 modD (mCall intD (aCons (m2 subD (vR 3) (vR 1)) (aNil))) (vR 2))))))
def F_law_in : List D → Option D := runD 4 m_law_in
theorem b_law_in (x : Fx K h mg) : BodyX P w K mg base d_law_in N_law_in 0 m_law_in := fun cdv A outer s H E hr hgd G => dss_cons (ds_if (dt_cmpD op_ltD (de_v 3 (pv 3)) (de_int) (nomark _)) (dss_one (ds_ret (de_bl))) (dss_nil)) (dss_one (ds_ret (de_if (dt_cmpD op_ltD (de_v 3 (pv 3)) (de_v 1 (pv 1)) (nomark _)) (de_ix (de_v 0 (pv 0)) (de_v 3 (pv 3))) (de_ix (de_v 0 (pv 0)) (de_opD op_addD (de_v 1 (pv 1)) (de_opD op_modD (de_cT c_int rfl (x.f_int) rfl (da_cons (de_opD op_subD (de_v 3 (pv 3)) (de_v 1 (pv 1))) (da_nil))) (de_v 2 (pv 2))))))))
theorem ok_law_in (x : Fx K h mg) : Dn P w K mg base d_law_in 1 P_law_in (spD K mg 4 F_law_in) := dnD (x.cx.def_ 35 (d := d_law_in)) sc_law_in (b_law_in x)
theorem bd_Lags_upto : Bds K d_Lags_upto P_Lags_upto := fun fd F => F.bindsN fun _ _ _ _ _ _ us hl => match us, hl with | [_, _], _ => rfl
def m_Lags_upto : M Fl := sSeq (sIf (mOr (mNot (mTru (mFn 1 0 (fun ds _ => ds) F_is_integer (aCons (vR 1) (aNil)) (aNil)))) (mNot (mB (mCh leD leD (mPure (.int 0)) (vR 1) (mPure (.int 5000)))))) (sNo) (sNil)) (sRet (mCall tupleD (aCons (mBind (mLc (mBind (aCons (m2 addD (vR 1) (mPure (.int 1))) (aNil)) fun l => mLift (rng1 l)) (gN 2) (mTru (mFn 2 0 (fun ds _ => ds) F_flag_at (aCons (m1 (fldD [0, 1]) (vR 0)) (aCons (vR 2) (aNil))) (aNil))) (vR 2) [2]) fun l => mPure (.lst l)) (aNil))))
def F_Lags_upto : List D → Option D := runD 3 m_Lags_upto
theorem b_Lags_upto (x : Fx K h mg) : BodyX P w K mg base d_Lags_upto N_Lags_upto 1 m_Lags_upto := fun cdv A outer s H E hr hgd G => dss_cons (ds_if (DW.dt (dw_or (dt_not (dt_of (dcall (d := d_is_integer) (ok_is_integer x) (KBs.all bd_is_integer) hr hgd (x.g_is_integer) rfl (da_cons (de_v 1 (pv 1)) (da_nil)) (dk_nil)))) (dw_or1 (dt_not (dt_chainD op_leD op_leD (de_int) (de_v 1 (pv 1)) (de_gi rfl (x.k_MOST_SHOWN))))))) (dss_one (ds_no)) (dss_nil)) (dss_one (ds_ret (de_cT c_tuple rfl (x.f_tuple) rfl (da_cons (DF.de (df_lc (own := [("k", 2)]) rfl sc_Lags_upto.nd (di_range1 rfl (x.f_range) (da_cons (de_opD op_addD (de_v 1 (pv 1)) (de_int)) (da_nil))) (blkOk_by (own := [("k", 2)]) (N := N_Lags_upto) (sc := d_Lags_upto.scope) (by decide +kernel)) (by decide) (fun _ _ _ _ _ _ => dg_name 2 sc_Lags_upto.nd rfl (.inl rfl)) (fun _ _ _ _ _ _ => dts_one (dt_of (dcall (d := d_flag_at) (ok_flag_at x) (KBs.all bd_flag_at) hr hgd (x.g_flag_at) rfl (da_cons (de_fld (cs := [0, 1]) (de_v 0 (pv 0)) (by intro c hc; simp only [List.mem_cons, List.not_mem_nil, or_false] at hc; rcases hc with rfl | rfl <;> first | exact ⟨_, (x.c_Lags), (x.na_Lags_form), rfl⟩ | exact ⟨_, (x.c_FormedLags), (x.na_FormedLags_form), rfl⟩)) (da_cons (de_v 2 (pv 2)) (da_nil))) (dk_nil)))) (fun _ _ _ _ _ _ => de_v 2 (pv 2)))) (da_nil)))))
theorem ok_Lags_upto (x : Fx K h mg) : Dn P w K mg base d_Lags_upto 2 P_Lags_upto (spD K mg 2 F_Lags_upto) := dnD (x.cx.def_ 36 (d := d_Lags_upto)) sc_Lags_upto (b_Lags_upto x)
theorem kb_Lags_upto_1_limit : KBs K mg d_Lags_upto P_Lags_upto 1 ["limit"] (fun ds es => pick [.p 0, .k 0] ds [] [] es) := fun fd F => by
  have h := kb00 (ps := P_Lags_upto) (n := 1) (ks := ["limit"]) F ([.p 0, .k 0] : List Src) (fun _ _ _ _ _ _ us ws h1 h4 => match us, ws, h1, h4 with | [_], [_], _, _ => rfl)
  exact KB.of (src := [.p 0, .k 0]) (dd := []) (md := []) h (by decide) (by decide) (by decide)
theorem bd_Lagsx_containsx : Bds K d_Lagsx_containsx P_Lagsx_containsx := fun fd F => F.bindsN fun _ _ _ _ _ _ us hl => match us, hl with | [_, _], _ => rfl
def m_Lagsx_containsx : M Fl := sRet (mAndV (mFn 1 0 (fun ds _ => ds) F_is_integer (aCons (vR 1) (aNil)) (aNil)) (mAndV (m2 geD (vR 1) (mPure (.int 0))) (mFn 2 0 (fun ds _ => ds) F_flag_at (aCons (m1 (fldD [0, 1]) (vR 0)) (aCons (vR 1) (aNil))) (aNil))))
def F_Lagsx_containsx : List D → Option D := runD 2 m_Lagsx_containsx
theorem b_Lagsx_containsx (x : Fx K h mg) : BodyX P w K mg base d_Lagsx_containsx N_Lagsx_containsx 1 m_Lagsx_containsx := fun cdv A outer s H E hr hgd G => dss_one (ds_ret (de_and (dcall (d := d_is_integer) (ok_is_integer x) (KBs.all bd_is_integer) hr hgd (x.g_is_integer) rfl (da_cons (de_v 1 (pv 1)) (da_nil)) (dk_nil)) (de_and (de_cmpD op_geD (de_v 1 (pv 1)) (de_int) (nomark _)) (de_one (dcall (d := d_flag_at) (ok_flag_at x) (KBs.all bd_flag_at) hr hgd (x.g_flag_at) rfl (da_cons (de_fld (cs := [0, 1]) (de_v 0 (pv 0)) (by intro c hc; simp only [List.mem_cons, List.not_mem_nil, or_false] at hc; rcases hc with rfl | rfl <;> first | exact ⟨_, (x.c_Lags), (x.na_Lags_form), rfl⟩ | exact ⟨_, (x.c_FormedLags), (x.na_FormedLags_form), rfl⟩)) (da_cons (de_v 1 (pv 1)) (da_nil))) (dk_nil))))))
theorem ok_Lagsx_containsx (x : Fx K h mg) : Dn P w K mg base d_Lagsx_containsx 2 P_Lagsx_containsx (spD K mg 2 F_Lagsx_containsx) := dnD (x.cx.def_ 37 (d := d_Lagsx_containsx)) sc_Lagsx_containsx (b_Lagsx_containsx x)
def inX : D → D → Option D := (fun a b => ((inD false) a b).or ((inO false [0, 1] F_Lagsx_containsx) a b))
theorem kb_Lagsx_initx_1 (x : Fx K h mg) : KIs K mg d_Lagsx_initx P_Lagsx_initx 1 [] (fun ds es => pick [.p 0, .d 1, .d 2] ds [(.tup []), (.tup []), (.int 1)] [] es) := fun fd F => by
  obtain ⟨its, h⟩ := F.kbindsD (ps := P_Lagsx_initx) 2 [] (fun us its ws => pick (.p 0 :: ([.p 0, .d 1, .d 2] : List Src).map Src.up) us its [] ws) (by simp [d_Lagsx_initx]) (fun a b d => pick_vals a b .nil d _) (fun _ _ _ _ _ _ _ us its ws h1 h2 h4 => match us, its, ws, h1, h2, h4 with | [_, _], [_, _, _], [], _, _, _ => ⟨_, rfl, rfl⟩)
  exact KI.ofV (src := [.p 0, .d 1, .d 2]) (dv := d_Lagsx_initx.dfl K) (dd := [(.tup []), (.tup []), (.int 1)]) (md := []) h (fun H => .cons (tupE_ok (x.td_Lagsx_initx_0) H) (.cons (tupE_ok (x.td_Lagsx_initx_1) H) (.cons (.int _) (.nil)))) (by decide) (by decide) (by decide)
theorem bd_law_members : Bds K d_law_members P_law_members := fun fd F => F.bindsN fun _ _ _ _ _ _ us hl => match us, hl with | [_, _, _, _, _], _ => rfl
def m_law_members : M Fl := sSeq (sFor (mBind (vR 4) fun d => mLift (iterD d)) (gN 5) (sIf (mB (m2 neX (mCall reprX (aCons (m2 inX (vR 5) (vR 0)) (aNil))) (mCall reprX (aCons (mFn 4 0 (fun ds _ => ds) F_law_in (aCons (vR 1) (aCons (vR 2) (aCons (vR 3) (aCons (vR 5) (aNil))))) (aNil)) (aNil))))) (sRet (mPure (.bl false))) (sNil))) (sSeq (sSet 6 (mBind (mLst (aCons (mPure (.bl true)) (aCons (mPure (.bl false)) (aCons (mPure .non) (aCons (mPure (.str "0")) (aCons (mPure (.str "")) (aCons (mTup (aNil)) (aCons (mTup (aCons (mPure (.int 1)) (aNil))) (aCons (mBind (mLst (aCons (mPure (.int 1)) (aNil))) fun l => mPure (.lst l)) (aCons (mPure (.dic [] [])) (aCons (mMk 0 1 0 (fun ds es => pick [.p 0, .d 1, .d 2] ds [(.tup []), (.tup []), (.int 1)] [] es) F_Lagsx_initx (aCons (mTup (aCons (mPure (.int 0)) (aNil))) (aNil)) (aNil)) (aNil)))))))))))) fun l => mPure (.lst l))) (sRet (m2 eqX (mBind (mLc (mBind (aCons (mPure (.int 10)) (aNil)) fun l => mLift (rng1 l)) (gN 7) (mB (m2 neX (mCall reprX (aCons (m2 inX (m2 ixD (vR 6) (vR 7)) (vR 0)) (aNil))) (mPure (.str "False")))) (vR 7) [7]) fun l => mPure (.lst l)) (mBind (mLst (aNil)) fun l => mPure (.lst l)))))
def F_law_members : List D → Option D := runD 8 m_law_members
theorem b_law_members (x : Fx K h mg) : BodyX P w K mg base d_law_members N_law_members 4 m_law_members := fun cdv A outer s H E hr hgd G => dss_cons (ds_for PassesOwn.never rfl (di_any (de_v 4 (pv 4))) (dg_name 5 sc_law_members.nd rfl (.inl rfl)) (dss_one (ds_if (dt_cmpD (opD_or (op_neDD (roomN hr)) (dne (te_Lagsx_eqx x) (x.if_Lagsx_eqx) (ok_Lagsx_eqx x) rfl bd_Lagsx_eqx hr hgd)) (de_cB (callD_or (c_repr (roomN hr) hgd) (drepr (d := d_Lagsx_reprx) (by intro c hc; simp only [List.mem_cons, List.not_mem_nil, or_false] at hc; rcases hc with rfl | rfl <;> first | exact ⟨⟨_, (x.c_Lags), (x.srepr_Lags)⟩⟩ | exact ⟨⟨_, (x.c_FormedLags), (x.srepr_FormedLags)⟩⟩) (x.if_Lagsx_reprx) (ok_Lagsx_reprx x) bd_Lagsx_reprx hr hgd)) rfl (x.f_repr) rfl (da_cons (de_cmpD (opD_or op_inDD (dinY (d := d_Lagsx_containsx) (by intro c hc; simp only [List.mem_cons, List.not_mem_nil, or_false] at hc; rcases hc with rfl | rfl <;> first | exact ⟨⟨_, (x.c_Lags), (x.ct_Lags)⟩⟩ | exact ⟨⟨_, (x.c_FormedLags), (x.ct_FormedLags)⟩⟩) (x.if_Lagsx_containsx) (ok_Lagsx_containsx x) rfl bd_Lagsx_containsx hr hgd)) (de_v 5 (pv 5)) (de_v 0 (pv 0)) rfl) (da_nil))) (de_cB (callD_or (c_repr (roomN hr) hgd) (drepr (d := d_Lagsx_reprx) (by intro c hc; simp only [List.mem_cons, List.not_mem_nil, or_false] at hc; rcases hc with rfl | rfl <;> first | exact ⟨⟨_, (x.c_Lags), (x.srepr_Lags)⟩⟩ | exact ⟨⟨_, (x.c_FormedLags), (x.srepr_FormedLags)⟩⟩) (x.if_Lagsx_reprx) (ok_Lagsx_reprx x) bd_Lagsx_reprx hr hgd)) rfl (x.f_repr) rfl (da_cons (dcall (d := d_law_in) (ok_law_in x) (KBs.all bd_law_in) hr hgd (x.g_law_in) rfl (da_cons (de_v 1 (pv 1)) (da_cons (de_v 2 (pv 2)) (da_cons (de_v 3 (pv 3)) (da_cons (de_v 5 (pv 5)) (da_nil))))) (dk_nil)) (da_nil))) (nomark _)) (dss_one (ds_ret (de_bl))) (dss_nil)))) (dss_cons (ds_set 6 sc_law_members.nd rfl (.inr rfl) (DF.de (df_lst (da_cons (de_bl) (da_cons (de_bl) (da_cons (de_non) (da_cons (de_str) (da_cons (de_str) (da_cons (de_tup (da_nil)) (da_cons (de_tup (da_cons (de_int) (da_nil))) (da_cons (DF.de (df_lst (da_cons (de_int) (da_nil)))) (da_cons (de_dict0) (da_cons (dmk (d := d_Lagsx_initx) (c := 0) (x.mk_Lags) (ok_Lagsx_initx x) (kb_Lagsx_initx_1 x) hr hgd (x.c_Lags).g rfl rfl (da_cons (de_tup (da_cons (de_int) (da_nil))) (da_nil)) (dk_nil)) (da_nil)))))))))))))) (dss_one (ds_ret (de_cmpD (opD_or (op_eqDD (roomN hr)) (deq (te_Lagsx_eqx x) (x.if_Lagsx_eqx) (ok_Lagsx_eqx x) rfl bd_Lagsx_eqx hr hgd)) (DF.de (df_lc (own := [("_law_k", 7)]) rfl sc_law_members.nd (di_range1 rfl (x.f_range) (da_cons (de_int) (da_nil))) (blkOk_by (own := [("_law_k", 7)]) (N := N_law_members) (sc := d_law_members.scope) (by decide +kernel)) (by decide) (fun _ _ _ _ _ _ => dg_name 7 sc_law_members.nd rfl (.inl rfl)) (fun _ _ _ _ _ _ => dts_one (dt_cmpD (opD_or (op_neDD (roomN hr)) (dne (te_Lagsx_eqx x) (x.if_Lagsx_eqx) (ok_Lagsx_eqx x) rfl bd_Lagsx_eqx hr hgd)) (de_cB (callD_or (c_repr (roomN hr) hgd) (drepr (d := d_Lagsx_reprx) (by intro c hc; simp only [List.mem_cons, List.not_mem_nil, or_false] at hc; rcases hc with rfl | rfl <;> first | exact ⟨⟨_, (x.c_Lags), (x.srepr_Lags)⟩⟩ | exact ⟨⟨_, (x.c_FormedLags), (x.srepr_FormedLags)⟩⟩) (x.if_Lagsx_reprx) (ok_Lagsx_reprx x) bd_Lagsx_reprx hr hgd)) rfl (x.f_repr) rfl (da_cons (de_cmpD (opD_or op_inDD (dinY (d := d_Lagsx_containsx) (by intro c hc; simp only [List.mem_cons, List.not_mem_nil, or_false] at hc; rcases hc with rfl | rfl <;> first | exact ⟨⟨_, (x.c_Lags), (x.ct_Lags)⟩⟩ | exact ⟨⟨_, (x.c_FormedLags), (x.ct_FormedLags)⟩⟩) (x.if_Lagsx_containsx) (ok_Lagsx_containsx x) rfl bd_Lagsx_containsx hr hgd)) (de_ix (de_v 6 (pv 6)) (de_v 7 (pv 7))) (de_v 0 (pv 0)) rfl) (da_nil))) (de_str) (nomark _))) (fun _ _ _ _ _ _ => de_v 7 (pv 7)))) (DF.de (df_lst (da_nil))) (nomark _)))))
theorem ok_law_members (x : Fx K h mg) : Dn P w K mg base d_law_members 5 P_law_members (spD K mg 5 F_law_members) := dnD (x.cx.def_ 38 (d := d_law_members)) sc_law_members (b_law_members x)
theorem bd_law_right : Bds K d_law_right P_law_right := fun fd F => F.bindsN fun _ _ _ _ _ _ us hl => match us, hl with | [_, _, _, _], _ => rfl
def m_law_right : M Fl := sSeq (sSet 4 (m2 addD (mCall maxD (aCons (m2 addD (m2 addD (mBind (mLst (aCons (m1 negD (mPure (.int 1))) (aNil))) fun l => mPure (.lst l)) (vR 1)) (vR 2)) (aNil))) (mPure (.int 1)))) (sSeq (sSet 5 (mFn 4 0 (fun ds _ => ds) F_law_flags (aCons (vR 1) (aCons (vR 2) (aCons (vR 3) (aCons (m2 addD (m2 addD (vR 4) (m2 mulD (mPure (.int 2)) (vR 3))) (mPure (.int 1000))) (aNil))))) (aNil))) (sSeq (sPar 6 7 (aCons (mMk 0 3 0 (fun ds es => pick [.p 0, .p 1, .p 2] ds [(.tup []), (.tup []), (.int 1)] [] es) F_Lagsx_initx (aCons (mCall tupleD (aCons (vR 1) (aNil))) (aCons (mCall tupleD (aCons (vR 2) (aNil))) (aCons (vR 3) (aNil)))) (aNil)) (aCons (mFn 3 0 (fun ds _ => ds) F_law_form (aCons (vR 5) (aCons (vR 4) (aCons (vR 3) (aNil)))) (aNil)) (aNil)))) (sSeq (sFor (mBind (aCons (mPure (.int 2)) (aNil)) fun l => mLift (rng1 l)) (gN 8) (sSeq (sSet 9 (m2 ixD (mBind (mLst (aCons (mPure (.int 0)) (aCons (mPure (.int 1000)) (aCons (m1 negD (mPure (.int 1000))) (aCons (m2 subD (mFnW 0 2 F_law_draw (aCons (mPure (.int 81)) (aNil))) (mPure (.int 40))) (aCons (m2 subD (mFnW 0 2 F_law_draw (aCons (mPure (.int 2001)) (aNil))) (mPure (.int 1000))) (aNil))))))) fun l => mPure (.lst l)) (mFnW 0 2 F_law_draw (aCons (mPure (.int 5)) (aNil))))) (sSeq (sIf (mNot (mTru (mFn 5 0 (fun ds _ => ds) F_law_moved (aCons (vR 6) (aCons (vR 5) (aCons (vR 4) (aCons (vR 3) (aCons (vR 9) (aNil)))))) (aNil)))) (sRet (mPure (.bl false))) (sNil)) (sSeq (sSet 10 (m2 ixD (mBind (mLst (aCons (mPure (.int 0)) (aCons (mPure (.int 5000)) (aCons (mFnW 0 2 F_law_draw (aCons (mPure (.int 60)) (aNil))) (aCons (mFnW 0 2 F_law_draw (aCons (mPure (.int 5001)) (aNil))) (aNil)))))) fun l => mPure (.lst l)) (mFnW 0 2 F_law_draw (aCons (mPure (.int 4)) (aNil))))) (sSeq (sSet 11 (mCall tupleD (aCons (mBind (mLc (mBind (aCons (m2 addD (vR 10) (mPure (.int 1))) (aNil)) fun l => mLift (rng1 l)) (gN 12) (mTru (mFn 4 0 (fun ds _ => ds) F_law_in (aCons (vR 5) (aCons (vR 4) (aCons (vR 3) (aCons (vR 12) (aNil))))) (aNil))) (vR 12) [12]) fun l => mPure (.lst l)) (aNil)))) (sIf (mOr (mB (m2 neX (mCall reprX (aCons (mMe 2 [0, 1] F_Lags_upto (vR 6) (aCons (vR 10) (aNil))) (aNil))) (mCall reprX (aCons (vR 11) (aNil))))) (mB (m2 neX (mMeK 1 [0, 1] (fun ds es => pick [.p 0, .k 0] ds [] [] es) F_Lags_upto (vR 6) (aCons (vR 10) (aNil))) (vR 11)))) (sRet (mPure (.bl false))) (sNil))))))) (sSeq (sSet 13 (m2 addD (m2 addD (mBind (mCallF rngL2 (aCons (m1 negD (mPure (.int 3))) (aCons (mPure (.int 12)) (aNil)))) fun l => mPure (.lst l)) (mBind (mCallF rngL2 (aCons (m2 subD (vR 4) (mPure (.int 2))) (aCons (m2 addD (vR 4) (mPure (.int 9))) (aNil)))) fun l => mPure (.lst l))) (mBind (mLst (aCons (m1 negD (m2 powD (mPure (.int 10)) (mPure (.int 39)))) (aNil))) fun l => mPure (.lst l)))) (sSeq (sSet 13 (m2 addD (vR 13) (mBind (mLst (aCons (m2 addD (m2 powD (mPure (.int 10)) (mPure (.int 39))) (mFnW 0 2 F_law_draw (aCons (mPure (.int 99)) (aNil)))) (aCons (mFnW 0 2 F_law_draw (aCons (mPure (.int 9999)) (aNil))) (aNil)))) fun l => mPure (.lst l)))) (sRet (mAndV (mFn 5 0 (fun ds _ => ds) F_law_members (aCons (vR 6) (aCons (vR 5) (aCons (vR 4) (aCons (vR 3) (aCons (vR 13) (aNil)))))) (aNil)) (mFn 2 0 (fun ds _ => ds) F_law_is (aCons (vR 6) (aCons (vR 7) (aNil))) (aNil)))))))))
def F_law_right : List D → List D → Option (D × List D) := runW 14 m_law_right
theorem b_law_right (x : Fx K h mg) (tb : Tb K mg base) : BodyLX P w K mg base d_law_right N_law_right 8 (tabsOf K lamF) m_law_right := fun A outer s H E hr hgd G eT => dss_cons (ds_set 4 sc_law_right.nd rfl (.inr rfl) (de_opD op_addD (de_cB (c_max rfl) rfl (x.f_max) rfl (da_cons (de_opD op_addD (de_opD op_addD (DF.de (df_lst (da_cons (de_neg (de_int)) (da_nil)))) (de_v 1 (pv 1))) (de_v 2 (pv 2))) (da_nil))) (de_int))) (dss_cons (ds_set 5 sc_law_right.nd rfl (.inr rfl) (dcall (d := d_law_flags) (ok_law_flags x) (KBs.all bd_law_flags) hr hgd (x.g_law_flags) rfl (da_cons (de_v 1 (pv 1)) (da_cons (de_v 2 (pv 2)) (da_cons (de_v 3 (pv 3)) (da_cons (de_opD op_addD (de_opD op_addD (de_v 4 (pv 4)) (de_opD op_mulD (de_int) (de_v 3 (pv 3)))) (de_int)) (da_nil))))) (dk_nil))) (dss_cons (ds_par 6 7 rfl sc_law_right.nd rfl rfl (by decide) rfl rfl (da_cons (dmk (d := d_Lagsx_initx) (c := 0) (x.mk_Lags) (ok_Lagsx_initx x) (kb_Lagsx_initx_3 x) hr hgd (x.c_Lags).g rfl rfl (da_cons (de_cT c_tuple rfl (x.f_tuple) rfl (da_cons (de_v 1 (pv 1)) (da_nil))) (da_cons (de_cT c_tuple rfl (x.f_tuple) rfl (da_cons (de_v 2 (pv 2)) (da_nil))) (da_cons (de_v 3 (pv 3)) (da_nil)))) (dk_nil)) (da_cons (dcall (d := d_law_form) (ok_law_form x) (KBs.all bd_law_form) hr hgd (x.g_law_form) rfl (da_cons (de_v 5 (pv 5)) (da_cons (de_v 4 (pv 4)) (da_cons (de_v 3 (pv 3)) (da_nil)))) (dk_nil)) (da_nil))) (by rfl)) (dss_cons (ds_for PassesOwn.never rfl (di_range1 rfl (x.f_range) (da_cons (de_int) (da_nil))) (dg_name 8 sc_law_right.nd rfl (.inl rfl)) (dss_cons (ds_set 9 sc_law_right.nd rfl (.inl rfl) (de_ix (DF.de (df_lst (da_cons (de_int) (da_cons (de_int) (da_cons (de_neg (de_int)) (da_cons (de_opD op_subD (dcallW (d := d_law_draw) 0 (pv 0) (ok_law_draw x) bd_law_draw hr hgd (x.g_law_draw) rfl (da_cons (de_int) (da_nil))) (de_int)) (da_cons (de_opD op_subD (dcallW (d := d_law_draw) 0 (pv 0) (ok_law_draw x) bd_law_draw hr hgd (x.g_law_draw) rfl (da_cons (de_int) (da_nil))) (de_int)) (da_nil)))))))) (dcallW (d := d_law_draw) 0 (pv 0) (ok_law_draw x) bd_law_draw hr hgd (x.g_law_draw) rfl (da_cons (de_int) (da_nil))))) (dss_cons (ds_if (dt_not (dt_of (dcallL (d := d_law_moved) eT fl_ne (ok_law_moved x tb) (KBs.all bd_law_moved) hr hgd (x.g_law_moved) rfl (da_cons (de_v 6 (pv 6)) (da_cons (de_v 5 (pv 5)) (da_cons (de_v 4 (pv 4)) (da_cons (de_v 3 (pv 3)) (da_cons (de_v 9 (pv 9)) (da_nil)))))) (dk_nil)))) (dss_one (ds_ret (de_bl))) (dss_nil)) (dss_cons (ds_set 10 sc_law_right.nd rfl (.inl rfl) (de_ix (DF.de (df_lst (da_cons (de_int) (da_cons (de_int) (da_cons (dcallW (d := d_law_draw) 0 (pv 0) (ok_law_draw x) bd_law_draw hr hgd (x.g_law_draw) rfl (da_cons (de_int) (da_nil))) (da_cons (dcallW (d := d_law_draw) 0 (pv 0) (ok_law_draw x) bd_law_draw hr hgd (x.g_law_draw) rfl (da_cons (de_int) (da_nil))) (da_nil))))))) (dcallW (d := d_law_draw) 0 (pv 0) (ok_law_draw x) bd_law_draw hr hgd (x.g_law_draw) rfl (da_cons (de_int) (da_nil))))) (dss_cons (ds_set 11 sc_law_right.nd rfl (.inl rfl) (de_cT c_tuple rfl (x.f_tuple) rfl (da_cons (DF.de (df_lc (own := [("_law_k", 12)]) rfl sc_law_right.nd (di_range1 rfl (x.f_range) (da_cons (de_opD op_addD (de_v 10 (pv 10)) (de_int)) (da_nil))) (blkOk_by (own := [("_law_k", 12)]) (N := N_law_right) (sc := d_law_right.scope) (by decide +kernel)) (by decide) (fun _ _ _ _ _ _ => dg_name 12 sc_law_right.nd rfl (.inl rfl)) (fun _ _ _ _ _ _ => dts_one (dt_of (dcall (d := d_law_in) (ok_law_in x) (KBs.all bd_law_in) hr hgd (x.g_law_in) rfl (da_cons (de_v 5 (pv 5)) (da_cons (de_v 4 (pv 4)) (da_cons (de_v 3 (pv 3)) (da_cons (de_v 12 (pv 12)) (da_nil))))) (dk_nil)))) (fun _ _ _ _ _ _ => de_v 12 (pv 12)))) (da_nil)))) (dss_one (ds_if (DW.dt (dw_or (dt_cmpD (opD_or (op_neDD (roomN hr)) (dne (te_Lagsx_eqx x) (x.if_Lagsx_eqx) (ok_Lagsx_eqx x) rfl bd_Lagsx_eqx hr hgd)) (de_cB (callD_or (c_repr (roomN hr) hgd) (drepr (d := d_Lagsx_reprx) (by intro c hc; simp only [List.mem_cons, List.not_mem_nil, or_false] at hc; rcases hc with rfl | rfl <;> first | exact ⟨⟨_, (x.c_Lags), (x.srepr_Lags)⟩⟩ | exact ⟨⟨_, (x.c_FormedLags), (x.srepr_FormedLags)⟩⟩) (x.if_Lagsx_reprx) (ok_Lagsx_reprx x) bd_Lagsx_reprx hr hgd)) rfl (x.f_repr) rfl (da_cons (dmeth (d := d_Lags_upto) (cs := [0, 1]) (de_v 6 (pv 6)) (by intro c hc; simp only [List.mem_cons, List.not_mem_nil, or_false] at hc; rcases hc with rfl | rfl <;> first | exact ⟨_, (x.c_Lags), (x.mt_Lags_upto), by decide⟩ | exact ⟨_, (x.c_FormedLags), methSub (x.me_FormedLags_upto) (x.mt_FormedLags_upto), by decide⟩) (ok_Lags_upto x) bd_Lags_upto hr hgd (da_cons (de_v 10 (pv 10)) (da_nil))) (da_nil))) (de_cB (callD_or (c_repr (roomN hr) hgd) (drepr (d := d_Lagsx_reprx) (by intro c hc; simp only [List.mem_cons, List.not_mem_nil, or_false] at hc; rcases hc with rfl | rfl <;> first | exact ⟨⟨_, (x.c_Lags), (x.srepr_Lags)⟩⟩ | exact ⟨⟨_, (x.c_FormedLags), (x.srepr_FormedLags)⟩⟩) (x.if_Lagsx_reprx) (ok_Lagsx_reprx x) bd_Lagsx_reprx hr hgd)) rfl (x.f_repr) rfl (da_cons (de_v 11 (pv 11)) (da_nil))) (nomark _)) (dw_or1 (dt_cmpD (opD_or (op_neDD (roomN hr)) (dne (te_Lagsx_eqx x) (x.if_Lagsx_eqx) (ok_Lagsx_eqx x) rfl bd_Lagsx_eqx hr hgd)) (dmethK (d := d_Lags_upto) (cs := [0, 1]) (de_v 6 (pv 6)) (by intro c hc; simp only [List.mem_cons, List.not_mem_nil, or_false] at hc; rcases hc with rfl | rfl <;> first | exact ⟨_, (x.c_Lags), (x.mt_Lags_upto), by decide⟩ | exact ⟨_, (x.c_FormedLags), methSub (x.me_FormedLags_upto) (x.mt_FormedLags_upto), by decide⟩) (ok_Lags_upto x) kb_Lags_upto_1_limit hr hgd (dk_cons (de_v 10 (pv 10)) (dk_nil))) (de_v 11 (pv 11)) (nomark _))))) (dss_one (ds_ret (de_bl))) (dss_nil)))))))) (dss_cons (ds_set 13 sc_law_right.nd rfl (.inl rfl) (de_opD op_addD (de_opD op_addD (DF.de (df_listR2 hr rfl (x.f_list) rfl (x.f_range) (da_cons (de_neg (de_int)) (da_cons (de_int) (da_nil))))) (DF.de (df_listR2 hr rfl (x.f_list) rfl (x.f_range) (da_cons (de_opD op_subD (de_v 4 (pv 4)) (de_int)) (da_cons (de_opD op_addD (de_v 4 (pv 4)) (de_int)) (da_nil)))))) (DF.de (df_lst (da_cons (de_neg (de_opD op_powD (de_int) (de_int))) (da_nil)))))) (dss_cons (ds_set 13 sc_law_right.nd rfl (.inl rfl) (de_opD op_addD (de_v 13 (pv 13)) (DF.de (df_lst (da_cons (de_opD op_addD (de_opD op_powD (de_int) (de_int)) (dcallW (d := d_law_draw) 0 (pv 0) (ok_law_draw x) bd_law_draw hr hgd (x.g_law_draw) rfl (da_cons (de_int) (da_nil)))) (da_cons (dcallW (d := d_law_draw) 0 (pv 0) (ok_law_draw x) bd_law_draw hr hgd (x.g_law_draw) rfl (da_cons (de_int) (da_nil))) (da_nil))))))) (dss_one (ds_ret (de_and (dcall (d := d_law_members) (ok_law_members x) (KBs.all bd_law_members) hr hgd (x.g_law_members) rfl (da_cons (de_v 6 (pv 6)) (da_cons (de_v 5 (pv 5)) (da_cons (de_v 4 (pv 4)) (da_cons (de_v 3 (pv 3)) (da_cons (de_v 13 (pv 13)) (da_nil)))))) (dk_nil)) (de_one (dcall (d := d_law_is) (ok_law_is x) (KBs.all bd_law_is) hr hgd (x.g_law_is) rfl (da_cons (de_v 6 (pv 6)) (da_cons (de_v 7 (pv 7)) (da_nil))) (dk_nil)))))))))))
theorem ok_law_right (x : Fx K h mg) (tb : Tb K mg base) : Dn P w K mg base d_law_right 9 P_law_right (spWL K mg (tabsOf K lamF) 4 F_law_right) := dnWL (x.cx.def_ 39 (d := d_law_right)) sc_law_right (b_law_right x tb)
theorem bd_law_some : Bds K d_law_some P_law_some := fun fd F => F.bindsN fun _ _ _ _ _ _ us hl => match us, hl with | [_, _, _], _ => rfl
def m_law_some : M Fl := sRet (mBind (mLc (mBind (aCons (mFnW 0 2 F_law_draw (aCons (m2 addD (vR 1) (mPure (.int 1))) (aNil))) (aNil)) fun l => mLift (rng1 l)) (gN 3) (mPure true) (mFnW 0 2 F_law_draw (aCons (m2 addD (vR 2) (mPure (.int 1))) (aNil))) [3]) fun l => mPure (.lst l))
def F_law_some : List D → List D → Option (D × List D) := runW 4 m_law_some
theorem b_law_some (x : Fx K h mg) : BodyX P w K mg base d_law_some N_law_some 1 m_law_some := fun cdv A outer s H E hr hgd G => dss_one (ds_ret (DF.de (df_lc (own := [("_law_k", 3)]) rfl sc_law_some.nd (di_range1 rfl (x.f_range) (da_cons (dcallW (d := d_law_draw) 0 (pv 0) (ok_law_draw x) bd_law_draw hr hgd (x.g_law_draw) rfl (da_cons (de_opD op_addD (de_v 1 (pv 1)) (de_int)) (da_nil))) (da_nil))) (blkOk_by (own := [("_law_k", 3)]) (N := N_law_some) (sc := d_law_some.scope) (by decide +kernel)) (by decide) (fun _ _ _ _ _ _ => dg_name 3 sc_law_some.nd rfl (.inl rfl)) (fun _ _ _ _ _ _ => dts_nil) (fun _ _ _ _ _ _ => dcallW (d := d_law_draw) 0 (pv 0) (ok_law_draw x) bd_law_draw hr hgd (x.g_law_draw) rfl (da_cons (de_opD op_addD (de_v 2 (pv 2)) (de_int)) (da_nil))))))
theorem ok_law_some (x : Fx K h mg) : Dn P w K mg base d_law_some 2 P_law_some (spW K mg 3 F_law_some) := dnW (x.cx.def_ 40 (d := d_law_some)) sc_law_some (b_law_some x)
theorem bd_law : Bds K d_law P_law := fun fd F => F.bindsN fun _ _ _ _ _ _ us hl => match us, hl with | [_], _ => rfl
def m_law : M Fl := sSeq (sFor (mBind (aCons (mCall maxD (aCons (mPure (.int 2)) (aCons (mCall minD (aCons (mCall lenD (aCons (vR 0) (aNil))) (aCons (mPure (.int 4)) (aNil)))) (aNil)))) (aNil)) fun l => mLift (rng1 l)) (gN 1) (sSeq (sOwn 2 (mFn 2 0 (fun ds _ => ds) F_law_well (aCons (vR 0) (aCons (vR 1) (aNil))) (aNil))) (sSeq (sPar 3 4 (aCons (m2 ixD (mBind (mLst (aCons (mPure (.int 5)) (aCons (mPure (.int 40)) (aCons (mPure (.int 1000)) (aNil))))) fun l => mPure (.lst l)) (mFnW 2 2 F_law_draw (aCons (mPure (.int 3)) (aNil)))) (aCons (m2 addD (mPure (.int 1)) (mFnW 2 2 F_law_draw (aCons (m2 ixD (mBind (mLst (aCons (mPure (.int 4)) (aCons (mPure (.int 60)) (aNil)))) fun l => mPure (.lst l)) (mFnW 2 2 F_law_draw (aCons (mPure (.int 2)) (aNil)))) (aNil)))) (aNil)))) (sIf (mNot (mTru (mFnW 2 4 F_law_right (aCons (mFnW 2 3 F_law_some (aCons (mPure (.int 4)) (aCons (vR 3) (aNil)))) (aCons (mFnW 2 3 F_law_some (aCons (mPure (.int 3)) (aCons (vR 3) (aNil)))) (aCons (vR 4) (aNil))))))) (sRet (mPure (.bl false))) (sNil))))) (sSeq (sSet 5 (mBind (mLst (aCons (mPure (.str "much")) (aCons (mPure (.str "much")) (aCons (mPure (.str "much")) (aNil))))) fun l => mPure (.lst l))) (sSeq (sOwn 6 (mLst (aCons (mHear caught (xMe 2 [0, 1] FX_Lags_shifted (mUp (mMk 0 1 0 (fun ds es => pick [.p 0, .d 1, .d 2] ds [(.tup []), (.tup []), (.int 1)] [] es) F_Lagsx_initx (aCons (mTup (aCons (mPure (.int 1000)) (aNil))) (aNil)) (aNil))) (mUp (aCons (mPure (.int 1000)) (aNil))))) (aNil)))) (sSeq (sAppend 6 (mHear caught (xMe 2 [0, 1] FX_Lags_shifted (mUp (mMk 0 3 0 (fun ds es => pick [.p 0, .p 1, .p 2] ds [(.tup []), (.tup []), (.int 1)] [] es) F_Lagsx_initx (aCons (mTup (aCons (mPure (.int 0)) (aNil))) (aCons (mTup (aCons (mPure (.int 1000)) (aNil))) (aCons (mPure (.int 60)) (aNil)))) (aNil))) (mUp (aCons (mPure (.int 1000)) (aNil)))))) (sSeq (sAppend 6 (mHear caught (xMe 2 [0, 1] FX_Lags_shifted (mUp (mMk 0 1 0 (fun ds es => pick [.p 0, .d 1, .d 2] ds [(.tup []), (.tup []), (.int 1)] [] es) F_Lagsx_initx (aCons (mTup (aCons (mPure (.int 999)) (aNil))) (aNil)) (aNil))) (mUp (aCons (mPure (.int 1000)) (aNil)))))) (sSeq (frz 6 (sSet 7 (mMe 2 [0, 1] F_Lags_shifted (mMk 0 1 0 (fun ds es => pick [.p 0, .d 1, .d 2] ds [(.tup []), (.tup []), (.int 1)] [] es) F_Lagsx_initx (aCons (mTup (aCons (mPure (.int 998)) (aNil))) (aNil)) (aNil)) (aCons (mPure (.int 1000)) (aNil))))) (sRet (mAndV (m2 eqX (mBind (mLc (mBind (vR 6) fun d => mLift (iterD d)) (gN 8) (mPure true) (m2 ixD (vR 8) (mPure (.int 1))) [8]) fun l => mPure (.lst l)) (vR 5)) (mAndV (m2 eqX (mMe0 [0, 1] F_Lags_start (vR 7)) (mPure (.int 1999))) (m2 eqX (mMe0 [0, 1] F_Lags_members (vR 7)) (mTup (aCons (mPure (.int 1998)) (aNil))))))))))))
def F_law : List D → Option D := runD 9 m_law
theorem b_law (x : Fx K h mg) (tb : Tb K mg base) : BodyLX P w K mg base d_law N_law 9 (tabsOf K lamF) m_law := fun A outer s H E hr hgd G eT => dss_cons (ds_for PassesOwn.never rfl (di_range1 rfl (x.f_range) (da_cons (de_cB (c_max rfl) rfl (x.f_max) rfl (da_cons (de_int) (da_cons (de_cB (c_min rfl) rfl (x.f_min) rfl (da_cons (de_cB c_len rfl (x.f_len) rfl (da_cons (de_v 0 (pv 0)) (da_nil))) (da_cons (de_int) (da_nil)))) (da_nil)))) (da_nil))) (dg_name 1 sc_law.nd rfl (.inl rfl)) (dss_cons (ds_own 2 (by decide) sc_law.nd rfl (.inl rfl) (dcallF (d := d_law_well) (ok_law_well x) (KBs.all bd_law_well) hr hgd (x.g_law_well) rfl (da_cons (de_v 0 (pv 0)) (da_cons (de_v 1 (pv 1)) (da_nil))) (dk_nil))) (dss_cons (ds_par 3 4 rfl sc_law.nd rfl rfl (by decide) rfl rfl (da_cons (de_ix (DF.de (df_lst (da_cons (de_int) (da_cons (de_int) (da_cons (de_int) (da_nil)))))) (dcallW (d := d_law_draw) 2 (pv 2) (ok_law_draw x) bd_law_draw hr hgd (x.g_law_draw) rfl (da_cons (de_int) (da_nil)))) (da_cons (de_opD op_addD (de_int) (dcallW (d := d_law_draw) 2 (pv 2) (ok_law_draw x) bd_law_draw hr hgd (x.g_law_draw) rfl (da_cons (de_ix (DF.de (df_lst (da_cons (de_int) (da_cons (de_int) (da_nil))))) (dcallW (d := d_law_draw) 2 (pv 2) (ok_law_draw x) bd_law_draw hr hgd (x.g_law_draw) rfl (da_cons (de_int) (da_nil)))) (da_nil)))) (da_nil))) (by rfl)) (dss_one (ds_if (dt_not (dt_of (dcallWL (d := d_law_right) eT fl_ne 2 (pv 2) (ok_law_right x tb) bd_law_right hr hgd (x.g_law_right) rfl (da_cons (dcallW (d := d_law_some) 2 (pv 2) (ok_law_some x) bd_law_some hr hgd (x.g_law_some) rfl (da_cons (de_int) (da_cons (de_v 3 (pv 3)) (da_nil)))) (da_cons (dcallW (d := d_law_some) 2 (pv 2) (ok_law_some x) bd_law_some hr hgd (x.g_law_some) rfl (da_cons (de_int) (da_cons (de_v 3 (pv 3)) (da_nil)))) (da_cons (de_v 4 (pv 4)) (da_nil))))))) (dss_one (ds_ret (de_bl))) (dss_nil)))))) (dss_cons (ds_set 5 sc_law.nd rfl (.inl rfl) (DF.de (df_lst (da_cons (de_str) (da_cons (de_str) (da_cons (de_str) (da_nil))))))) (dss_cons (ds_own 6 (by decide) sc_law.nd rfl (.inl rfl) (df_lst (da_cons (dhear (fl := lamF) (d0 := d_law) (sc := d_law.scope) (k := 5) (j := 1) (Ng := N_law_caught) (x.cx.def_ 12 (d := d_law_caught)) bd_law_caught sc_law_caught (x.g_law_caught) (x.g_WrongValue) (x.g_WrongName) (x.g_NoAnswer) (hits_ok x) eT (by simp [lamF]) x.c.cd x.c.nd tb hr hgd (fun A outer s H E f c1 hr hgd G tk => xmeth (d := d_Lags_shifted) (cs := [0, 1]) tk (ex_up (dmk (d := d_Lagsx_initx) (c := 0) (x.mk_Lags) (ok_Lagsx_initx x) (kb_Lagsx_initx_1 x) hr hgd (x.c_Lags).g rfl rfl (da_cons (de_tup (da_cons (de_int) (da_nil))) (da_nil)) (dk_nil))) (by intro c hc; simp only [List.mem_cons, List.not_mem_nil, or_false] at hc; rcases hc with rfl | rfl <;> first | exact ⟨_, (x.c_Lags), (x.mt_Lags_shifted), by decide⟩ | exact ⟨_, (x.c_FormedLags), methSub (x.me_FormedLags_shifted) (x.mt_FormedLags_shifted), by decide⟩) (okx_Lags_shifted x) bd_Lags_shifted hr hgd (ax_up (da_cons (de_int) (da_nil)))) (fun cdv s H ad pn G => su_law_caught cdv s H ad pn G x) (fun cdv s H G => re_law_caught cdv s H G x) rfl) (da_nil)))) (dss_cons (ds_app 6 (pv 6) (dhear (fl := lamF) (d0 := d_law) (sc := d_law.scope) (k := 5) (j := 1) (Ng := N_law_caught) (x.cx.def_ 12 (d := d_law_caught)) bd_law_caught sc_law_caught (x.g_law_caught) (x.g_WrongValue) (x.g_WrongName) (x.g_NoAnswer) (hits_ok x) eT (by simp [lamF]) x.c.cd x.c.nd tb hr hgd (fun A outer s H E f c1 hr hgd G tk => xmeth (d := d_Lags_shifted) (cs := [0, 1]) tk (ex_up (dmk (d := d_Lagsx_initx) (c := 0) (x.mk_Lags) (ok_Lagsx_initx x) (kb_Lagsx_initx_3 x) hr hgd (x.c_Lags).g rfl rfl (da_cons (de_tup (da_cons (de_int) (da_nil))) (da_cons (de_tup (da_cons (de_int) (da_nil))) (da_cons (de_int) (da_nil)))) (dk_nil))) (by intro c hc; simp only [List.mem_cons, List.not_mem_nil, or_false] at hc; rcases hc with rfl | rfl <;> first | exact ⟨_, (x.c_Lags), (x.mt_Lags_shifted), by decide⟩ | exact ⟨_, (x.c_FormedLags), methSub (x.me_FormedLags_shifted) (x.mt_FormedLags_shifted), by decide⟩) (okx_Lags_shifted x) bd_Lags_shifted hr hgd (ax_up (da_cons (de_int) (da_nil)))) (fun cdv s H ad pn G => su_law_caught cdv s H ad pn G x) (fun cdv s H G => re_law_caught cdv s H G x) rfl)) (dss_cons (ds_app 6 (pv 6) (dhear (fl := lamF) (d0 := d_law) (sc := d_law.scope) (k := 5) (j := 1) (Ng := N_law_caught) (x.cx.def_ 12 (d := d_law_caught)) bd_law_caught sc_law_caught (x.g_law_caught) (x.g_WrongValue) (x.g_WrongName) (x.g_NoAnswer) (hits_ok x) eT (by simp [lamF]) x.c.cd x.c.nd tb hr hgd (fun A outer s H E f c1 hr hgd G tk => xmeth (d := d_Lags_shifted) (cs := [0, 1]) tk (ex_up (dmk (d := d_Lagsx_initx) (c := 0) (x.mk_Lags) (ok_Lagsx_initx x) (kb_Lagsx_initx_1 x) hr hgd (x.c_Lags).g rfl rfl (da_cons (de_tup (da_cons (de_int) (da_nil))) (da_nil)) (dk_nil))) (by intro c hc; simp only [List.mem_cons, List.not_mem_nil, or_false] at hc; rcases hc with rfl | rfl <;> first | exact ⟨_, (x.c_Lags), (x.mt_Lags_shifted), by decide⟩ | exact ⟨_, (x.c_FormedLags), methSub (x.me_FormedLags_shifted) (x.mt_FormedLags_shifted), by decide⟩) (okx_Lags_shifted x) bd_Lags_shifted hr hgd (ax_up (da_cons (de_int) (da_nil)))) (fun cdv s H ad pn G => su_law_caught cdv s H ad pn G x) (fun cdv s H G => re_law_caught cdv s H G x) rfl)) (dss_cons (ds_frz 6 (ds_set 7 sc_law.nd rfl (.inl rfl) (dmeth (d := d_Lags_shifted) (cs := [0, 1]) (dmk (d := d_Lagsx_initx) (c := 0) (x.mk_Lags) (ok_Lagsx_initx x) (kb_Lagsx_initx_1 x) hr hgd (x.c_Lags).g rfl rfl (da_cons (de_tup (da_cons (de_int) (da_nil))) (da_nil)) (dk_nil)) (by intro c hc; simp only [List.mem_cons, List.not_mem_nil, or_false] at hc; rcases hc with rfl | rfl <;> first | exact ⟨_, (x.c_Lags), (x.mt_Lags_shifted), by decide⟩ | exact ⟨_, (x.c_FormedLags), methSub (x.me_FormedLags_shifted) (x.mt_FormedLags_shifted), by decide⟩) (ok_Lags_shifted x) bd_Lags_shifted hr hgd (da_cons (de_int) (da_nil))))) (dss_one (ds_ret (de_and (de_cmpD (opD_or (op_eqDD (roomN hr)) (deq (te_Lagsx_eqx x) (x.if_Lagsx_eqx) (ok_Lagsx_eqx x) rfl bd_Lagsx_eqx hr hgd)) (DF.de (df_lc (own := [("_law_row", 8)]) rfl sc_law.nd (di_any (de_v 6 (pv 6))) (blkOk_by (own := [("_law_row", 8)]) (N := N_law) (sc := d_law.scope) (by decide +kernel)) (by decide) (fun _ _ _ _ _ _ => dg_name 8 sc_law.nd rfl (.inl rfl)) (fun _ _ _ _ _ _ => dts_nil) (fun _ _ _ _ _ _ => de_ix (de_v 8 (pv 8)) (de_int)))) (de_v 5 (pv 5)) (nomark _)) (de_and (de_cmpD (opD_or (op_eqDD (roomN hr)) (deq (te_Lagsx_eqx x) (x.if_Lagsx_eqx) (ok_Lagsx_eqx x) rfl bd_Lagsx_eqx hr hgd)) (dprop (d := d_Lags_start) (pp := fun K => He.ma K (He.ga K (clsName 0)) "start") (cs := [0, 1]) (de_v 7 (pv 7)) (by intro c hc; simp only [List.mem_cons, List.not_mem_nil, or_false] at hc; rcases hc with rfl | rfl <;> first | exact ⟨_, (x.c_Lags), (x.pr_Lags_start)⟩ | exact ⟨_, (x.c_FormedLags), propSub (x.me_FormedLags_start) (x.pr_FormedLags_start)⟩) (ok_Lags_start x) bd_Lags_start hr hgd) (de_int) (nomark _)) (de_one (de_cmpD (opD_or (op_eqDD (roomN hr)) (deq (te_Lagsx_eqx x) (x.if_Lagsx_eqx) (ok_Lagsx_eqx x) rfl bd_Lagsx_eqx hr hgd)) (dprop (d := d_Lags_members) (pp := fun K => He.ma K (He.ga K (clsName 0)) "members") (cs := [0, 1]) (de_v 7 (pv 7)) (by intro c hc; simp only [List.mem_cons, List.not_mem_nil, or_false] at hc; rcases hc with rfl | rfl <;> first | exact ⟨_, (x.c_Lags), (x.pr_Lags_members)⟩ | exact ⟨_, (x.c_FormedLags), propSub (x.me_FormedLags_members) (x.pr_FormedLags_members)⟩) (ok_Lags_members x) bd_Lags_members hr hgd) (de_tup (da_cons (de_int) (da_nil))) (nomark _))))))))))))
theorem ok_law (x : Fx K h mg) (tb : Tb K mg base) : Dn P w K mg base d_law 10 P_law (spL K mg (tabsOf K lamF) 1 F_law) := dnL (x.cx.def_ 41 (d := d_law)) sc_law (b_law x tb)
end Lw
end
set_option Elab.async false
set_option linter.all false
set_option maxRecDepth 100000
set_option maxHeartbeats 4000000
/-! steps -/
local macro_rules | `(tactic| walk_at "a step") => `(tactic| (first | with_reducible refine Dv.i_2 ?_ | with_reducible refine Dv.i_1 ?_ | with_reducible refine Dv.i_star ?_ | with_reducible refine Dv.i_call ?_ | with_reducible refine Dv.i_callF ?_ | with_reducible refine Dv.i_2F ?_ | with_reducible refine Dv.i_if ?_ | with_reducible refine Dv.i_sif ?_ | with_reducible refine Dv.i_B ?_ | with_reducible refine Dv.i_tru ?_ | with_reducible refine Dv.i_not ?_ | with_reducible refine Dv.i_and ?_ | with_reducible refine Dv.i_or ?_ | with_reducible refine Dv.i_notV ?_ | with_reducible refine Dv.i_andV ?_ | with_reducible refine Dv.i_orV ?_ | with_reducible refine Dv.i_ch ?_ | with_reducible refine Dv.i_tup ?_ | with_reducible refine Dv.i_lst ?_ | with_reducible refine Dv.i_sl ?_ | with_reducible refine Dv.i_fn ?_ | with_reducible refine Dv.i_mk ?_ | with_reducible refine Dv.i_me0 ?_ | with_reducible refine Dv.i_me ?_ | with_reducible refine Dv.i_bor ?_ | with_reducible refine Dv.i_borT ?_ | with_reducible refine Dv.i_join ?_ | with_reducible refine Dv.i_js0 ?_ | with_reducible refine Dv.i_js1 ?_ | with_reducible refine Dv.i_sseq ?_ | with_reducible refine Dv.i_sret ?_ | with_reducible refine Dv.i_sretF ?_ | with_reducible refine Dv.i_sexpr ?_ | with_reducible refine Dv.i_sset ?_ | with_reducible refine Dv.i_sown ?_ | with_reducible refine Dv.i_ssetL ?_ | with_reducible refine Dv.i_spar ?_ | with_reducible refine Dv.i_spar3 ?_ | with_reducible refine Dv.i_sasg ?_ | with_reducible refine Dv.i_sitem ?_ | with_reducible refine Dv.i_sapp ?_ | with_reducible refine Dv.i_sfs ?_ | with_reducible refine Dv.i_frz ?_ | with_reducible refine Dv.i_sfor ?_ | with_reducible refine Dv.i_lc ?_ | with_reducible refine Dv.i_brk ?_ | with_reducible refine Dv.i_cnt ?_ | with_reducible refine Dv.i_meK ?_ | with_reducible refine Dv.i_snil ?_ | with_reducible refine Dv.i_up ?_ | with_reducible refine Dv.i_xcons ?_ | with_reducible refine Dv.i_xfn ?_ | with_reducible refine Dv.i_xmk ?_ | with_reducible refine Dv.i_xme ?_ | with_reducible refine Dv.i_hear ?_ | with_reducible refine Dv.i_sretX ?_ | with_reducible refine Dv.i_sexprX ?_ | with_reducible refine Dv.i_ssetX ?_ | with_reducible refine Dv.i_sraise ?_ | with_reducible refine Dv.i_bm ?_ | with_reducible refine Dv.i_mex ?_ | with_reducible refine Dv.i_nil ?_ | with_reducible refine Dv.i_cons ?_ | with_reducible refine Dv.i_pure ?_ | with_reducible refine Dv.i_lift ?_ | with_reducible refine Dv.i_bind ?_ | ((with_reducible apply Dv.i_fnW); rfl) | with_reducible refine Dv.nxN ?_ | with_reducible refine Dv.nxR ?_ | with_reducible refine Dv.nxF ?_ | with_reducible refine Dv.nxB ?_ | with_reducible refine Dv.nxC ?_ | with_reducible refine Dv.brXF ?_ | with_reducible refine Dv.brXT ?_ | with_reducible refine Dv.brN ?_ | with_reducible refine Dv.brT ?_ | with_reducible refine Dv.brF ?_ | ((with_reducible refine Dv.brYes (decide_eq_true ?_) ?_); omega) | ((with_reducible refine Dv.brNo (decide_eq_false ?_) ?_); omega) | ((with_reducible refine Dv.brYes ?_ ?_); (focus decide)) | ((with_reducible refine Dv.brNo ?_ ?_); (focus decide)) | ((with_reducible refine Dv.o_mod ?_ ?_); omega) | ((with_reducible refine Dv.o_fdiv ?_ ?_ ?_); omega; omega) | ((with_reducible refine Dv.o_mul ?_ ?_); omega) | ((with_reducible refine Dv.o_pow ?_ ?_); omega) | ((first | with_reducible refine Dv.o_addL ?_ ?_ | with_reducible refine Dv.o_addT ?_ ?_); (focus (rw [PySem.sizeLine_eq]; simp only [List.length_cons, List.length_nil, List.length_append, List.length_map]; omega))) | ((with_reducible refine Dv.o_strI (Dv.log_small ?_) ?_); omega) | ((with_reducible refine Dv.o_fmtI (Dv.log_small ?_) ?_); omega) | ((with_reducible refine Dv.o_rng1 ?_ ?_); omega) | ((with_reducible refine Dv.o_rng1I ?_ ?_ ?_); omega; omega) | ((fail_if_success with_reducible refine Dv.noRng1 ?_); (fail_if_success with_reducible refine Dv.noRng2 ?_); (fail_if_success with_reducible refine Dv.noRng3 ?_); (fail_if_success with_reducible refine Dv.noRep ?_); (fail_if_success with_reducible refine Dv.noSl ?_); (fail_if_success with_reducible refine Dv.noShl ?_); (fail_if_success with_reducible refine Dv.noShr ?_); (with_reducible apply Dv.opr); rfl) | ((with_reducible refine And.intro ?_ ?_); (first | rfl | decide | assumption | (focus (rw [PySem.sizeLine_eq]; simp; done)) | (focus (rw [Dv.rangeD_length, PySem.sizeLine_eq]; omega)))) | (with_reducible refine Exists.intro _ (And.intro rfl ?_)) | (with_reducible refine Exists.intro _ (Exists.intro _ (And.intro rfl ?_))) | (with_reducible refine Exists.intro _ (Exists.intro _ (Exists.intro _ (And.intro rfl ?_)))) | fail))
local macro_rules | `(tactic| walk_at "steps") => `(tactic| (repeat' (first | ((with_reducible apply Dv.i_v); rfl) | walk_at "a step")))
/-! steps end -/
namespace Lw
open PySem L2 Dv Lg
theorem e_isint (i : Int) : F_is_integer [.int i] = some (.bl true) := rfl
/-- check_numbers is silent -/
theorem e_checkn {l : List Nat} (h : ∀ x ∈ l, x ≤ 1000) : F_check_numbers [.tup (nats l)] = some .non := by
  refine runD_eq ?_
  unfold m_check_numbers
  walk_at "steps"
  refine i_forL (fun items τ => (∀ d ∈ items, ∃ i k : Nat, d = .tup [.int i, .int k] ∧ k ≤ 1000) ∧ ∃ a b, τ = [some (.val (.tup (nats l))), a, b]) ?_ ?_ ?_
  · refine ⟨fun d hd => ?_, _, _, rfl⟩
    obtain ⟨i, hi⟩ := List.getElem?_of_mem hd
    obtain ⟨x, hx, rfl⟩ := numbered_get hi
    obtain ⟨k, hk, rfl⟩ := nats_mem (List.mem_of_getElem? hx)
    exact ⟨_, k, rfl, h k hk⟩
  · rintro d ds τ ⟨h1, a, b, rfl⟩
    obtain ⟨i, k, rfl, hk⟩ := h1 d (by simp)
    (repeat' (first | ((with_reducible apply i_v); rfl) | ((with_reducible refine gotE (e_isint k) ?_ ?_); rfl) | walk_at "a step"))
    exact ⟨fun d hd => h1 d (by simp [hd]), _, _, rfl⟩
  · rintro τ ⟨_, a, b, rfl⟩
    walk_at "steps"
    rfl
def upTo (t p m k : Nat) : Bool := (List.range m).any fun j => decide (k = t + j * p)
theorem upTo_iff {t p m k : Nat} : upTo t p m k = true ↔ ∃ j, j < m ∧ k = t + j * p := by
  unfold upTo
  simp only [List.any_eq_true, List.mem_range, decide_eq_true_eq]
/-- flags_of: which numbers are in it -/
theorem e_flags {a b : List Nat} {f p : Nat} (hp : 1 ≤ p) (hpl : p < 1000000) (hf : f < 1000000) (ha : ∀ x ∈ a, x < f + p) (hb : ∀ x ∈ b, x < f + p) :
    F_flags_of [.tup (nats a), .tup (nats b), .int f, .int p] = some (.lst (fl (setS a b p) (f + p))) := by
  have hz : sizeLine = 16777216 := sizeLine_eq
  refine runD_eq ?_
  unfold m_flags_of
  walk_at "steps"
  refine o_repF (n := f + p) (by omega) (by omega) ?_
  simp only [start0, List.map_cons, List.map_nil, List.length_cons, List.length_nil, Nat.reduceSub, Nat.reduceAdd, Nat.sub_zero, Nat.zero_add, List.replicate_succ, List.replicate_zero, List.cons_append, List.nil_append, List.set_cons_zero, List.set_cons_succ]
  walk_at "steps"
  refine i_forL (fun items τ => ∃ pre post o, a = pre ++ post ∧ items = nats post ∧ τ = [some (.val (.tup (nats a))), some (.val (.tup (nats b))), some (.val (.int f)), some (.val (.int p)), some (.own (fl (setS pre [] p) (f + p))), o, none]) ?_ ?_ ?_
  · exact ⟨[], a, _, rfl, rfl, by rw [show fl (setS [] [] p) (f + p) = fl (fun _ => false) (f + p) from fl_ext fun k _ => by simp [setS]]⟩
  · rintro d ds τ ⟨pre, post, o, e, hi, rfl⟩
    cases post with
    | nil => cases hi
    | cons x post =>
      cases hi
      have hx := ha x (by rw [e]; simp)
      walk_at "steps"
      refine o_setF (k := x) rfl hx ?_
      refine ⟨pre ++ [x], post, some (.val (.int (x : Nat))), by simp [e], rfl, ?_⟩
      rw [show fl (fun j => if j = x then true else setS pre [] p j) (f + p) = fl (setS (pre ++ [x]) [] p) (f + p) from fl_ext fun k _ => by
        simp only [setS, List.any_nil, Bool.or_false, List.mem_append, List.mem_singleton]
        by_cases c : k = x <;> simp [c]]
      rfl
  · rintro τ ⟨pre, post, o, e, hi, rfl⟩
    have : post = [] := by simpa [nats] using hi.symm
    subst this
    rw [List.append_nil] at e
    subst e
    walk_at "steps"
    refine i_forL (fun items τ => ∃ pre post o o', b = pre ++ post ∧ items = nats post ∧ τ = [some (.val (.tup (nats a))), some (.val (.tup (nats b))), some (.val (.int f)), some (.val (.int p)), some (.own (fl (setS a pre p) (f + p))), o, o']) ?_ ?_ ?_
    · exact ⟨[], b, _, _, rfl, rfl, rfl⟩
    · rintro d ds τ ⟨pre, post, o, o', e, hi, rfl⟩
      cases post with
      | nil => cases hi
      | cons t post =>
        cases hi
        have ht := hb t (by rw [e]; simp)
        walk_at "steps"
        refine o_rng3N (a := t) (b := f + p) (c := p) rfl (by omega) rfl (by omega) (by omega) hp (by omega) fun n hn => ?_
        refine i_forL (fun items τ => ∃ (m : Nat) (o' : Option Sl), m ≤ n ∧ items = nats (((List.range n).map fun k => t + k * p).drop m) ∧ τ = [some (.val (.tup (nats a))), some (.val (.tup (nats b))), some (.val (.int f)), some (.val (.int p)), some (.own (fl (fun k => setS a pre p k || upTo t p m k) (f + p))), some (.val (.int t)), o']) ?_ ?_ ?_
        · refine ⟨0, o', by omega, rfl, ?_⟩
          rw [show fl (fun k => setS a pre p k || upTo t p 0 k) (f + p) = fl (setS a pre p) (f + p) from fl_ext fun k _ => by simp [upTo]]
          rfl
        · rintro d ds τ ⟨m, o', hm, hi, rfl⟩
          have hi' : (nats ((List.range n).map fun k => t + k * p)).drop m = d :: ds := by rw [hi]; simp [nats]
          obtain ⟨h1, h2, rfl⟩ := drop_cons hi'
          have hmn : m < n := by simpa [nats] using h1
          have hd : d = .int ((t + m * p : Nat) : Int) := by
            simp only [nats, List.map_map, List.getElem?_map, List.getElem?_range hmn, Option.map_some] at h2
            cases h2; rfl
          subst hd
          have hlt := (hn m).mp hmn
          walk_at "steps"
          refine o_setF (k := t + m * p) rfl hlt ?_
          refine ⟨m + 1, some (.val (.int ((t + m * p : Nat) : Int))), by omega, by simp [nats], ?_⟩
          rw [show fl (fun j => if j = t + m * p then true else setS a pre p j || upTo t p m j) (f + p) = fl (fun k => setS a pre p k || upTo t p (m + 1) k) (f + p) from fl_ext fun k _ => by
            by_cases c : k = t + m * p
            · rw [if_pos c, upTo_iff.mpr ⟨m, by omega, c⟩, Bool.or_true]
            · rw [if_neg c]
              congr 1
              rw [Bool.eq_iff_iff, upTo_iff, upTo_iff]
              refine ⟨fun ⟨j, h1, h2⟩ => ⟨j, by omega, h2⟩, fun ⟨j, h1, hk2⟩ => ⟨j, ?_, hk2⟩⟩
              by_cases cj : j = m
              · subst cj; exact (c hk2).elim
              · omega]
          rfl
        · rintro τ ⟨m, o', hm, hi, rfl⟩
          have hmn : m = n := by
            have := congrArg List.length hi
            simp [nats] at this
            omega
          subst hmn
          refine ⟨pre ++ [t], post, some (.val (.int (t : Nat))), o', by simp [e], rfl, ?_⟩
          rw [show fl (fun k => setS a pre p k || upTo t p m k) (f + p) = fl (setS a (pre ++ [t]) p) (f + p) from fl_ext fun k hk => by
            rw [Bool.eq_iff_iff, Bool.or_eq_true, setS_iff, setS_iff, upTo_iff]
            constructor
            · rintro ((h | ⟨u, hu, h1, h2⟩) | ⟨j, h1, h2⟩)
              · exact .inl h
              · exact .inr ⟨u, by simp [hu], h1, h2⟩
              · exact .inr ⟨t, by simp, by omega, by rw [h2, Nat.add_sub_cancel_left, Nat.mul_mod_left]⟩
            · rintro (h | ⟨u, hu, h1, h2⟩)
              · exact .inl (.inl h)
              · rcases List.mem_append.mp hu with hu | hu
                · exact .inl (.inr ⟨u, hu, h1, h2⟩)
                · have hu : u = t := by simpa using hu
                  subst hu
                  refine .inr ⟨(k - u) / p, ?_, ?_⟩
                  · refine (hn _).mpr ?_
                    have := Nat.div_add_mod (k - u) p
                    rw [h2, Nat.mul_comm] at this
                    omega
                  · have := Nat.div_add_mod (k - u) p
                    rw [h2, Nat.mul_comm] at this
                    omega]
    · rintro τ ⟨pre, post, o, o', e, hi, rfl⟩
      have : post = [] := by simpa [nats] using hi.symm
      subst this
      rw [List.append_nil] at e
      subst e
      walk_at "steps"
      rfl
theorem drop_nats {l : List Nat} {j : Nat} {d : D} {ds : List D} (h : (nats l).drop j = d :: ds) : ∃ x, l[j]? = some x ∧ d = .int (x : Nat) ∧ ds = (nats l).drop (j + 1) ∧ j < l.length := by
  obtain ⟨h1, h2, h3⟩ := drop_cons h
  unfold nats at h2
  rw [List.getElem?_map] at h2
  obtain ⟨x, e, rfl⟩ := map_some h2
  exact ⟨x, e, rfl, h3, by simpa [nats] using h1⟩
theorem p_lperiod {S : Nat → Bool} {f p N : Nat} (h : Per S f p) (hN : f + p ≤ N) (hf : f < 1000000) (hp : p < 1000000) :
    ∃ d, F_least_period [.lst (fl S N), .int f, .int p] = some d ∧ Hold (∃ m : Nat, d = .int m ∧ m ≤ p ∧ Per S f m ∧ ∀ q, Per S f q → m ≤ q) := by
  have hp1 := h.1
  have hz : sizeLine = 16777216 := sizeLine_eq
  refine runD_ex ?_
  unfold m_least_period
  walk_at "steps"
  refine o_rng2N (a := 1) (b := p) rfl rfl (by omega) (by omega) ?_
  refine i_forL (fun items τ => ∃ (j : Nat) (o1 o2 o3 : Option Sl), j ≤ p - 1 ∧ items = (nats ((List.range (p - 1)).map (1 + ·))).drop j ∧ (∀ q, q ≤ j → ¬ Per S f q) ∧ τ = [some (.val (.lst (fl S N))), some (.val (.int f)), some (.val (.int p)), o1, o2, none]) ?_ ?_ ?_
  · exact ⟨0, _, _, none, by omega, rfl, fun q hq c => by have := c.1; omega, rfl⟩
  · rintro d ds τ ⟨j, o1, o2, o3, hj, hi, hno, rfl⟩
    obtain ⟨x, hx, rfl, rfl, hjl⟩ := drop_nats hi.symm
    have hjl : j < p - 1 := by simpa using hjl
    have hx : x = 1 + j := by
      rw [List.getElem?_map, List.getElem?_range hjl] at hx
      cases hx; rfl
    subst hx
    have next : ¬ Per S f (1 + j) → ∀ q, q ≤ j + 1 → ¬ Per S f q := fun hc q hq => by
      by_cases e : q = 1 + j
      · subst e; exact hc
      · exact hno q (by omega)
    walk_at "steps"
    refine br (fun hd => ?_) (fun hd => ?_)
    · have hd : ((p : Int) % ((1 + j : Nat) : Int)) = 0 := of_decide_eq_true hd
      walk_at "steps"
      refine i_lcMR (fun k => .bl (S (f + (k + (1 + j)) % p))) rfl (fun k hk => ?_) ?_
      · walk_at "steps"
        refine o_ixF (k := f + (k + (1 + j)) % p) (by
          rw [← Int.natCast_add, ← Int.natCast_emod, ← Int.natCast_add]) (by
          have := Nat.mod_lt (k + (1 + j)) (show p > 0 by omega)
          omega) ?_
        exact ⟨rfl, rfl⟩
      · walk_at "steps"
        refine o_cutF (a := f) (b := f + p) rfl (by omega) (by omega) hN ?_
        walk_at "steps"
        rw [show f + p - f = p by omega]
        refine o_eqF ?_
        walk_at "steps"
        refine br (fun hc => ?_) (fun hc => ?_)
        · have hc := (cyc_iff h (show 1 ≤ 1 + j by omega)).mp (of_decide_eq_true hc)
          walk_at "steps"
          refine hold ⟨1 + j, rfl, by omega, hc, fun q hq => ?_⟩
          by_cases c : 1 + j ≤ q
          · exact c
          · exact (hno q (by omega) hq).elim
        · have hc : ¬ Per S f (1 + j) := fun z => of_decide_eq_false hc ((cyc_iff h (by omega)).mpr z)
          walk_at "steps"
          exact ⟨j + 1, _, _, none, by omega, rfl, next hc, rfl⟩
    · have hd : ¬ ((p : Int) % ((1 + j : Nat) : Int)) = 0 := of_decide_eq_false hd
      walk_at "steps"
      refine ⟨j + 1, _, _, none, by omega, rfl, next fun hc => ?_, rfl⟩
      obtain ⟨m, h1, h2, h3⟩ := per_least h
      have hm : ¬ m ≤ j := fun z => hno m z h2
      have := h3 _ hc
      have e : m = 1 + j := by omega
      subst e
      have := least_dvd h h2 h3
      exact hd (by rw [← Int.natCast_emod, Nat.mod_eq_zero_of_dvd this]; rfl)
  · rintro τ ⟨j, o1, o2, o3, hj, hi, hno, rfl⟩
    have hj : j = p - 1 := by
      have := congrArg List.length hi
      simp [nats] at this
      omega
    subst hj
    walk_at "steps"
    refine hold ⟨p, rfl, Nat.le_refl _, h, fun q hq => ?_⟩
    by_cases c : p ≤ q
    · exact c
    · exact (hno q (by omega) hq).elim
/-- the data of a form -/
def formD (S : Nat → Bool) (f p : Nat) : D := .tup [.int f, .int p, .tup (fl S (f + p))]
theorem p_lform {S : Nat → Bool} {f p N : Nat} (h : Per S f p) (hN : f + p ≤ N) (hf : f < 1000000) (hp : p < 1000000) :
    ∃ d, F_least_form [.lst (fl S N), .int f, .int p] = some d ∧ Hold (∃ f' p', d = formD S f' p' ∧ Least S f' p' ∧ f' ≤ f ∧ p' ≤ p) := by
  have hz : sizeLine = 16777216 := sizeLine_eq
  obtain ⟨_, e, m, rfl, hm, hm1, hm2⟩ := p_lperiod h hN hf hp
  refine runD_ex ?_
  unfold m_least_form
  (repeat' (first | ((with_reducible apply i_v); rfl) | ((with_reducible refine gotE (e) ?_ ?_); rfl) | walk_at "a step"))
  refine i_while (n := f) (fun n τ => n ≤ f ∧ Per S n m ∧ τ = [some (.val (.lst (fl S N))), some (.val (.int n)), some (.val (.int p)), some (.val (.int m))]) ?_ ⟨Nat.le_refl _, hm1, rfl⟩
  rintro n τ ⟨h1, h2, rfl⟩
  have fin : (n = 0 ∨ S (n - 1) ≠ S (n - 1 + m)) → Least S n m := fun hs => least_of h2 (fun q hq => hm2 q (hm1.start hq)) hs
  walk_at "steps"
  refine br (fun c => ?_) (fun c => ?_)
  · have c : (0 : Int) < n := of_decide_eq_true c
    walk_at "steps"
    refine o_ixF (k := n - 1) (by omega) (by omega) ?_
    walk_at "steps"
    refine o_ixF (k := n - 1 + m) (by omega) (by omega) ?_
    walk_at "steps"
    refine br (fun hc => ?_) (fun hc => ?_)
    · have hc : S (n - 1) = S (n - 1 + m) := eq_of_beq hc
      walk_at "steps"
      refine ⟨n - 1, by omega, by omega, ⟨hm1.1, fun k hk => ?_⟩, by rw [show ((n - 1 : Nat) : Int) = (n : Int) - 1 by omega]; rfl⟩
      by_cases ck : k = n - 1
      · subst ck; exact hc.symm
      · exact h2.2 k (by omega)
    · have hc : S (n - 1) ≠ S (n - 1 + m) := fun z => by
        have hc : (S (n - 1) == S (n - 1 + m)) = false := hc
        rw [z, beq_self_eq_true] at hc; cases hc
      walk_at "steps"
      refine o_toF (b := n + m) (by omega) (by omega) ?_
      walk_at "steps"
      exact hold ⟨n, m, rfl, fin (.inr hc), h1, hm⟩
  · have c : ¬ (0 : Int) < n := of_decide_eq_false c
    walk_at "steps"
    refine o_toF (b := n + m) (by omega) (by omega) ?_
    walk_at "steps"
    exact hold ⟨n, m, rfl, fin (.inl (by omega)), h1, hm⟩
end Lw
set_option Elab.async false
set_option linter.all false
set_option maxRecDepth 100000
set_option maxHeartbeats 4000000
namespace Dv
open PySem L2
theorem asInts_nats (l : List Nat) : asInts (nats l) = some (l.map fun (k : Nat) => (k : Int)) := by
  have : nats l = (l.map fun (k : Nat) => (k : Int)).map D.int := by simp [nats]
  rw [this, asInts_map]
/-- max([i, *l]) -/
theorem o_maxN {i : Int} {l : List Nat} {Q : D → Prop} (q : ∀ m : Int, i ≤ m → (∀ x ∈ l, (x : Int) ≤ m) → (m = i ∨ ∃ x ∈ l, m = (x : Nat)) → Q (.int m)) : Op (maxD [.lst (.int i :: nats l)]) Q := by
  have e : asInts (.int i :: nats l) = some (i :: l.map fun (k : Nat) => (k : Int)) := by simp [asInts, asInts_nats]
  cases em : maxL (i :: l.map fun (k : Nat) => (k : Int)) with
  | none => cases em
  | some m =>
    obtain ⟨h1, h2⟩ := maxL_ok em
    refine ⟨.int m, by simp only [maxD, e, Option.bind_some, em, Option.map_some], q m (h2 i (by simp)) (fun x hx => h2 _ (by simp; exact .inr ⟨x, hx, rfl⟩)) ?_⟩
    rcases List.mem_cons.mp h1 with h | h
    · exact .inl h
    · obtain ⟨x, hx, rfl⟩ := List.mem_map.mp h
      exact .inr ⟨x, hx, rfl⟩
theorem asBls_fl (S : Nat → Bool) (n : Nat) : asBls (fl S n) = some ((List.range n).map S) := by
  have : fl S n = ((List.range n).map S).map D.bl := by simp [fl]
  rw [this, asBls_map]
theorem o_anyF {S : Nat → Bool} {n : Nat} {Q : D → Prop} (q : Q (.bl ((List.range n).any S))) : Op (anyX [.tup (fl S n)]) Q := by
  refine ⟨_, ?_, q⟩
  show (none : Option D).or _ = _
  simp only [anyT, asBls_fl, Option.map_some, Option.none_or]
  rw [List.any_map]
  rfl
theorem runI_ex {n c : Nat} {f : M Fl} {ds : List D} {P : List D → Prop} (h : Ok f (some (.ob c [] []) :: start0 (n - 1) ds) fun fl τ => fl = .nx ∧ ∃ fs, obOf c τ = some fs ∧ P fs) : ∃ fs, runI n c f ds = some fs ∧ P fs := by
  obtain ⟨fl, τ', e, rfl, fs, p, q⟩ := h
  exact ⟨fs, by unfold runI; rw [e]; exact p, q⟩
end Dv
namespace Lw
open PySem L2 Dv Lg
/-- a lag set made -/
theorem p_init {a b : List Nat} {p : Nat} (ha : ∀ x ∈ a, x ≤ 1000) (hb : ∀ x ∈ b, x ≤ 1000) (hla : a.length ≤ 1000) (hlb : b.length ≤ 1000) (hp : 1 ≤ p) (hp2 : p ≤ 60) :
    ∃ fs, F_Lagsx_initx [.tup (nats a), .tup (nats b), .int p] = some fs ∧ Hold (∃ f' p', fs = [formD (setS a b p) f' p'] ∧ Least (setS a b p) f' p' ∧ f' ≤ 1001 ∧ p' ≤ p) := by
  have hz : sizeLine = 16777216 := sizeLine_eq
  refine runI_ex ?_
  unfold m_Lagsx_initx
  (repeat' (first | ((with_reducible apply i_v); rfl) | ((with_reducible refine gotE (e_checkn ha) ?_ ?_); rfl) | ((with_reducible refine gotE (e_checkn hb) ?_ ?_); rfl) | ((with_reducible refine gotE (e_isint p) ?_ ?_); rfl) | walk_at "a step"))
  refine ⟨by rw [hz]; simp [nats]; omega, ?_⟩
  walk_at "steps"
  rw [List.append_nil, ← nats_append]
  refine o_maxN fun m h1 h2 h3 => ?_
  obtain ⟨f, rfl⟩ : ∃ f : Nat, m = (f : Int) - 1 := ⟨(m + 1).toNat, by omega⟩
  have hf : f ≤ 1001 := by
    rcases h3 with h | ⟨x, hx, e⟩
    · omega
    · rcases List.mem_append.mp hx with hx | hx
      · have := ha x hx; omega
      · have := hb x hx; omega
  have hfa : ∀ x ∈ a, x < f := fun x hx => by have := h2 x (by simp [hx]); omega
  have hfb : ∀ x ∈ b, x < f := fun x hx => by have := h2 x (by simp [hx]); omega
  have e1 := e_flags (a := a) (b := b) (f := f) (p := p) hp (by omega) (by omega) (fun x hx => by have := hfa x hx; omega) (fun x hx => by have := hfb x hx; omega)
  obtain ⟨_, e2, f', p', rfl, hl, hl1, hl2⟩ := p_lform (N := f + p) (setS_per hp hfa hfb) (Nat.le_refl _) (by omega) (by omega)
  walk_at "steps"
  rw [show (f : Int) - 1 + 1 = f by omega]
  (repeat' (first | ((with_reducible apply i_v); rfl) | ((with_reducible refine gotE (e1) ?_ ?_); rfl) | ((with_reducible refine gotE (e2) ?_ ?_); rfl) | walk_at "a step"))
  exact hold ⟨f', p', rfl, hl, by omega, hl2⟩
theorem e_flagat {S : Nat → Bool} {f p k : Nat} (h : Per S f p) : F_flag_at [formD S f p, .int k] = some (.bl (S k)) := by
  have hp := h.1
  refine runD_eq ?_
  unfold m_flag_at
  walk_at "steps"
  refine br (fun c => ?_) (fun c => ?_)
  · have c : (k : Int) < (f : Int) + p := of_decide_eq_true c
    walk_at "steps"
    refine o_ixFT (k := k) rfl (by omega) ?_
    rfl
  · have c : ¬ (k : Int) < (f : Int) + p := of_decide_eq_false c
    walk_at "steps"
    refine o_ixFT (k := f + (k - f) % p) (by
      rw [show (k : Int) - f = ((k - f : Nat) : Int) by omega, ← Int.natCast_emod]
      omega) (by have := Nat.mod_lt (k - f) (show p > 0 by omega); omega) ?_
    rw [h.look k (by omega)]
    rfl
/-! ### what a lag set shows -/
def mem (S : Nat → Bool) (n : Nat) : List Nat := (List.range n).filter S
@[irreducible] def word (f p k : Nat) : Str := if k < f then ((toString ((k : Nat) : Int) : String) : Str) else ((toString ((k : Nat) : Int) : String) : Str) ++ ("+" : Str) ++ ((toString ((p : Nat) : Int) : String) : Str)
@[irreducible] def textS (S : Nat → Bool) (f p : Nat) : Str := if mem S (f + p) = [] then ("none" : Str) else Txt.join (" " : Str) ((mem S (f + p)).map (word f p))
theorem L_e : Str.empty.length = 0 := by decide +kernel
theorem L_pl : ("+" : Str).length = 1 := by decide +kernel
theorem L_sp : (" " : Str).length = 1 := by decide +kernel
theorem L_no : ("none" : Str).length = 4 := by decide +kernel
theorem num_len {k : Nat} (h : k < 1000000000000) : ((toString ((k : Nat) : Int) : String) : Str).length ≤ 13 := niceI_len (i := (k : Int)) (decide_eq_true (by omega))
theorem word_len {f p k : Nat} (hk : k < 1000000000000) (hp : p < 1000000000000) : (word f p k).length ≤ 27 := by
  have h1 := num_len hk
  have h2 := num_len hp
  unfold word
  split
  · omega
  · rw [strLen_append, strLen_append, L_pl]; omega
theorem mem_length (S : Nat → Bool) (n : Nat) : (mem S n).length ≤ n := by
  have := List.length_filter_le S (List.range n)
  simpa [mem] using this
theorem mem_lt {S : Nat → Bool} {n k : Nat} (h : k ∈ mem S n) : k < n ∧ S k = true := by
  unfold mem at h
  rw [List.mem_filter, List.mem_range] at h
  exact h
theorem words_len {S : Nat → Bool} {f p : Nat} (hf : f < 50000) (hp : p < 50000) : ∀ w ∈ (mem S (f + p)).map (word f p), w.length ≤ 100 := fun w hw => by
  obtain ⟨k, hk, rfl⟩ := List.mem_map.mp hw
  have := (mem_lt hk).1
  have := word_len (f := f) (p := p) (k := k) (by omega) (by omega)
  omega
theorem textS_len {S : Nat → Bool} {f p : Nat} (hf : f < 50000) (hp : p < 50000) : (textS S f p).length ≤ 10200000 := by
  unfold textS
  split
  · rw [L_no]; omega
  · refine join_len (by rw [L_sp]; omega) (words_len hf hp) ?_
    rw [List.length_map]
    have := mem_length S (f + p)
    omega
theorem e_text {S : Nat → Bool} {f p : Nat} (hf : f < 50000) (hp : p < 50000) : F_text_of [formD S f p] = some (.str (textS S f p)) := by
  have hz : sizeLine = 16777216 := sizeLine_eq
  refine runD_eq ?_
  unfold m_text_of
  walk_at "steps"
  rw [show ((f : Int) + (p : Int)).toNat = f + p by omega]
  refine i_lcPR S (fun k => .str (word f p k)) rfl (fun k hk => ?_) (fun k hk hS => ?_) ?_
  · walk_at "steps"
    refine o_ixFT (k := k) rfl hk ?_
    walk_at "steps"
    rfl
  · have h1 := num_len (k := k) (by omega)
    have h2 := num_len (k := p) (by omega)
    walk_at "steps"
    refine br (fun c => ?_) (fun c => ?_)
    · have c : (k : Int) < f := of_decide_eq_true c
      walk_at "steps"
      exact ⟨by unfold word; rw [if_pos (by omega)], rfl⟩
    · have c : ¬ (k : Int) < f := of_decide_eq_false c
      (repeat' (first | ((with_reducible apply i_v); rfl) | ((with_reducible refine o_addS ?_ ?_); (focus (rw [sizeLine_eq]; (try simp only [strLen_append, L_pl, L_e]); omega))) | ((with_reducible refine o_fmtS ?_ ?_); (focus (rw [sizeLine_eq]; (try simp only [strLen_append, L_pl, L_e]); omega))) | ((with_reducible refine o_lenS ?_ ?_); (focus (rw [sizeLine_eq]; (try simp only [strLen_append, L_pl, L_e]); omega))) | ((with_reducible refine And.intro ?_ ?_); (focus (rw [sizeLine_eq]; (try simp only [strLen_append, L_pl, L_e]); omega))) | walk_at "a step"))
      exact ⟨by unfold word; rw [if_neg (by omega), emp], rfl⟩
  · have e : (List.range (f + p)).filter S = mem S (f + p) := rfl
    rw [e]
    have e2 : (mem S (f + p)).map (fun k => D.str (word f p k)) = ((mem S (f + p)).map (word f p)).map D.str := by simp
    by_cases c : mem S (f + p) = []
    · walk_at "steps"
      refine brYes (by rw [c]; rfl) ?_
      walk_at "steps"
      unfold textS
      rw [if_pos c]
      rfl
    · walk_at "steps"
      refine brNo (by
        cases h : mem S (f + p) with
        | nil => exact (c h).elim
        | cons x r => rfl) ?_
      walk_at "steps"
      rw [e2]
      refine o_joinW (by rw [L_sp]; omega) (words_len hf hp) (by rw [List.length_map]; have := mem_length S (f + p); omega) ?_
      unfold textS
      rw [if_neg c]
      rfl
theorem e_start (c : Nat) (hc : c = 0 ∨ c = 1) (S : Nat → Bool) (f p : Nat) : F_Lags_start [.obj c [formD S f p]] = some (.int f) := by rcases hc with rfl | rfl <;> rfl
theorem e_period (c : Nat) (hc : c = 0 ∨ c = 1) (S : Nat → Bool) (f p : Nat) : F_Lags_period [.obj c [formD S f p]] = some (.int p) := by rcases hc with rfl | rfl <;> rfl
theorem o_form {S : Nat → Bool} {f p c : Nat} (hc : c = 0 ∨ c = 1) {Q : D → Prop} (q : Q (formD S f p)) : Op (fldD [0, 1] (.obj c [formD S f p])) Q := by rcases hc with rfl | rfl <;> exact ⟨_, rfl, q⟩
theorem isob {c : Nat} (hc : c = 0 ∨ c = 1) (l : List D) : isOb [0, 1] (.obj c l) = true := by rcases hc with rfl | rfl <;> rfl
theorem isi {c : Nat} (hc : c = 0 ∨ c = 1) (l : List D) {Q : D → Prop} (q : Q (.bl true)) : Op (isiD ti_Lags (.obj c l)) Q := by rcases hc with rfl | rfl <;> exact ⟨_, rfl, q⟩
theorem e_members {c : Nat} (hc : c = 0 ∨ c = 1) {S : Nat → Bool} {f p : Nat} (hf : f < 50000) (hp : p < 50000) : F_Lags_members [.obj c [formD S f p]] = some (.tup (nats (mem S (f + p)))) := by
  have hz : sizeLine = 16777216 := sizeLine_eq
  refine runD_eq ?_
  unfold m_Lags_members
  (repeat' (first | ((with_reducible apply i_v); rfl) | (with_reducible refine o_form hc ?_) | walk_at "a step"))
  refine ⟨by rw [numbered_length, fl_length]; omega, ?_⟩
  rw [numbered_fl]
  refine i_lcP2 (List.range (f + p)) (fun (k : Nat) => D.int k) (fun k => .bl (S k)) S (fun (k : Nat) => D.int k) rfl (by decide) (fun k hk => ?_) (fun k hk hS => ?_) ?_
  · walk_at "steps"
    rfl
  · walk_at "steps"
    rfl
  · walk_at "steps"
    rfl
theorem e_bool {c : Nat} (hc : c = 0 ∨ c = 1) (S : Nat → Bool) (f p : Nat) : F_Lagsx_boolx [.obj c [formD S f p]] = some (.bl ((List.range (f + p)).any S)) := by
  refine runD_eq ?_
  unfold m_Lagsx_boolx
  (repeat' (first | ((with_reducible apply i_v); rfl) | (with_reducible refine o_form hc ?_) | walk_at "a step"))
  refine o_anyF ?_
  rfl
theorem any_mem (S : Nat → Bool) (n : Nat) : (List.range n).any S = !(mem S n).isEmpty := by
  unfold mem
  induction List.range n with
  | nil => rfl
  | cons k r ih =>
    rw [List.any_cons, List.filter_cons, ih]
    cases S k <;> simp
def firstD (l : List Nat) : D := match l with
  | [] => .non
  | k :: _ => .int (k : Nat)
theorem e_first {c : Nat} (hc : c = 0 ∨ c = 1) {S : Nat → Bool} {f p : Nat} (hf : f < 50000) (hp : p < 50000) : F_Lags_first [.obj c [formD S f p]] = some (firstD (mem S (f + p))) := by
  have em := e_members hc (S := S) hf hp
  have ea := any_mem S (f + p)
  refine runD_eq ?_
  unfold m_Lags_first
  cases e : mem S (f + p) with
  | nil =>
    rw [e] at ea
    (repeat' (first | ((with_reducible apply i_v); rfl) | (with_reducible refine o_form hc ?_) | (with_reducible refine o_anyF ?_) | walk_at "a step"))
    refine brNo ea ?_
    walk_at "steps"
    rfl
  | cons k r =>
    rw [e] at ea em
    (repeat' (first | ((with_reducible apply i_v); rfl) | (with_reducible refine o_form hc ?_) | (with_reducible refine o_anyF ?_) | walk_at "a step"))
    refine brYes ea ?_
    walk_at "steps"
    refine ⟨isob hc _, ?_⟩
    (repeat' (first | ((with_reducible apply i_v); rfl) | ((with_reducible refine gotE (em) ?_ ?_); rfl) | walk_at "a step"))
    exact ⟨.int (k : Nat), by simp only [ixD, nats, List.map_cons]; exact at_zero, rfl⟩
def endS (S : Nat → Bool) (f p : Nat) : Bool := (List.range p).any fun k => S (f + k)
theorem e_endless {c : Nat} (hc : c = 0 ∨ c = 1) (S : Nat → Bool) (f p : Nat) : F_Lags_endless [.obj c [formD S f p]] = some (.bl (endS S f p)) := by
  refine runD_eq ?_
  unfold m_Lags_endless
  (repeat' (first | ((with_reducible apply i_v); rfl) | (with_reducible refine o_form hc ?_) | walk_at "a step"))
  refine o_fromFT (a := f) rfl (by omega) ?_
  (repeat' (first | ((with_reducible apply i_v); rfl) | (with_reducible refine o_form hc ?_) | walk_at "a step"))
  rw [show f + p - f = p by omega]
  refine o_anyF ?_
  rfl
theorem e_with (d : D) : F_lags_with [d] = some (.obj 1 [d]) := rfl
theorem e_bounded {S : Nat → Bool} {f p : Nat} (h : f + p ≤ 2000) : F_bounded [formD S f p] = some (.obj 1 [formD S f p]) := by
  refine runD_eq ?_
  unfold m_bounded
  (repeat' (first | ((with_reducible apply i_v); rfl) | ((with_reducible refine gotE (e_with (formD S f p)) ?_ ?_); rfl) | walk_at "a step"))
  rfl
theorem e_str {c : Nat} (hc : c = 0 ∨ c = 1) {S : Nat → Bool} {f p : Nat} (hf : f < 50000) (hp : p < 50000) : F_Lagsx_strx [.obj c [formD S f p]] = some (.str (textS S f p)) := by
  have hz : sizeLine = 16777216 := sizeLine_eq
  have := textS_len (S := S) hf hp
  refine runD_eq ?_
  unfold m_Lagsx_strx
  (repeat' (first | ((with_reducible apply i_v); rfl) | (with_reducible refine o_form hc ?_) | with_reducible apply got (e_text hf hp) | walk_at "a step"))
  refine o_fmtS (by omega) ?_
  rfl
theorem L_la : ("Lags('" : Str).length = 6 := by decide +kernel
theorem L_qb : ("')" : Str).length = 2 := by decide +kernel
def reprS (t : Str) : Str := ("Lags('" : Str) ++ t ++ ("')" : Str)
theorem e_repr {c : Nat} (hc : c = 0 ∨ c = 1) {S : Nat → Bool} {f p : Nat} (hf : f < 50000) (hp : p < 50000) : F_Lagsx_reprx [.obj c [formD S f p]] = some (.str (reprS (textS S f p))) := by
  have hz : sizeLine = 16777216 := sizeLine_eq
  have := textS_len (S := S) hf hp
  refine runD_eq ?_
  unfold m_Lagsx_reprx
  (repeat' (first | ((with_reducible apply i_v); rfl) | (with_reducible refine o_form hc ?_) | with_reducible apply got (e_text hf hp) | ((with_reducible refine o_addS ?_ ?_); (focus (rw [sizeLine_eq]; (try simp only [strLen_append, L_la, L_qb, L_e]); omega))) | ((with_reducible refine o_fmtS ?_ ?_); (focus (rw [sizeLine_eq]; (try simp only [strLen_append, L_la, L_qb, L_e]); omega))) | ((with_reducible refine o_lenS ?_ ?_); (focus (rw [sizeLine_eq]; (try simp only [strLen_append, L_la, L_qb, L_e]); omega))) | ((with_reducible refine And.intro ?_ ?_); (focus (rw [sizeLine_eq]; (try simp only [strLen_append, L_la, L_qb, L_e]); omega))) | walk_at "a step"))
  rw [emp]
  rfl
/-! ### equality -/
theorem form_nice (S : Nat → Bool) {f p : Nat} (hf : f < 50000) (hp : p < 50000) : nice (formD S f p) = true := by
  have h1 : niceI (f : Int) = true := decide_eq_true (by omega)
  have h2 : niceI (p : Int) = true := decide_eq_true (by omega)
  simp only [formD, nice, nices, h1, h2, nices_fl, Bool.and_self]
theorem form_dep (S : Nat → Bool) (f p : Nat) : dep (formD S f p) = 2 := by
  simp only [formD, dep, deps, deps_fl]
  rfl
theorem form_same {S T : Nat → Bool} {f p g q : Nat} (hS : Least S f p) (hT : Least T g q) (e : ∀ k, S k = T k) : formD S f p = formD T g q := by
  have : S = T := funext e
  subst this
  obtain ⟨rfl, rfl⟩ := hS.uniq hT
  rfl
theorem e_eq {c c' : Nat} (hc : c = 0 ∨ c = 1) (hc' : c' = 0 ∨ c' = 1) {S T : Nat → Bool} {f p g q : Nat} (hf : f < 50000) (hp : p < 50000) (hg : g < 50000) (hq : q < 50000) :
    F_Lagsx_eqx [.obj c [formD S f p], .obj c' [formD T g q]] = some (.bl (eqvD (formD S f p) (formD T g q))) := by
  refine runD_eq ?_
  unfold m_Lagsx_eqx
  (repeat' (first | ((with_reducible apply i_v); rfl) | (with_reducible refine isi hc' _ ?_) | (with_reducible refine o_form hc ?_) | (with_reducible refine o_form hc' ?_) | walk_at "a step"))
  refine o_eq (form_nice S hf hp) (form_nice T hg hq) (by rw [form_dep]; decide) (by rw [form_dep]; decide) ?_
  rw [Bool.bne_false]
  rfl
end Lw
set_option Elab.async false
set_option linter.all false
set_option maxRecDepth 100000
set_option maxHeartbeats 4000000
namespace Lw
open PySem L2 Dv
/-- a well: three ints -/
def WellOk (l : List D) : Prop := ∃ n f c : Int, l = [.int n, .int f, .int c] ∧ 0 ≤ n ∧ n < 2147483579 ∧ 0 ≤ f
theorem p_cell (ns : List Int) (k : Nat) : ∃ d, F_law_cell [.scr ns, .int k] = some d ∧ ∃ c : Int, d = .int c := by
  refine runD_ex ?_
  unfold m_law_cell
  walk_at "steps"
  refine br (fun hk => ?_) (fun hk => ?_)
  · have hk : (k : Int) < ns.length := of_decide_eq_true hk
    walk_at "steps"
    refine ⟨.int ns[k], by simp only [ixD, at_nat (show k < ns.length by omega), Option.map_some], ?_⟩
    walk_at "steps"
    exact ⟨_, rfl⟩
  · walk_at "steps"
    refine opr rfl ?_
    walk_at "steps"
    refine i_forL (fun items τ => (∀ d ∈ items, ∃ i : Int, d = .int i) ∧ ∃ (s : Int) (o : Option Sl), τ = [some (Sl.val (D.scr ns)), some (Sl.val (D.int ↑k)), some (Sl.val (D.int s)), o]) ?_ ?_ ?_
    · refine ⟨fun d hd => ?_, _, _, rfl⟩
      unfold cutD at hd
      have := List.mem_of_mem_drop (List.mem_of_mem_take hd)
      obtain ⟨i, _, rfl⟩ := List.mem_map.mp this
      exact ⟨i, rfl⟩
    · rintro d ds τ ⟨h1, s, o, rfl⟩
      obtain ⟨i, rfl⟩ := h1 d (by simp)
      walk_at "steps"
      exact ⟨fun a ha => h1 a (by simp [ha]), _, _, rfl⟩
    · rintro τ ⟨_, s, o, rfl⟩
      walk_at "steps"
      exact ⟨_, rfl⟩
theorem p_well (ns : List Int) (k : Nat) : ∃ l, F_law_well [.scr ns, .int k] = some l ∧ WellOk l := by
  obtain ⟨_, e, c, rfl⟩ := p_cell ns k
  have w : ∀ f : Int, 0 ≤ f → WellOk [D.int ((c * 69621 + 40014) % 2147483579), D.int f, D.int 0] := fun f hf => ⟨_, _, _, rfl, by omega, by omega, hf⟩
  refine runF_ex ?_
  unfold m_law_well
  walk_at "steps"
  refine got e ?_
  walk_at "steps"
  refine br (fun h => ?_) (fun h => ?_)
  · have h : c < 0 := of_decide_eq_true h
    walk_at "steps"
    refine w _ ?_
    rw [if_pos h]; omega
  · have h : ¬ c < 0 := of_decide_eq_false h
    walk_at "steps"
    refine br (fun h1 => ?_) (fun h1 => ?_)
    · walk_at "steps"
      refine w _ ?_
      rw [if_neg h]; omega
    · walk_at "steps"
      refine w _ ?_
      omega
theorem p_draw0 {l : List D} {m : Int} (h : WellOk l) (h1 : 1 ≤ m) (h2 : m < 1073741824) : ∃ d l', F_law_draw l [.int m] = some (d, l') ∧ (∃ r : Int, d = .int r ∧ 0 ≤ r ∧ r < m) ∧ WellOk l' := by
  obtain ⟨n, f, c, rfl, n1, n2, f1⟩ := h
  refine runW_ex ?_
  unfold m_law_draw
  walk_at "steps"
  refine br (fun hc => ?_) (fun hc => ?_)
  · walk_at "steps"
    exact ⟨_, _, rfl, rfl, ⟨_, rfl, Int.emod_nonneg _ (by omega), Int.emod_lt_of_pos _ (by omega)⟩, ⟨_, _, _, rfl, Int.emod_nonneg _ (by decide), Int.emod_lt_of_pos _ (by decide), Int.ediv_nonneg f1 (by omega)⟩⟩
  · walk_at "steps"
    exact ⟨_, _, rfl, rfl, ⟨_, rfl, Int.emod_nonneg _ (by omega), Int.emod_lt_of_pos _ (by omega)⟩, ⟨_, _, _, rfl, Int.emod_nonneg _ (by decide), Int.emod_lt_of_pos _ (by decide), f1⟩⟩
/-- a draw: some number below m, and the well goes on -/
theorem p_draw {l : List D} {m : Int} (h : WellOk l) (h1 : 1 ≤ m) (h2 : m < 1073741824) {Q : D × List D → Prop} (q : ∀ (r : Nat) l', (r : Int) < m → WellOk l' → Q (.int r, l')) : Got (F_law_draw l [.int m]) Q := by
  obtain ⟨d, l', e, ⟨r, rfl, r1, r2⟩, w⟩ := p_draw0 h h1 h2
  refine got e ?_
  have := q r.toNat l' (by omega) w
  rwa [Int.toNat_of_nonneg r1] at this
end Lw
set_option Elab.async false
set_option linter.all false
set_option maxRecDepth 100000
set_option maxHeartbeats 4000000
namespace Dv
open PySem L2
theorem any_eqN (k : Nat) (l : List Nat) : ((nats l).any fun y => eqF y (.int (k : Nat))) = decide (k ∈ l) := by
  induction l with
  | nil => rfl
  | cons x r ih =>
    show (eqF (.int (x : Nat)) (.int (k : Nat)) || (nats r).any fun y => eqF y (.int (k : Nat))) = _
    rw [ih]
    show (((x : Int) == (k : Int)) || decide (k ∈ r)) = _
    by_cases h : x = k
    · subst h; simp
    · have h1 : ((x : Int) == (k : Int)) = false := by simpa using (by omega : ¬ (x : Int) = k)
      simp [h1, Ne.symm h]
theorem flat_nats (l : List Nat) : (nats l).all flatD = true := by
  unfold nats
  rw [List.all_map]
  exact List.all_eq_true.mpr fun _ _ => rfl
theorem o_inN {neg : Bool} {k : Nat} {l : List Nat} {Q : D → Prop} (q : Q (.bl (decide (k ∈ l) != neg))) : Op (inD neg (.int (k : Nat)) (.lst (nats l))) Q :=
  ⟨_, by simp only [inD, flatD, flat_nats, and_self, if_true, any_eqN], q⟩
theorem noIn {neg : Bool} {a b : D} {Q : D → Prop} (h : False) : Op (inD neg a b) Q := h.elim
end Dv
namespace Lw
open PySem L2 Dv Lg
/-- so many drawn numbers -/
theorem p_some0 {l : List D} (h : WellOk l) {m w : Nat} (hm : m ≤ 1000) (hw : w ≤ 100000) : ∃ d l', F_law_some l [.int m, .int w] = some (d, l') ∧ Hold (∃ xs : List Nat, d = .lst (nats xs) ∧ xs.length ≤ m ∧ (∀ x ∈ xs, x ≤ w) ∧ WellOk l') := by
  have hz : sizeLine = 16777216 := sizeLine_eq
  refine runW_ex ?_
  unfold m_law_some
  walk_at "steps"
  refine p_draw h (by omega) (by omega) fun r l1 hr h1 => ?_
  walk_at "steps"
  refine i_lcL (fun items ys τ => ∃ xs : List Nat, ys = nats xs ∧ items.length + xs.length = r ∧ (∀ x ∈ xs, x ≤ w) ∧ ∃ l, WellOk l ∧ τ = [some (.own l), some (.val (.int m)), some (.val (.int w)), none]) ?_ ?_ ?_
  · exact ⟨[], rfl, by simp [rangeD_length], by simp, l1, h1, rfl⟩
  · rintro d ds ys τ ⟨xs, rfl, hl, hx, l, hw', rfl⟩
    walk_at "steps"
    refine p_draw hw' (by omega) (by omega) fun r3 l3 hr3 h3 => ?_
    refine ⟨xs ++ [r3], by simp [nats], by simp at hl ⊢; omega, fun x hx' => ?_, l3, h3, rfl⟩
    rcases List.mem_append.mp hx' with hx' | hx'
    · exact hx x hx'
    · simp at hx'; subst hx'; omega
  · rintro ys τ ⟨xs, rfl, hl, hx, l, hw', rfl⟩
    walk_at "steps"
    exact ⟨_, _, rfl, rfl, hold ⟨xs, rfl, by simp at hl; omega, hx, hw'⟩⟩
theorem p_some {l : List D} (h : WellOk l) {m w : Nat} {i j : Int} (e1 : i = m) (e2 : j = w) (hm : m ≤ 1000) (hw : w ≤ 100000) {Q : D × List D → Prop} (q : ∀ (xs : List Nat) l', xs.length ≤ m → (∀ x ∈ xs, x ≤ w) → WellOk l' → Q (.lst (nats xs), l')) : Got (F_law_some l [.int i, .int j]) Q := by
  subst e1 e2
  obtain ⟨d, l', e, xs, rfl, h1, h2, h3⟩ := p_some0 h hm hw
  exact got e (q xs l' h1 h2 h3)
end Lw
set_option Elab.async false
set_option linter.all false
set_option maxRecDepth 100000
set_option maxHeartbeats 4000000
namespace Lw
open PySem L2 Dv Lg
theorem e_lflags {a b : List Nat} {p n : Nat} (hp : 1 ≤ p) (hpl : p < 1000000) (hn0 : n < 1000000) (hb : ∀ x ∈ b, x < 1000000) :
    F_law_flags [.lst (nats a), .lst (nats b), .int p, .int n] = some (.lst (fl (setS a b p) n)) := by
  have hz : sizeLine = 16777216 := sizeLine_eq
  refine runD_eq ?_
  unfold m_law_flags
  walk_at "steps"
  refine i_lcMR (fun k => .bl (setS a [] p k)) rfl (fun k hk => ?_) ?_
  · walk_at "steps"
    refine o_inN ?_
    refine ⟨?_, rfl⟩
    simp [setS]
  · walk_at "steps"
    refine i_forL (fun items τ => ∃ pre post o o', b = pre ++ post ∧ items = nats post ∧ τ = [some (.val (.lst (nats a))), some (.val (.lst (nats b))), some (.val (.int p)), some (.val (.int n)), some (.own (fl (setS a pre p) n)), o', o]) ?_ ?_ ?_
    · exact ⟨[], b, none, none, rfl, rfl, rfl⟩
    · rintro d ds τ ⟨pre, post, o, o', e, hi, rfl⟩
      cases post with
      | nil => cases hi
      | cons t post =>
        cases hi
        have ht := hb t (by rw [e]; simp)
        walk_at "steps"
        refine o_rng3N (a := t) (b := n) (c := p) rfl rfl rfl (by omega) (by omega) hp (by omega) fun m0 hn => ?_
        refine i_forL (fun items τ => ∃ (m : Nat) (o' : Option Sl), m ≤ m0 ∧ items = nats (((List.range m0).map fun k => t + k * p).drop m) ∧ τ = [some (.val (.lst (nats a))), some (.val (.lst (nats b))), some (.val (.int p)), some (.val (.int n)), some (.own (fl (fun k => setS a pre p k || upTo t p m k) n)), o', some (.val (.int t))]) ?_ ?_ ?_
        · refine ⟨0, o', by omega, rfl, ?_⟩
          rw [show fl (fun k => setS a pre p k || upTo t p 0 k) n = fl (setS a pre p) n from fl_ext fun k _ => by simp [upTo]]
          rfl
        · rintro d ds τ ⟨m, o', hm, hi, rfl⟩
          have hi' : (nats ((List.range m0).map fun k => t + k * p)).drop m = d :: ds := by rw [hi]; simp [nats]
          obtain ⟨x, hx, rfl, rfl, hml⟩ := drop_nats hi'
          have hmn : m < m0 := by simpa using hml
          have hx : x = t + m * p := by
            rw [List.getElem?_map, List.getElem?_range hmn] at hx
            cases hx; rfl
          subst hx
          have hlt := (hn m).mp hmn
          walk_at "steps"
          refine o_setF (k := t + m * p) rfl hlt ?_
          refine ⟨m + 1, some (.val (.int ((t + m * p : Nat) : Int))), by omega, by simp [nats], ?_⟩
          rw [show fl (fun j => if j = t + m * p then true else setS a pre p j || upTo t p m j) n = fl (fun k => setS a pre p k || upTo t p (m + 1) k) n from fl_ext fun k _ => by
            by_cases c : k = t + m * p
            · rw [if_pos c, upTo_iff.mpr ⟨m, by omega, c⟩, Bool.or_true]
            · rw [if_neg c]
              congr 1
              rw [Bool.eq_iff_iff, upTo_iff, upTo_iff]
              refine ⟨fun ⟨j, h1, h2⟩ => ⟨j, by omega, h2⟩, fun ⟨j, h1, hk2⟩ => ⟨j, ?_, hk2⟩⟩
              by_cases cj : j = m
              · subst cj; exact (c hk2).elim
              · omega]
          rfl
        · rintro τ ⟨m, o', hm, hi, rfl⟩
          have hmn : m = m0 := by
            have := congrArg List.length hi
            simp [nats] at this
            omega
          subst hmn
          refine ⟨pre ++ [t], post, some (.val (.int (t : Nat))), o', by simp [e], rfl, ?_⟩
          rw [show fl (fun k => setS a pre p k || upTo t p m k) n = fl (setS a (pre ++ [t]) p) n from fl_ext fun k hk => by
            rw [Bool.eq_iff_iff, Bool.or_eq_true, setS_iff, setS_iff, upTo_iff]
            constructor
            · rintro ((h | ⟨u, hu, h1, h2⟩) | ⟨j, h1, h2⟩)
              · exact .inl h
              · exact .inr ⟨u, by simp [hu], h1, h2⟩
              · exact .inr ⟨t, by simp, by omega, by rw [h2, Nat.add_sub_cancel_left, Nat.mul_mod_left]⟩
            · rintro (h | ⟨u, hu, h1, h2⟩)
              · exact .inl (.inl h)
              · rcases List.mem_append.mp hu with hu | hu
                · exact .inl (.inr ⟨u, hu, h1, h2⟩)
                · have hu : u = t := by simpa using hu
                  subst hu
                  refine .inr ⟨(k - u) / p, ?_, ?_⟩
                  · refine (hn _).mpr ?_
                    have := Nat.div_add_mod (k - u) p
                    rw [h2, Nat.mul_comm] at this
                    omega
                  · have := Nat.div_add_mod (k - u) p
                    rw [h2, Nat.mul_comm] at this
                    omega]
    · rintro τ ⟨pre, post, o, o', e, hi, rfl⟩
      have : post = [] := by simpa [nats] using hi.symm
      subst this
      rw [List.append_nil] at e
      subst e
      walk_at "steps"
      rfl
end Lw
set_option Elab.async false
set_option linter.all false
set_option maxRecDepth 100000
set_option maxHeartbeats 4000000
namespace Dv
open PySem L2
/-- range(a, 0, -1) -/
theorem o_rngDn {i j : Int} {a : Nat} {Q : List D → Prop} (e1 : i = a) (e2 : j = -1) (h1 : a < 1000000000) (q : Q (nats ((List.range a).map fun k => a - k))) : Op (rng3 [.int i, .int 0, .int j]) Q := by
  subst e1 e2
  have e : Builtin.Range.rangeSize (a : Int) 0 (-1) = a := by
    unfold Builtin.Range.rangeSize
    rw [if_neg (by omega)]
    by_cases h : a = 0
    · subst h; rfl
    · rw [if_pos (by omega), show (-(-1) : Int) = 1 from rfl, Int.ediv_one]; omega
  have hs : Builtin.Range.small (a : Int) 0 (-1) = true := by
    unfold Builtin.Range.small
    rw [e, if_neg (by omega)]
    have F : ∀ x : Int, -(2 ^ 62) ≤ x → x < 2 ^ 62 → Builtin.Range.rangeFitsLong x = true := fun x a b => by
      unfold Builtin.Range.rangeFitsLong
      rw [Bool.and_eq_true, decide_eq_true_eq, decide_eq_true_eq]
      omega
    rw [F a (by omega) (by omega), F 0 (by omega) (by omega), F (-1) (by omega) (by omega), F _ (by omega) (by omega)]
    simp
  refine ⟨rangeD a a (-1), ?_, ?_⟩
  · have hR : RgOk3 (a : Int) 0 (-1) := ⟨by omega, by omega, hs, by rw [e]; omega⟩
    unfold rng3
    dsimp only
    rw [if_pos hR, e]
    rfl
  · have : rangeD (a : Int) a (-1) = nats ((List.range a).map fun k => a - k) := by
      unfold rangeD nats
      rw [List.map_map]
      refine List.map_congr_left fun k hk => ?_
      have := List.mem_range.mp hk
      refine congrArg D.int (?_ : (a : Int) + (k : Int) * -1 = ((a - k : Nat) : Int))
      omega
    rw [this]
    exact q
end Dv
namespace Lw
open PySem L2 Dv Lg
theorem p_comes {S : Nat → Bool} {f p N s : Nat} (h : Per S f p) (hN : f + p ≤ N) (hf : f < 1000000) (hp : p < 1000000) (hs : 1 ≤ s) (hs2 : s < 1000000) :
    ∃ d, F_law_comes [.lst (fl S N), .int f, .int p, .int s] = some d ∧ Hold (∃ b : Bool, d = .bl b ∧ (b = true ↔ p % s = 0 ∧ Per S f s)) := by
  have hp1 := h.1
  have hz : sizeLine = 16777216 := sizeLine_eq
  refine runD_ex ?_
  unfold m_law_comes
  walk_at "steps"
  refine br (fun hd => ?_) (fun hd => ?_)
  · have hd : ((p : Int) % (s : Int)) = 0 := of_decide_eq_true hd
    have hd : p % s = 0 := by rw [← Int.natCast_emod] at hd; omega
    walk_at "steps"
    refine i_lcMR (fun k => .bl (S (f + (k + s) % p))) rfl (fun k hk => ?_) ?_
    · walk_at "steps"
      refine o_ixF (k := f + (k + s) % p) (by
        rw [← Int.natCast_add, ← Int.natCast_emod, ← Int.natCast_add]) (by
        have := Nat.mod_lt (k + s) (show p > 0 by omega)
        omega) ?_
      exact ⟨rfl, rfl⟩
    · walk_at "steps"
      refine o_cutF (a := f) (b := f + p) rfl (by omega) (by omega) hN ?_
      rw [show f + p - f = p by omega]
      refine o_eqF ?_
      walk_at "steps"
      exact hold ⟨_, rfl, by rw [decide_eq_true_eq, cyc_iff h hs]; exact ⟨fun z => ⟨hd, z⟩, fun z => z.2⟩⟩
  · have hd : ¬ ((p : Int) % (s : Int)) = 0 := of_decide_eq_false hd
    walk_at "steps"
    refine hold ⟨false, rfl, ⟨fun z => (nomatch z), fun z => ?_⟩⟩
    exact (hd (by rw [← Int.natCast_emod, z.1]; rfl)).elim
def lformD (S : Nat → Bool) (f p : Nat) : D := .tup [.int f, .int p, .lst (nats (mem S (f + p)))]
theorem p_lawform {S : Nat → Bool} {f p N : Nat} (h : Per S f p) (hN : f + p ≤ N) (hf : f < 1000000) (hp : p < 1000000) :
    ∃ d, F_law_form [.lst (fl S N), .int f, .int p] = some d ∧ Hold (∃ f' p', d = lformD S f' p' ∧ Least S f' p' ∧ f' ≤ f ∧ p' ≤ p) := by
  have hp1 := h.1
  have hz : sizeLine = 16777216 := sizeLine_eq
  refine runD_ex ?_
  unfold m_law_form
  walk_at "steps"
  refine o_rngDn (a := p - 1) (by omega) rfl (by omega) ?_
  refine i_forL (fun items τ => ∃ (j st : Nat) (o : Option Sl), j ≤ p - 1 ∧ items = (nats ((List.range (p - 1)).map fun k => p - 1 - k)).drop j ∧ Per S f st ∧ st ≤ p ∧ (∀ s, p - 1 - j < s → s < st → ¬ (p % s = 0 ∧ Per S f s)) ∧ τ = [some (.val (.lst (fl S N))), some (.val (.int f)), some (.val (.int p)), some (.val (.int st)), some (.val (.int f)), o, none]) ?_ ?_ ?_
  · exact ⟨0, p, none, by omega, rfl, h, Nat.le_refl _, fun s h1 h2 => by omega, rfl⟩
  · rintro d ds τ ⟨j, st, o, hj, hi, hst, hst2, hno, rfl⟩
    obtain ⟨x, hx, rfl, rfl, hjl⟩ := drop_nats hi.symm
    have hjl : j < p - 1 := by simpa using hjl
    have hx : x = p - 1 - j := by
      rw [List.getElem?_map, List.getElem?_range hjl] at hx
      cases hx; rfl
    obtain ⟨_, ec, b, rfl, hb⟩ := p_comes (s := x) h hN hf hp (by omega) (by omega)
    (repeat' (first | ((with_reducible apply i_v); rfl) | ((with_reducible refine gotE (ec) ?_ ?_); rfl) | walk_at "a step"))
    refine br (fun c => ?_) (fun c => ?_)
    · walk_at "steps"
      exact ⟨j + 1, x, _, by omega, rfl, (hb.mp c).2, by omega, fun s h1 h2 => by omega, rfl⟩
    · walk_at "steps"
      refine ⟨j + 1, st, _, by omega, rfl, hst, hst2, fun s h1 h2 h3 => ?_, rfl⟩
      by_cases cs : s = x
      · subst cs
        rw [hb.mpr h3] at c
        cases c
      · exact hno s (by omega) h2 h3
  · rintro τ ⟨j, m, o, hj, hi, hm1, hm, hno, rfl⟩
    have hj : j = p - 1 := by
      have := congrArg List.length hi
      simp [nats] at this
      omega
    subst hj
    have hm2 : ∀ q, Per S f q → m ≤ q := fun q hq => by
      obtain ⟨m', h1, h2, h3⟩ := per_least h
      have hd := Nat.mod_eq_zero_of_dvd (least_dvd h h2 h3)
      have hm1' := h2.1
      have : m ≤ m' := by
        by_cases c : m ≤ m'
        · exact c
        · exact (hno m' (by omega) (by omega) ⟨hd, h2⟩).elim
      have := h3 q hq
      omega
    walk_at "steps"
    refine i_while (n := f) (fun n τ => n ≤ f ∧ Per S n m ∧ τ = [some (.val (.lst (fl S N))), some (.val (.int f)), some (.val (.int p)), some (.val (.int m)), some (.val (.int n)), o, none]) ?_ ⟨Nat.le_refl _, hm1, rfl⟩
    rintro n τ ⟨h1, h2, rfl⟩
    have fin : (n = 0 ∨ S (n - 1) ≠ S (n - 1 + m)) → Least S n m := fun hs => least_of h2 (fun q hq => hm2 q (hm1.start hq)) hs
    have last : Least S n m → Ok (sRet (mTup (aCons (vR 4) (aCons (vR 3) (aCons (mBind (mLc (mBind (aCons (m2 addD (vR 4) (vR 3)) (aNil)) fun l => mLift (rng1 l)) (gN 6) (mTru (m2 ixD (vR 0) (vR 6))) (vR 6) [6]) fun l => mPure (.lst l)) (aNil)))))) [some (.val (.lst (fl S N))), some (.val (.int f)), some (.val (.int p)), some (.val (.int m)), some (.val (.int n)), o, none] fun fl x => ∃ d, fl = Fl.rt d ∧ Hold (∃ f' p', d = lformD S f' p' ∧ Least S f' p' ∧ f' ≤ f ∧ p' ≤ p) := fun hl => by
      walk_at "steps"
      rw [show ((n : Int) + (m : Int)).toNat = n + m by omega]
      refine i_lcPR S (fun (k : Nat) => D.int k) rfl (fun k hk => ?_) (fun k hk _ => ?_) ?_
      · walk_at "steps"
        refine o_ixF (k := k) rfl (by omega) ?_
        walk_at "steps"
        rfl
      · walk_at "steps"
        rfl
      · walk_at "steps"
        exact hold ⟨n, m, rfl, hl, h1, hm⟩
    walk_at "steps"
    refine br (fun c => ?_) (fun c => ?_)
    · have c : (0 : Int) < n := of_decide_eq_true c
      walk_at "steps"
      refine o_ixF (k := n - 1) (by omega) (by omega) ?_
      walk_at "steps"
      refine o_ixF (k := n - 1 + m) (by omega) (by omega) ?_
      walk_at "steps"
      refine br (fun hc => ?_) (fun hc => ?_)
      · have hc : S (n - 1) = S (n - 1 + m) := eq_of_beq hc
        walk_at "steps"
        refine ⟨n - 1, by omega, by omega, ⟨hm1.1, fun k hk => ?_⟩, by rw [show ((n - 1 : Nat) : Int) = (n : Int) - 1 by omega]; rfl⟩
        by_cases ck : k = n - 1
        · subst ck; exact hc.symm
        · exact h2.2 k (by omega)
      · have hc : S (n - 1) ≠ S (n - 1 + m) := fun z => by
          have hc : (S (n - 1) == S (n - 1 + m)) = false := hc
          rw [z, beq_self_eq_true] at hc; cases hc
        exact last (fin (.inr hc))
    · have c : ¬ (0 : Int) < n := of_decide_eq_false c
      exact last (fin (.inl (by omega)))
end Lw
set_option Elab.async false
set_option linter.all false
set_option maxRecDepth 100000
set_option maxHeartbeats 4000000
namespace Dv
open PySem L2
theorem niceS_of (s : String) : niceS (s : Str) = true := niceS_ok.mpr fun c hc => by
  have e : ((s : Str)).cps.toList = s.toList.map Char.toNat := by
    show (Str.ofString s).cps.toList = _
    rw [Str.ofString_eq_toList]
  rw [e] at hc
  obtain ⟨k, _, rfl⟩ := List.mem_map.mp hc
  have := k.valid
  have h : k.toNat.isValidChar := this
  rcases h with h | h <;> omega
theorem niceS_app {x y : Str} (hx : niceS x = true) (hy : niceS y = true) : niceS (x ++ y) = true := niceS_ok.mpr fun c hc => by
  rw [app_toList] at hc
  rcases List.mem_append.mp hc with h | h
  · exact niceS_ok.mp hx c h
  · exact niceS_ok.mp hy c h
theorem o_or {α : Type} {f g : Option α} {Q : α → Prop} (h : Op f Q) : Op (f.or g) Q := by
  obtain ⟨a, e, q⟩ := h
  exact ⟨a, by rw [e]; rfl, q⟩
theorem o_or2 {α : Type} {f g : Option α} {Q : α → Prop} (e : f = none) (h : Op g Q) : Op (f.or g) Q := by
  subst e
  obtain ⟨a, e, q⟩ := h
  exact ⟨a, by rw [e]; rfl, q⟩
theorem nices_nats {l : List Nat} (h : ∀ x ∈ l, x < 1000000000) : nices (nats l) = true := nices_ok.mpr fun d hd => by
  obtain ⟨k, hk, rfl⟩ := nats_mem hd
  have := h k hk
  exact decide_eq_true (by omega)
theorem deps_nats (l : List Nat) : deps (nats l) = 0 := by
  unfold nats
  induction l with
  | nil => rfl
  | cons k r ih => simp only [List.map_cons, deps, ih, dep]; rfl
theorem weis_nats (l : List Nat) : weis (nats l) = 41 * l.length := by
  unfold nats
  induction l with
  | nil => rfl
  | cons k r ih => simp only [List.map_cons, weis, ih, wei, List.length_cons]; omega
theorem deps_strs (l : List Str) : deps (l.map D.str) = 0 := by
  induction l with
  | nil => rfl
  | cons k r ih => simp only [List.map_cons, deps, ih, dep]; rfl
theorem br_two {c : Bool} {f g : M D} {τ : Sd} {R : D → Sd → Prop} (d : D) (h1 : c = true → Ok f τ fun a t => a = d ∧ t = τ) (h2 : c = false → Ok g τ fun a t => a = d ∧ t = τ) (q : R d τ) : Br c (Ok f τ R) (Ok g τ R) := by
  refine br (fun h => ?_) (fun h => ?_)
  · obtain ⟨a, t, e, rfl, rfl⟩ := h1 h
    exact ⟨_, _, e, q⟩
  · obtain ⟨a, t, e, rfl, rfl⟩ := h2 h
    exact ⟨_, _, e, q⟩
/-- x != [] -/
theorem o_nil {neg : Bool} {l : List D} {Q : D → Prop} (h : nices l = true) (h2 : deps l = 0) (q : Q (.bl (l.isEmpty != neg))) : Op (eqD neg (.lst l) (.lst [])) Q :=
  o_eq h rfl (by rw [dep, h2]; decide) (by decide) (by
    have : eqvD (.lst l) (.lst []) = l.isEmpty := by cases l <;> rfl
    rw [this]; exact q)
end Dv
namespace Lw
open PySem L2 Dv Lg
theorem word_nice (f p k : Nat) : niceS (word f p k) = true := by
  unfold word
  split
  · exact niceS_of _
  · exact niceS_app (niceS_app (niceS_of _) (niceS_of _)) (niceS_of _)
theorem words_nice (f p : Nat) (l : List Nat) : nices ((l.map (word f p)).map D.str) = true := nices_ok.mpr fun d hd => by
  obtain ⟨w, hw, rfl⟩ := List.mem_map.mp hd
  obtain ⟨k, hk, rfl⟩ := List.mem_map.mp hw
  exact word_nice f p k
theorem e_ltext {S : Nat → Bool} {f p : Nat} (hf : f < 50000) (hp : p < 50000) : F_law_text [lformD S f p] = some (.str (textS S f p)) := by
  have hz : sizeLine = 16777216 := sizeLine_eq
  refine runD_eq ?_
  unfold m_law_text
  walk_at "steps"
  refine ⟨by rw [nats_length, hz]; have := mem_length S (f + p); omega, ?_⟩
  refine i_lcM (mem S (f + p)) (fun (k : Nat) => D.int k) (fun k => .str (word f p k)) rfl (fun k hk => ?_) ?_
  · have hk := (mem_lt hk).1
    have h1 := num_len (k := k) (by omega)
    have h2 := num_len (k := p) (by omega)
    walk_at "steps"
    refine br (fun c => ?_) (fun c => ?_)
    · have c : (k : Int) < f := of_decide_eq_true c
      walk_at "steps"
      exact ⟨by unfold word; rw [if_pos (by omega)], rfl⟩
    · have c : ¬ (k : Int) < f := of_decide_eq_false c
      (repeat' (first | ((with_reducible apply i_v); rfl) | ((with_reducible refine o_addS ?_ ?_); (focus (rw [sizeLine_eq]; (try simp only [strLen_append, L_pl]); omega))) | ((with_reducible refine o_fmtS ?_ ?_); (focus (rw [sizeLine_eq]; (try simp only [strLen_append, L_pl]); omega))) | ((with_reducible refine o_lenS ?_ ?_); (focus (rw [sizeLine_eq]; (try simp only [strLen_append, L_pl]); omega))) | ((with_reducible refine And.intro ?_ ?_); (focus (rw [sizeLine_eq]; (try simp only [strLen_append, L_pl]); omega))) | walk_at "a step"))
      exact ⟨by unfold word; rw [if_neg (by omega)], rfl⟩
  · have e2 : (mem S (f + p)).map (fun k => D.str (word f p k)) = ((mem S (f + p)).map (word f p)).map D.str := by simp
    walk_at "steps"
    rw [e2]
    refine o_nil (words_nice f p _) (deps_strs _) ?_
    walk_at "steps"
    by_cases c : mem S (f + p) = []
    · refine brYes (by rw [c]; rfl) ?_
      walk_at "steps"
      unfold textS
      rw [if_pos c]
      rfl
    · refine brNo (by
        cases h : mem S (f + p) with
        | nil => exact (c h).elim
        | cons x r => rfl) ?_
      walk_at "steps"
      refine o_joinW (by rw [L_sp]; omega) (words_len hf hp) (by rw [List.length_map]; have := mem_length S (f + p); omega) ?_
      unfold textS
      rw [if_neg c]
      rfl
/-- whether some come again, as the law looks at it -/
theorem ends_iff (S : Nat → Bool) (f p : Nat) : endS S f p = !((mem S (f + p)).filter fun k => decide (f ≤ k)).isEmpty := by
  rw [Bool.eq_iff_iff]
  unfold endS
  rw [List.any_eq_true, Bool.not_eq_true']
  constructor
  · rintro ⟨k, hk, hS⟩
    cases e : (mem S (f + p)).filter fun k => decide (f ≤ k) with
    | cons _ _ => rfl
    | nil =>
      have : f + k ∈ (mem S (f + p)).filter fun k => decide (f ≤ k) := by
        rw [List.mem_filter]
        unfold mem
        rw [List.mem_filter, List.mem_range]
        exact ⟨⟨by have := List.mem_range.mp hk; omega, hS⟩, decide_eq_true (by omega)⟩
      rw [e] at this; cases this
  · intro h
    cases e : (mem S (f + p)).filter fun k => decide (f ≤ k) with
    | nil => rw [e] at h; cases h
    | cons k r =>
      have hk : k ∈ (mem S (f + p)).filter fun k => decide (f ≤ k) := by rw [e]; simp
      rw [List.mem_filter] at hk
      have h1 := mem_lt hk.1
      have h2 : f ≤ k := of_decide_eq_true hk.2
      exact ⟨k - f, List.mem_range.mpr (by omega), by rw [show f + (k - f) = k by omega]; exact h1.2⟩
theorem isEmpty_nats (l : List Nat) : (nats l).isEmpty = l.isEmpty := by cases l <;> rfl
theorem ne_same (a : Str) : neX (.str a) (.str a) = some (.bl false) := by
  show some (D.bl (decide (a = a) != true)) = _
  simp
theorem eq_lit {a b : Str} (h : a = b) : eqX (.str a) (.str b) = some (.bl true) := by
  show some (D.bl (decide (a = b) != false)) = _
  simp [h]
theorem strX_l {c : Nat} (hc : c = 0 ∨ c = 1) {S : Nat → Bool} {f p : Nat} (hf : f < 50000) (hp : p < 50000) : strX [.obj c [formD S f p]] = some (.str (textS S f p)) := by
  have := e_str hc (S := S) hf hp
  rcases hc with rfl | rfl
  · show (none : Option D).or (strO [0, 1] F_Lagsx_strx [.obj 0 [formD S f p]]) = _
    simp only [strO, this, Option.none_or]
    rfl
  · show (none : Option D).or (strO [0, 1] F_Lagsx_strx [.obj 1 [formD S f p]]) = _
    simp only [strO, this, Option.none_or]
    rfl
theorem reprX_l {c : Nat} (hc : c = 0 ∨ c = 1) {S : Nat → Bool} {f p : Nat} (hf : f < 50000) (hp : p < 50000) : reprX [.obj c [formD S f p]] = some (.str (reprS (textS S f p))) := by
  have := e_repr hc (S := S) hf hp
  rcases hc with rfl | rfl
  · show (none : Option D).or (strO [0, 1] F_Lagsx_reprx [.obj 0 [formD S f p]]) = _
    simp only [strO, this, Option.none_or]
    rfl
  · show (none : Option D).or (strO [0, 1] F_Lagsx_reprx [.obj 1 [formD S f p]]) = _
    simp only [strO, this, Option.none_or]
    rfl
theorem boolX_l {c : Nat} (hc : c = 0 ∨ c = 1) {S : Nat → Bool} {f p : Nat} : boolX [.obj c [formD S f p]] = some (.bl (!(mem S (f + p)).isEmpty)) := by
  have := e_bool hc S f p
  rw [any_mem] at this
  rcases hc with rfl | rfl
  · show (none : Option D).or (bolO [0, 1] F_Lagsx_boolx [.obj 0 [formD S f p]]) = _
    simp only [bolO, truO, this, Option.none_or]
    rfl
  · show (none : Option D).or (bolO [0, 1] F_Lagsx_boolx [.obj 1 [formD S f p]]) = _
    simp only [bolO, truO, this, Option.none_or]
    rfl
def shownD (S : Nat → Bool) (f p : Nat) : D := .lst [.int f, .int p, .tup (nats (mem S (f + p))), firstD (mem S (f + p)), .bl (endS S f p), .bl (!(mem S (f + p)).isEmpty)]
theorem mem_nice {S : Nat → Bool} {n : Nat} (h : n < 1000000) : nices (nats (mem S n)) = true := nices_nats fun x hx => by have := (mem_lt hx).1; omega
theorem first_nice {S : Nat → Bool} {n : Nat} (h : n < 1000000) : nice (firstD (mem S n)) = true := by
  have h1 := mem_nice (S := S) h
  cases e : mem S n with
  | nil => rfl
  | cons k r =>
    rw [e] at h1
    simp only [nats, List.map_cons, nices, Bool.and_eq_true] at h1
    exact h1.1
theorem r_shown {S : Nat → Bool} {f p : Nat} (hf : f < 10000) (hp : p < 10000) : reprX [shownD S f p] = some (.str (shD (shownD S f p))) := by
  have h1 : niceI (f : Int) = true := decide_eq_true (by omega)
  have h2 : niceI (p : Int) = true := decide_eq_true (by omega)
  have h3 := mem_length S (f + p)
  have e : reprD [shownD S f p] = some (.str (shD (shownD S f p))) := reprD_nice (by
      simp only [shownD, nice, nices, h1, h2, mem_nice (S := S) (show f + p < 1000000 by omega), first_nice (S := S) (show f + p < 1000000 by omega), Bool.and_self]) (by
      have : dep (firstD (mem S (f + p))) = 0 := by cases mem S (f + p) <;> rfl
      simp only [shownD, dep, deps, deps_nats, this]
      decide) (by
      have : wei (firstD (mem S (f + p))) ≤ 40 := by cases mem S (f + p) <;> simp [firstD, wei]
      simp only [shownD, wei, weis, weis_nats]
      omega)
  show (reprD [shownD S f p]).or _ = _
  rw [e]
  rfl
theorem neX_nil {l : List D} {Q : D → Prop} (h : nices l = true) (h2 : deps l = 0) (q : Q (.bl (!l.isEmpty))) : Op (neX (.lst l) (.lst [])) Q := o_or (o_nil h h2 (by rw [Bool.bne_true]; exact q))
theorem e_lis {c : Nat} (hc : c = 0 ∨ c = 1) {S : Nat → Bool} {f p : Nat} (hf : f < 10000) (hp : p < 10000) : F_law_is [.obj c [formD S f p], lformD S f p] = some (.bl true) := by
  have hz : sizeLine = 16777216 := sizeLine_eq
  have hm := mem_nice (S := S) (show f + p < 1000000 by omega)
  have ht := textS_len (S := S) (f := f) (p := p) (by omega) (by omega)
  have em := e_members hc (S := S) (f := f) (p := p) (by omega) (by omega)
  have ef := e_first hc (S := S) (f := f) (p := p) (by omega) (by omega)
  have et := e_ltext (S := S) (f := f) (p := p) (by omega) (by omega)
  have ex := strX_l hc (S := S) (f := f) (p := p) (by omega) (by omega)
  have er := reprX_l hc (S := S) (f := f) (p := p) (by omega) (by omega)
  have eb := boolX_l hc (S := S) (f := f) (p := p)
  have es := e_start c hc S f p
  have ep := e_period c hc S f p
  have ee := e_endless hc S f p
  refine runD_eq ?_
  unfold m_law_is
  (repeat' (first | ((with_reducible apply i_v); rfl) | (with_reducible refine isi hc _ ?_) | (with_reducible refine And.intro (isob hc _) ?_) | ((with_reducible refine gotE (es) ?_ ?_); rfl) | ((with_reducible refine gotE (ep) ?_ ?_); rfl) | ((with_reducible refine gotE (em) ?_ ?_); rfl) | ((with_reducible refine gotE (ef) ?_ ?_); rfl) | ((with_reducible refine gotE (ee) ?_ ?_); rfl) | with_reducible apply opr (eb) | (with_reducible refine neX_nil hm (deps_nats _) ?_) | walk_at "a step"))
  rw [isEmpty_nats]
  refine br_two (firstD (mem S (f + p))) (fun h => ?_) (fun h => ?_) ?_
  · walk_at "steps"
    have : mem S (f + p) = [] := List.isEmpty_iff.mp h
    rw [this]
    exact ⟨rfl, rfl⟩
  · walk_at "steps"
    cases e : mem S (f + p) with
    | nil => rw [e] at h; cases h
    | cons k r => exact ⟨.int (k : Nat), by simp only [ixD, nats, List.map_cons]; exact at_zero, rfl, rfl⟩
  · walk_at "steps"
    refine ⟨by rw [nats_length, hz]; have := mem_length S (f + p); omega, ?_⟩
    refine i_lcP (mem S (f + p)) (fun (k : Nat) => D.int k) (fun k => decide (f ≤ k)) (fun (k : Nat) => D.int k) rfl (fun k hk => ?_) (fun k hk _ => ?_) ?_
    · walk_at "steps"
      exact ⟨decide_eq_decide.mpr (by omega), rfl⟩
    · walk_at "steps"
      rfl
    · walk_at "steps"
      refine neX_nil (l := nats ((mem S (f + p)).filter fun k => decide (f ≤ k))) (nices_nats fun x hx => by have := (mem_lt (List.mem_filter.mp hx).1).1; omega) (deps_nats _) ?_
      (repeat' (first | ((with_reducible apply i_v); rfl) | (with_reducible refine neX_nil hm (deps_nats _) ?_) | walk_at "a step"))
      rw [isEmpty_nats, isEmpty_nats, ← ends_iff]
      have er2 := r_shown (S := S) (f := f) (p := p) hf hp
      unfold shownD at er2
      simp only [List.cons_append, List.nil_append]
      (repeat' (first | ((with_reducible apply i_v); rfl) | with_reducible apply opr (er2) | with_reducible apply opr (ne_same _) | with_reducible apply opr (ex) | ((with_reducible refine gotE (et) ?_ ?_); rfl) | with_reducible apply opr (er) | with_reducible apply opr (eq_lit rfl) | walk_at "a step"))
      refine o_addS (by rw [hz, L_la]; omega) ?_
      walk_at "steps"
      refine o_addS (by rw [hz, strLen_append, L_la, L_qb]; omega) ?_
      walk_at "steps"
      have e3 : reprS (textS S f p) = Str.ofString "Lags('" ++ textS S f p ++ Str.ofString "')" := rfl
      rw [decide_eq_true e3]
      rfl
end Lw
set_option Elab.async false
set_option linter.all false
set_option maxRecDepth 100000
set_option maxHeartbeats 4000000
namespace Dv
open PySem L2
theorem i_lcMH {i n : Nat} {te : M D} {τ : Sd} {Q : List D → Sd → Prop} (y : Nat → D) (hτ : τ.set i none = τ) (h2 : ∀ k, k < n → Ok te (τ.set i (some (.val (.int (k : Nat))))) fun z τ2 => Hold (z = y k ∧ τ2 = τ.set i (some (.val (.int (k : Nat)))))) (q : Q ((List.range n).map y) τ) : Ok (lcL (gN i) (mPure true) te [i] (rangeD 0 n 1)) τ Q := i_lcMR y hτ h2 q
theorem i_lcPH {i n : Nat} {tt : M Bool} {te : M D} {τ : Sd} {Q : List D → Sd → Prop} (p : Nat → Bool) (y : Nat → D) (hτ : τ.set i none = τ)
    (h1 : ∀ k, k < n → Ok tt (τ.set i (some (.val (.int (k : Nat))))) fun b τ2 => Hold (b = p k ∧ τ2 = τ.set i (some (.val (.int (k : Nat))))))
    (h2 : ∀ k, k < n → p k = true → Ok te (τ.set i (some (.val (.int (k : Nat))))) fun z τ2 => z = y k ∧ τ2 = τ.set i (some (.val (.int (k : Nat)))))
    (q : Q (((List.range n).filter p).map y) τ) : Ok (lcL (gN i) tt te [i] (rangeD 0 n 1)) τ Q := i_lcPR p y hτ h1 h2 q
end Dv
namespace Lg
/-- the set moved by b -/
def shS (S : Nat → Bool) (b : Int) (k : Nat) : Bool := decide (b ≤ (k : Int)) && S ((k : Int) - b).toNat
theorem shS_per {S : Nat → Bool} {f p g : Nat} (h : Per S f p) (b : Int) (hg : (f : Int) + b ≤ g) : Per (shS S b) g p := ⟨h.1, fun k hk => by
  unfold shS
  have h1 : b ≤ ((k + p : Nat) : Int) := by omega
  have h2 : b ≤ (k : Int) := by omega
  rw [decide_eq_true h1, decide_eq_true h2, Bool.true_and, Bool.true_and]
  have e : (((k + p : Nat) : Int) - b).toNat = ((k : Int) - b).toNat + p := by omega
  rw [e]
  exact h.2 _ (by omega)⟩
end Lg
namespace Lw
open PySem L2 Dv Lg
variable {S : Nat → Bool} {f p : Nat}
theorem e_flagatI (h : Per S f p) {i : Int} (hi : 0 ≤ i) : F_flag_at [formD S f p, .int i] = some (.bl (S i.toNat)) := by
  obtain ⟨k, rfl⟩ : ∃ k : Nat, i = k := ⟨i.toNat, by omega⟩
  exact e_flagat h
theorem e_isintN (k : Nat) : F_is_integer [.int (k : Nat)] = some (.bl true) := rfl
theorem x_bounded {S : Nat → Bool} {f p : Nat} (h : f + p ≤ 2000) : FX_bounded [formD S f p] = some (.ok (.obj 1 [formD S f p])) := by
  obtain ⟨_, e, rfl⟩ := runX_ok (n := 1) (f := mx_bounded) (ds := [formD S f p]) (P := fun d => d = .obj 1 [formD S f p]) (by
    unfold mx_bounded formD
    walk_at "steps"
    exact got (e_with _) ⟨_, rfl, rfl⟩)
  exact e
theorem x_bounded2 {S : Nat → Bool} {f p : Nat} (h : 2000 < f + p) : FX_bounded [formD S f p] = some (.ex 42 [.int 2000]) := by
  refine runX_ex ?_
  unfold mx_bounded formD
  walk_at "steps"
  rfl
/-- both readings of shifted -/
theorem p_shift {c : Nat} (hc : c = 0 ∨ c = 1) (h : Per S f p) (hf : f ≤ 5000) (hp : p ≤ 1000) {b : Int} (b1 : -1000 ≤ b) (b2 : b ≤ 1000) :
    ∃ s L, Least (shS S b) s L ∧ s ≤ 6000 ∧ L ≤ p ∧ (s : Int) ≤ max 0 (f + b) ∧
      (s + L ≤ 2000 → F_Lags_shifted [.obj c [formD S f p], .int b] = some (.obj 1 [formD (shS S b) s L]) ∧ FX_Lags_shifted [.obj c [formD S f p], .int b] = some (.ok (.obj 1 [formD (shS S b) s L]))) ∧
      (2000 < s + L → FX_Lags_shifted [.obj c [formD S f p], .int b] = some (.ex 42 [.int 2000])) := by
  have hp1 := h.1
  obtain ⟨g, hg⟩ : ∃ g : Nat, (g : Int) = max 0 ((f : Int) + b) := ⟨(max 0 ((f : Int) + b)).toNat, by omega⟩
  have hper : Per (shS S b) g p := shS_per h b (by omega)
  obtain ⟨_, e3, s, L, rfl, hl, hl1, hl2⟩ := p_lform (N := g + p) hper (Nat.le_refl _) (by omega) (by omega)
  have e1 := e_isint b
  have eg : (if (f : Int) + b > 0 then (f : Int) + b else 0) = (g : Int) := by split <;> omega
  refine ⟨s, L, hl, by omega, hl2, by omega, fun hs => ⟨?_, ?_⟩, fun hs => ?_⟩
  · have e4 := e_bounded (S := shS S b) (f := s) (p := L) hs
    refine runD_eq ?_
    unfold m_Lags_shifted
    (repeat' (first | ((with_reducible apply i_v); rfl) | ((with_reducible refine gotE (e1) ?_ ?_); rfl) | (with_reducible refine o_form hc ?_) | walk_at "a step"))
    rw [eg, show ((g : Int) + p).toNat = g + p by omega]
    refine i_lcMH (fun k => .bl (shS S b k)) rfl (fun k hk => ?_) ?_
    · walk_at "steps"
      refine br (fun z => ?_) (fun z => ?_)
      · have z : b ≤ (k : Int) := of_decide_eq_true z
        have e5 := e_flagatI h (i := (k : Int) - b) (by omega)
        (repeat' (first | ((with_reducible apply i_v); rfl) | (with_reducible refine o_form hc ?_) | ((with_reducible refine gotE (e5) ?_ ?_); rfl) | walk_at "a step"))
        exact hold ⟨by unfold shS; rw [decide_eq_true z, Bool.true_and], rfl⟩
      · walk_at "steps"
        exact hold ⟨by unfold shS; rw [show decide (b ≤ (k : Int)) = false from z, Bool.false_and]; exact congrArg D.bl z, rfl⟩
    · walk_at "steps"
      rw [show ((g : Int)) = ((g : Nat) : Int) from rfl]
      refine got e3 ?_
      (repeat' (first | ((with_reducible apply i_v); rfl) | ((with_reducible refine gotE (e4) ?_ ?_); rfl) | walk_at "a step"))
      rfl
  · have e4 := x_bounded (S := shS S b) (f := s) (p := L) hs
    obtain ⟨_, e, rfl⟩ := runX_ok (n := 6) (f := mx_Lags_shifted) (ds := [.obj c [formD S f p], .int b]) (P := fun d => d = .obj 1 [formD (shS S b) s L]) (by
    unfold mx_Lags_shifted
    (repeat' (first | ((with_reducible apply i_v); rfl) | ((with_reducible refine gotE (e1) ?_ ?_); rfl) | (with_reducible refine o_form hc ?_) | walk_at "a step"))
    rw [eg, show ((g : Int) + p).toNat = g + p by omega]
    refine i_lcMH (fun k => .bl (shS S b k)) rfl (fun k hk => ?_) ?_
    · walk_at "steps"
      refine br (fun z => ?_) (fun z => ?_)
      · have z : b ≤ (k : Int) := of_decide_eq_true z
        have e5 := e_flagatI h (i := (k : Int) - b) (by omega)
        (repeat' (first | ((with_reducible apply i_v); rfl) | (with_reducible refine o_form hc ?_) | ((with_reducible refine gotE (e5) ?_ ?_); rfl) | walk_at "a step"))
        exact hold ⟨by unfold shS; rw [decide_eq_true z, Bool.true_and], rfl⟩
      · walk_at "steps"
        exact hold ⟨by unfold shS; rw [show decide (b ≤ (k : Int)) = false from z, Bool.false_and]; exact congrArg D.bl z, rfl⟩
    · walk_at "steps"
      rw [show ((g : Int)) = ((g : Nat) : Int) from rfl]
      refine got e3 ?_
      (repeat' (first | ((with_reducible apply i_v); rfl) | ((with_reducible refine gotE (e4) ?_ ?_); rfl) | walk_at "a step"))
      rfl)
    exact e
  · have e4 := x_bounded2 (S := shS S b) (f := s) (p := L) hs
    refine runX_ex ?_
    unfold mx_Lags_shifted
    (repeat' (first | ((with_reducible apply i_v); rfl) | ((with_reducible refine gotE (e1) ?_ ?_); rfl) | (with_reducible refine o_form hc ?_) | walk_at "a step"))
    rw [eg, show ((g : Int) + p).toNat = g + p by omega]
    refine i_lcMH (fun k => .bl (shS S b k)) rfl (fun k hk => ?_) ?_
    · walk_at "steps"
      refine br (fun z => ?_) (fun z => ?_)
      · have z : b ≤ (k : Int) := of_decide_eq_true z
        have e5 := e_flagatI h (i := (k : Int) - b) (by omega)
        (repeat' (first | ((with_reducible apply i_v); rfl) | (with_reducible refine o_form hc ?_) | ((with_reducible refine gotE (e5) ?_ ?_); rfl) | walk_at "a step"))
        exact hold ⟨by unfold shS; rw [decide_eq_true z, Bool.true_and], rfl⟩
      · walk_at "steps"
        exact hold ⟨by unfold shS; rw [show decide (b ≤ (k : Int)) = false from z, Bool.false_and]; exact congrArg D.bl z, rfl⟩
    · walk_at "steps"
      rw [show ((g : Int)) = ((g : Nat) : Int) from rfl]
      refine got e3 ?_
      (repeat' (first | ((with_reducible apply i_v); rfl) | ((with_reducible refine gotE (e4) ?_ ?_); rfl) | walk_at "a step"))
      rfl
theorem e_upto {c : Nat} (hc : c = 0 ∨ c = 1) (h : Per S f p) {n : Nat} (hn : n ≤ 5000) : F_Lags_upto [.obj c [formD S f p], .int n] = some (.tup (nats (mem S (n + 1)))) := by
  have e1 := e_isint (n : Int)
  refine runD_eq ?_
  unfold m_Lags_upto
  (repeat' (first | ((with_reducible apply i_v); rfl) | ((with_reducible refine gotE (e1) ?_ ?_); rfl) | walk_at "a step"))
  rw [show ((n : Int) + 1).toNat = n + 1 by omega]
  refine i_lcPH S (fun k => .int (k : Nat)) rfl (fun k hk => ?_) (fun k hk hS => ?_) ?_
  · have e5 := e_flagat (k := k) h
    (repeat' (first | ((with_reducible apply i_v); rfl) | (with_reducible refine o_form hc ?_) | ((with_reducible refine gotE (e5) ?_ ?_); rfl) | walk_at "a step"))
    exact hold ⟨rfl, rfl⟩
  · walk_at "steps"
    rfl
  · walk_at "steps"
    rfl
theorem e_contI {c : Nat} (hc : c = 0 ∨ c = 1) (h : Per S f p) (i : Int) : F_Lagsx_containsx [.obj c [formD S f p], .int i] = some (.bl (decide (0 ≤ i) && S i.toNat)) := by
  have e1 := e_isint i
  refine runD_eq ?_
  unfold m_Lagsx_containsx
  (repeat' (first | ((with_reducible apply i_v); rfl) | ((with_reducible refine gotE (e1) ?_ ?_); rfl) | walk_at "a step"))
  refine br (fun z => ?_) (fun z => ?_)
  · have z : 0 ≤ i := of_decide_eq_true z
    have e5 := e_flagatI h z
    (repeat' (first | ((with_reducible apply i_v); rfl) | (with_reducible refine o_form hc ?_) | ((with_reducible refine gotE (e5) ?_ ?_); rfl) | walk_at "a step"))
    rw [decide_eq_true z, Bool.true_and]; rfl
  · walk_at "steps"
    rw [show decide (0 ≤ i) = false from z]
    exact congrArg (fun z => some (D.bl z)) z
theorem e_cont0 {c : Nat} (hc : c = 0 ∨ c = 1) {d : D} (hd : F_is_integer [d] = some (.bl false)) : F_Lagsx_containsx [.obj c [formD S f p], d] = some (.bl false) := by
  refine runD_eq ?_
  unfold m_Lagsx_containsx
  (repeat' (first | ((with_reducible apply i_v); rfl) | ((with_reducible refine gotE (hd) ?_ ?_); rfl) | walk_at "a step"))
  rfl
end Lw
set_option Elab.async false
set_option linter.all false
set_option maxRecDepth 100000
set_option maxHeartbeats 4000000
namespace Dv
open PySem L2 Lg
theorem fl_shift {S : Nat → Bool} {N a c n : Nat} {b : Int} (h : (a : Int) - c = b) (h2 : a = 0 ∨ c = 0) (hc : c ≤ N) (hn : (n : Int) = N + b) : ((List.range a).map fun _ => D.bl false) ++ fl (fun k => S (c + k)) (N - c) = fl (shS S b) n := by
  apply List.ext_getElem?
  intro i
  by_cases h1 : i < a
  · rw [List.getElem?_append_left (by simpa using h1), List.getElem?_map, List.getElem?_range h1]
    rw [fl_get (by omega)]
    simp only [Option.map_some]
    congr 2
    unfold shS
    rw [decide_eq_false (by omega), Bool.false_and]
  · rw [List.getElem?_append_right (by simpa using h1)]
    simp only [List.length_map, List.length_range]
    by_cases h3 : i < n
    · rw [fl_get (by omega), fl_get h3]
      congr 2
      unfold shS
      rw [decide_eq_true (by omega), Bool.true_and]
      congr 1
      omega
    · rw [List.getElem?_eq_none (by rw [fl_length]; omega), List.getElem?_eq_none (by rw [fl_length]; omega)]
end Dv
namespace Lw
open PySem L2 Dv Lg
theorem c_ok (d : D) : caught (.ok d) = some (.tup [.str "told", d, .str ""]) := rfl
theorem c_much : caught (.ex 42 [.int 2000]) = some (.tup [.str "raised", .str "much", .str "2000"]) := by
  kernel_rfl
variable {S : Nat → Bool} {f p : Nat}
theorem eqX_much : eqX (.tup [.str "raised", .str "much", .str "2000"]) (.tup [.str "raised", .str "much", .str "2000"]) = some (.bl true) := by kernel_rfl
theorem eqX_told : eqX (.str "told") (.str "told") = some (.bl true) := by kernel_rfl
end Lw
set_option Elab.async false
set_option linter.all false
set_option maxRecDepth 100000
set_option maxHeartbeats 4000000
namespace Dv
open PySem L2
theorem o_rngZ {b : Int} {Q : List D → Prop} (h1 : -(2 ^ 62) ≤ b) (h2 : b < 2 ^ 62) (q : Q (rangeD 0 b.toNat 1)) : Op (rng1 [.int b]) Q := ⟨_, by simp only [rng1, h1, h2, and_self, if_true], q⟩
end Dv
namespace Lw
open PySem L2 Dv Lg
variable {S : Nat → Bool} {f p : Nat}
theorem eqX_11 (hf : f < 50000) (hp : p < 50000) : eqX (.obj 1 [formD S f p]) (.obj 1 [formD S f p]) = some (.bl true) := by
  have e := e_eq (c := 1) (c' := 1) (.inr rfl) (.inr rfl) (S := S) (T := S) hf hp hf hp
  rw [eqv_refl (form_nice S hf hp)] at e
  show (none : Option D).or (eqO t_Lagsx_eqx F_Lagsx_eqx (.obj 1 [formD S f p]) (.obj 1 [formD S f p])) = _
  rw [Option.none_or]
  exact e
structure Made (S : Nat → Bool) (f p far per N : Nat) : Prop where
  l : Least S f p
  r : Per S far per
  hf : f ≤ far
  hp : p ≤ per
  h1 : far ≤ 1001
  h2 : per ≤ 60
  hN : N = far + 2 * per + 1000
theorem e_moved {far per N : Nat} (h : Made S f p far per N) {b : Int} (b1 : -1000 ≤ b) (b2 : b ≤ 1000) : F_law_moved [.obj 0 [formD S f p], .lst (fl S N), .int far, .int per, .int b] = some (.bl true) := by
  have hz : sizeLine = 16777216 := sizeLine_eq
  have := h.hf
  have := h.hp
  have := h.h1
  have := h.h2
  have hN := h.hN
  have := h.r.1
  obtain ⟨g, hg⟩ : ∃ g : Nat, (g : Int) = max 0 ((far : Int) + b) := ⟨(max 0 ((far : Int) + b)).toNat, by omega⟩
  obtain ⟨a, ha⟩ : ∃ a : Nat, (a : Int) = max 0 b := ⟨(max 0 b).toNat, by omega⟩
  obtain ⟨c, hc⟩ : ∃ c : Nat, (c : Int) = max 0 (-b) := ⟨(max 0 (-b)).toNat, by omega⟩
  obtain ⟨n, hn⟩ : ∃ n : Nat, (n : Int) = N + b := ⟨((N : Int) + b).toNat, by omega⟩
  have hper : Per (shS S b) g per := shS_per h.r b (by omega)
  obtain ⟨_, e3, s, L, rfl, hl, hl1, hl2⟩ := p_lawform (N := n) hper (by omega) (by omega) (by omega)
  obtain ⟨s', L', hl', _, _, _, y1, y2⟩ := p_shift (c := 0) (.inl rfl) h.l.per (by omega) (by omega) b1 b2
  obtain ⟨rfl, rfl⟩ := hl.uniq hl'
  have e1 : (if -b > 0 then -b else 0) = (c : Int) := by split <;> omega
  have e2 : (if (far : Int) + b > 0 then (far : Int) + b else 0) = (g : Int) := by split <;> omega
  have e4 : cutD (fl S N) (some (c : Int)) none = fl (fun k => S (c + k)) (N - c) := fl_from (by omega)
  have e5 := fl_shift (S := S) (N := N) (a := a) (c := c) (n := n) (b := b) (by omega) (by omega) (by omega) hn
  have e6 : b.toNat = a := by omega
  refine runD_eq ?_
  unfold m_law_moved
  walk_at "steps"
  refine o_rngZ (by omega) (by omega) ?_
  walk_at "steps"
  rw [e6]
  refine i_lcMH (fun _ => .bl false) rfl (fun k hk => ?_) ?_
  · walk_at "steps"
    exact hold ⟨rfl, rfl⟩
  walk_at "steps"
  rw [e1]
  refine opr (a := .lst (cutD (fl S N) (some (c : Int)) none)) rfl ?_
  rw [e4]
  refine o_addL (by rw [hz, fl_length]; simp; omega) ?_
  rw [e5]
  walk_at "steps"
  rw [e2]
  refine got e3 ?_
  walk_at "steps"
  by_cases hs : s + L ≤ 2000
  · obtain ⟨z1, z2⟩ := y1 hs
    refine got z2 ?_
    refine got (c_ok _) ?_
    have i1 := e_lis (c := 1) (.inr rfl) (S := shS S b) (f := s) (p := L) (by omega) (by omega)
    have q1 := eqX_11 (S := shS S b) (f := s) (p := L) (by omega) (by omega)
    (repeat' (first | ((with_reducible apply i_v); rfl) | with_reducible apply opr (eqX_told) | ((with_reducible refine gotE (i1) ?_ ?_); rfl) | ((with_reducible refine gotE (z1) ?_ ?_); rfl) | with_reducible apply opr (q1) | walk_at "a step"))
    rfl
  · have z := y2 (by omega)
    refine got z ?_
    refine got c_much ?_
    (repeat' (first | ((with_reducible apply i_v); rfl) | with_reducible apply opr (eqX_much) | walk_at "a step"))
    rfl
end Lw
set_option Elab.async false
set_option linter.all false
set_option maxRecDepth 100000
set_option maxHeartbeats 4000000
namespace Lw
open PySem L2 Dv Lg
variable {S : Nat → Bool} {f p : Nat}
def atI (S : Nat → Bool) (i : Int) : Bool := decide (0 ≤ i) && S i.toNat
theorem e_lawin {far per N : Nat} (h : Per S far per) (hN : far + per ≤ N) (i : Int) : F_law_in [.lst (fl S N), .int far, .int per, .int i] = some (.bl (atI S i)) := by
  have := h.1
  refine runD_eq ?_
  unfold m_law_in
  walk_at "steps"
  refine br (fun z => ?_) (fun z => ?_)
  · have z : i < 0 := of_decide_eq_true z
    walk_at "steps"
    unfold atI
    rw [decide_eq_false (by omega)]; rfl
  · have z : ¬ i < 0 := of_decide_eq_false z
    obtain ⟨k, rfl⟩ : ∃ k : Nat, i = k := ⟨i.toNat, by omega⟩
    have e : atI S k = S k := by unfold atI; rw [decide_eq_true (by omega)]; simp
    rw [e]
    walk_at "steps"
    refine br (fun z => ?_) (fun z => ?_)
    · have z : (k : Int) < far := of_decide_eq_true z
      walk_at "steps"
      refine o_ixF (k := k) rfl (by omega) ?_
      walk_at "steps"
      rfl
    · have z : ¬ (k : Int) < far := of_decide_eq_false z
      walk_at "steps"
      have hm := Nat.mod_lt (k - far) (show per > 0 by omega)
      refine o_ixF (k := far + (k - far) % per) ?_ (by omega) ?_
      · rw [Int.natCast_add, Int.natCast_emod, Int.natCast_sub (by omega)]
      · rw [h.mod, show far + (k - far) = k by omega]
        walk_at "steps"
        rfl
theorem r_bl (b : Bool) : reprX [.bl b] = some (.str (shD (.bl b))) := by
  have e : reprD [.bl b] = some (.str (shD (.bl b))) := reprD_nice rfl (by simp [dep]) (by simp [wei])
  show (reprD _).or _ = _
  rw [e]
  rfl
theorem inX_I (h : Per S f p) (i : Int) : inX (.int i) (.obj 0 [formD S f p]) = some (.bl (atI S i)) := by
  have e := e_contI (c := 0) (.inl rfl) h i
  show (none : Option D).or (inO false [0, 1] F_Lagsx_containsx (.int i) (.obj 0 [formD S f p])) = _
  simp only [inO, e, Option.none_or]
  rfl
theorem inX_0 {d : D} (hd : F_is_integer [d] = some (.bl false)) (h0 : inD false d (.obj 0 [formD S f p]) = none) : inX d (.obj 0 [formD S f p]) = some (.bl false) := by
  have e := e_cont0 (S := S) (f := f) (p := p) (c := 0) (.inl rfl) hd
  show (inD false d (.obj 0 [formD S f p])).or (inO false [0, 1] F_Lagsx_containsx d (.obj 0 [formD S f p])) = _
  rw [h0]
  simp only [inO, e, Option.none_or]
  rfl
theorem ne_F : neX (.str (shD (.bl false))) (.str "False") = some (.bl false) := by kernel_rfl
theorem eqX_e : eqX (.lst []) (.lst []) = some (.bl true) := by kernel_rfl
theorem e_lmembers {far per N : Nat} (h : Least S f p) (hr : Per S far per) (hN : far + per ≤ N) (l : List Int) (hl : l.length ≤ 1000) : F_law_members [.obj 0 [formD S f p], .lst (fl S N), .int far, .int per, .lst (l.map D.int)] = some (.bl true) := by
  have hz : sizeLine = 16777216 := sizeLine_eq
  obtain ⟨_, m1, f', p', rfl, l1, _, _⟩ := p_init (a := [0]) (b := []) (p := 1) (by simp) (by simp) (by simp) (by simp) (by omega) (by omega)
  refine runD_eq ?_
  unfold m_law_members
  walk_at "steps"
  refine i_forL (fun items τ => (∀ d ∈ items, ∃ i : Int, d = .int i) ∧ ∃ o, τ = [some (.val (.obj 0 [formD S f p])), some (.val (.lst (fl S N))), some (.val (.int far)), some (.val (.int per)), some (.val (.lst (l.map D.int))), o, none, none]) ?_ ?_ ?_
  · exact ⟨fun d hd => by obtain ⟨i, _, rfl⟩ := List.mem_map.mp hd; exact ⟨i, rfl⟩, _, rfl⟩
  · rintro d ds τ ⟨h1, o, rfl⟩
    obtain ⟨i, rfl⟩ := h1 d (by simp)
    have e1 := e_lawin hr hN i
    have e2 := inX_I h.per i
    (repeat' (first | ((with_reducible apply i_v); rfl) | with_reducible apply opr (e2) | ((with_reducible refine gotE (e1) ?_ ?_); rfl) | with_reducible apply opr (r_bl _) | with_reducible apply opr (ne_same _) | walk_at "a step"))
    exact ⟨fun d hd => h1 d (by simp [hd]), _, rfl⟩
  · rintro τ ⟨_, o, rfl⟩
    (repeat' (first | ((with_reducible apply i_v); rfl) | ((with_reducible refine gotE (m1) ?_ ?_); rfl) | walk_at "a step"))
    refine i_lcPH (fun _ => false) (fun k => .int (k : Nat)) rfl (fun k hk => ?_) (fun k hk z => by cases z) ?_
    · have hin : ∀ d ∈ [D.bl true, .bl false, .non, .str "0", .str "", .tup [], .tup [.int 1], .lst [.int 1], .dic [] [], .obj 0 [formD (setS [0] [] 1) f' p']], inX d (.obj 0 [formD S f p]) = some (.bl false) := by
        intro d hd
        simp only [List.mem_cons, List.not_mem_nil, or_false] at hd
        rcases hd with rfl | rfl | rfl | rfl | rfl | rfl | rfl | rfl | rfl | rfl <;> exact inX_0 rfl rfl
      walk_at "steps"
      refine o_ixL (by simpa using hk) fun d hd => ?_
      have e := hin d hd
      (repeat' (first | ((with_reducible apply i_v); rfl) | with_reducible apply opr (e) | with_reducible apply opr (r_bl _) | with_reducible apply opr (ne_F) | walk_at "a step"))
      exact hold ⟨rfl, rfl⟩
    · walk_at "steps"
      rfl
end Lw
set_option Elab.async false
set_option linter.all false
set_option maxRecDepth 100000
set_option maxHeartbeats 4000000
namespace Dv
open PySem L2
theorem o_rngL2 {i j : Int} {Q : List D → Prop} (h : -(2 ^ 60) ≤ i ∧ i < 2 ^ 60 ∧ -(2 ^ 60) ≤ j ∧ j < 2 ^ 60 ∧ (j - i).toNat ≤ 20000) (q : Q (rangeD i (j - i).toNat 1)) : Op (rngL2 [.int i, .int j]) Q := ⟨_, by simp only [rngL2, rgB, decide_eq_true h, if_true], q⟩
theorem rangeD_ints (i : Int) (n : Nat) : rangeD i n 1 = ((List.range n).map fun (k : Nat) => i + (k : Int) * 1).map D.int := by
  unfold rangeD
  rw [List.map_map]; rfl
end Dv
namespace Lw
open PySem L2 Dv Lg
variable {S : Nat → Bool} {f p : Nat}
theorem r_tup {n : Nat} (hn : n ≤ 6000) : reprX [.tup (nats (mem S n))] = some (.str (shD (.tup (nats (mem S n))))) := by
  have h3 := mem_length S n
  have e : reprD [.tup (nats (mem S n))] = some (.str (shD (.tup (nats (mem S n))))) := reprD_nice (by
      simp only [nice, mem_nice (S := S) (show n < 1000000 by omega)]) (by
      simp only [dep, deps_nats]
      decide) (by
      simp only [wei, weis_nats]
      omega)
  show (reprD _).or _ = _
  rw [e]
  rfl
theorem ne_tup {n : Nat} (hn : n ≤ 6000) : neX (.tup (nats (mem S n))) (.tup (nats (mem S n))) = some (.bl false) := by
  have hi : nice (.tup (nats (mem S n))) = true := by simp only [nice, mem_nice (S := S) (show n < 1000000 by omega)]
  have hd : dep (.tup (nats (mem S n))) ≤ 60 := by simp only [dep, deps_nats]; decide
  show (eqD true _ _).or _ = _
  rw [eqD_nice hi hi hd hd, eqv_refl hi]
  rfl
theorem p_right {l : List D} (hw : WellOk l) {a b : List Nat} {per : Nat} (la : a.length ≤ 4) (lb : b.length ≤ 3) (ha : ∀ x ∈ a, x ≤ 1000) (hb : ∀ x ∈ b, x ≤ 1000) (p1 : 1 ≤ per) (p2 : per ≤ 60) : ∃ d l', F_law_right l [.lst (nats a), .lst (nats b), .int per] = some (d, l') ∧ Hold (d = .bl true ∧ WellOk l') := by
  have hz : sizeLine = 16777216 := sizeLine_eq
  obtain ⟨_, m1, f, p, rfl, l1, hf, hp⟩ := p_init (a := a) (b := b) (p := per) ha hb (by omega) (by omega) p1 p2
  refine runW_ex ?_
  unfold m_law_right
  walk_at "steps"
  refine o_addL (by rw [hz, nats_length]; simp; omega) ?_
  walk_at "steps"
  refine o_addL (by rw [hz]; simp only [List.length_append, nats_length]; simp; omega) ?_
  walk_at "steps"
  rw [show ([D.int (-1)] ++ nats a ++ nats b) = D.int (-1) :: nats (a ++ b) by rw [nats_append]; rfl]
  refine o_maxN fun m h1 h2 h3 => ?_
  obtain ⟨far, rfl⟩ : ∃ f : Nat, m = (f : Int) - 1 := ⟨(m + 1).toNat, by omega⟩
  have hfar : far ≤ 1001 := by
    rcases h3 with h | ⟨x, hx, e⟩
    · omega
    · rcases List.mem_append.mp hx with hx | hx
      · have := ha x hx; omega
      · have := hb x hx; omega
  have hfa : ∀ x ∈ a, x < far := fun x hx => by have := h2 x (by simp [hx]); omega
  have hfb : ∀ x ∈ b, x < far := fun x hx => by have := h2 x (by simp [hx]); omega
  have e1 := e_lflags (a := a) (b := b) (p := per) (n := far + 2 * per + 1000) p1 (by omega) (by omega) (fun x hx => by have := hb x hx; omega)
  have hper : Per (setS a b per) far per := setS_per p1 hfa hfb
  obtain ⟨_, e2, s, L, rfl, hl, hl1, hl2⟩ := p_lawform (N := far + 2 * per + 1000) hper (by omega) (by omega) (by omega)
  obtain ⟨rfl, rfl⟩ := hl.uniq l1
  have md : Made (setS a b per) s L far per (far + 2 * per + 1000) := ⟨hl, hper, hl1, hl2, hfar, p2, rfl⟩
  have eN : ((far : Int) + 2 * per + 1000) = ((far + 2 * per + 1000 : Nat) : Int) := by omega
  have i1 := e_lis (c := 0) (.inl rfl) (S := setS a b per) (f := s) (p := L) (by omega) (by omega)
  walk_at "steps"
  rw [show (far : Int) - 1 + 1 = far by omega, eN]
  refine got e1 ?_
  (repeat' (first | ((with_reducible apply i_v); rfl) | ((with_reducible refine gotE (m1) ?_ ?_); rfl) | ((with_reducible refine gotE (e2) ?_ ?_); rfl) | walk_at "a step"))
  refine i_forL (fun items τ => ∃ w o8 o9 o10 o11, WellOk w ∧ τ = [some (.own w), some (.val (.lst (nats a))), some (.val (.lst (nats b))), some (.val (.int per)), some (.val (.int far)), some (.val (.lst (fl (setS a b per) (far + 2 * per + 1000)))), some (.val (.obj 0 [formD (setS a b per) s L])), some (.val (lformD (setS a b per) s L)), o8, o9, o10, o11, none, none]) ?_ ?_ ?_
  · exact ⟨_, _, _, _, _, hw, rfl⟩
  · rintro d ds τ ⟨w, o8, o9, o10, o11, hw, rfl⟩
    walk_at "steps"
    refine p_draw hw (by decide) (by decide) fun r1 w1 hr1 hw1 => ?_
    walk_at "steps"
    refine p_draw hw1 (by decide) (by decide) fun r2 w2 hr2 hw2 => ?_
    walk_at "steps"
    refine p_draw hw2 (by decide) (by decide) fun r3 w3 hr3 hw3 => ?_
    walk_at "steps"
    refine o_ixL (by simp; omega) fun d hd => ?_
    obtain ⟨t, rfl, t1, t2⟩ : ∃ t : Int, d = .int t ∧ -1000 ≤ t ∧ t ≤ 1000 := by
      simp only [List.mem_cons, List.not_mem_nil, or_false] at hd
      rcases hd with rfl | rfl | rfl | rfl | rfl <;> exact ⟨_, rfl, by omega, by omega⟩
    have e3 := e_moved md t1 t2
    (repeat' (first | ((with_reducible apply i_v); rfl) | ((with_reducible refine gotE (e3) ?_ ?_); rfl) | walk_at "a step"))
    refine p_draw hw3 (by decide) (by decide) fun r4 w4 hr4 hw4 => ?_
    walk_at "steps"
    refine p_draw hw4 (by decide) (by decide) fun r5 w5 hr5 hw5 => ?_
    walk_at "steps"
    refine p_draw hw5 (by decide) (by decide) fun r6 w6 hr6 hw6 => ?_
    walk_at "steps"
    refine o_ixL (by simp; omega) fun d hd => ?_
    obtain ⟨n, rfl, t3⟩ : ∃ n : Nat, d = .int n ∧ n ≤ 5000 := by
      simp only [List.mem_cons, List.not_mem_nil, or_false] at hd
      rcases hd with rfl | rfl | rfl | rfl
      · exact ⟨0, rfl, by omega⟩
      · exact ⟨5000, rfl, by omega⟩
      · exact ⟨_, rfl, by omega⟩
      · exact ⟨_, rfl, by omega⟩
    have e4 := e_upto (c := 0) (.inl rfl) hl.per (n := n) t3
    walk_at "steps"
    rw [show ((n : Int) + 1).toNat = n + 1 by omega]
    refine i_lcPH (setS a b per) (fun k => .int (k : Nat)) rfl (fun k hk => ?_) (fun k hk z => ?_) ?_
    · have e5 := e_lawin hper (N := far + 2 * per + 1000) (by omega) (k : Int)
      have e6 : atI (setS a b per) k = setS a b per k := by unfold atI; rw [decide_eq_true (by omega)]; simp
      rw [e6] at e5
      (repeat' (first | ((with_reducible apply i_v); rfl) | ((with_reducible refine gotE (e5) ?_ ?_); rfl) | walk_at "a step"))
      exact hold ⟨rfl, rfl⟩
    · walk_at "steps"
      rfl
    · walk_at "steps"
      have e7 : (List.filter (setS a b per) (List.range (n + 1))).map (fun (k : Nat) => D.int k) = nats (mem (setS a b per) (n + 1)) := rfl
      rw [e7]
      (repeat' (first | ((with_reducible apply i_v); rfl) | ((with_reducible refine gotE (e4) ?_ ?_); rfl) | with_reducible apply opr (r_tup (show n + 1 ≤ 6000 by omega)) | with_reducible apply opr (ne_same _) | with_reducible apply opr (ne_tup (show n + 1 ≤ 6000 by omega)) | walk_at "a step"))
      exact ⟨w6, _, _, _, _, hw6, rfl⟩
  · rintro τ ⟨w, o8, o9, o10, o11, hw, rfl⟩
    have e8 := fun (l : List Int) (hl2 : l.length ≤ 1000) => e_lmembers hl hper (N := far + 2 * per + 1000) (by omega) l hl2
    (repeat' (first | ((with_reducible apply i_v); rfl) | (with_reducible refine o_rngL2 (by omega) ?_) | walk_at "a step"))
    refine o_addL (by rw [hz, rangeD_length, rangeD_length]; omega) ?_
    walk_at "steps"
    refine o_addL (by rw [hz, List.length_append, rangeD_length, rangeD_length]; simp; omega) ?_
    walk_at "steps"
    refine p_draw hw (by decide) (by decide) fun r1 w1 hr1 hw1 => ?_
    walk_at "steps"
    refine p_draw hw1 (by decide) (by decide) fun r2 w2 hr2 hw2 => ?_
    walk_at "steps"
    refine o_addL (by rw [hz, List.length_append, List.length_append, rangeD_length, rangeD_length]; simp; omega) ?_
    walk_at "steps"
    have e9 : rangeD (-3) (12 - -3 : Int).toNat 1 ++ rangeD ((far : Int) - 2) ((far : Int) + 9 - (far - 2)).toNat 1 ++ [D.int (-10 ^ Int.toNat 39)] ++ [D.int (10 ^ Int.toNat 39 + (r1 : Int)), D.int r2] = (((List.range (12 - -3 : Int).toNat).map (fun (k : Nat) => -3 + (k : Int) * 1) ++ (List.range ((far : Int) + 9 - (far - 2)).toNat).map (fun (k : Nat) => (far : Int) - 2 + (k : Int) * 1)) ++ [-10 ^ Int.toNat 39] ++ [10 ^ Int.toNat 39 + (r1 : Int), (r2 : Int)]).map D.int := by
      rw [rangeD_ints, rangeD_ints, List.map_append, List.map_append, List.map_append]
      rfl
    have e10 := e8 _ (show (((List.range (12 - -3 : Int).toNat).map (fun (k : Nat) => -3 + (k : Int) * 1) ++ (List.range ((far : Int) + 9 - (far - 2)).toNat).map (fun (k : Nat) => (far : Int) - 2 + (k : Int) * 1)) ++ [-10 ^ Int.toNat 39] ++ [10 ^ Int.toNat 39 + (r1 : Int), (r2 : Int)]).length ≤ 1000 by
      simp only [List.length_append, List.length_map, List.length_range, List.length_cons, List.length_nil]
      omega)
    rw [← e9] at e10
    refine got e10 ?_
    (repeat' (first | ((with_reducible apply i_v); rfl) | ((with_reducible refine gotE (i1) ?_ ?_); rfl) | walk_at "a step"))
    exact ⟨_, _, rfl, rfl, hold ⟨rfl, hw2⟩⟩
end Lw
set_option Elab.async false
set_option linter.all false
set_option maxRecDepth 100000
set_option maxHeartbeats 4000000
namespace Lw
open PySem L2 Dv Lg
theorem big_1 {S : Nat → Bool} {s L k : Nat} (h : Least S s L) (hk : S k = true) (hl : ∀ j, j < k → k ≤ j + 60 → S j = false) (hL : L ≤ 60) (h2 : 60 ≤ k) (hk2 : 2000 ≤ k) : 2000 < s + L := by
  have h1 := h.per.1
  by_cases c : s + L ≤ 2000
  · have e := h.per.2 (k - L) (by omega)
    rw [show k - L + L = k by omega, hk, hl (k - L) (by omega) (by omega)] at e
    cases e
  · omega
theorem big_2 {S : Nat → Bool} {s L k : Nat} (h : Least S s L) (hk : S k = true) (hl : ∀ j, k < j → S j = false) (hk2 : 1999 ≤ k) : 2000 < s + L := by
  have h1 := h.per.1
  by_cases c : s + L ≤ 2000
  · have e := h.per.2 k (by omega)
    rw [hk, hl (k + L) (by omega)] at e
    cases e
  · omega
theorem one_iff (m k : Nat) : setS [m] [] 1 k = decide (k = m) := by simp [setS]
theorem shone (m : Nat) (k : Nat) : shS (setS [m] [] 1) 1000 k = decide (k = m + 1000) := by
  unfold shS
  rw [one_iff]
  by_cases c : k = m + 1000
  · subst c
    rw [decide_eq_true (show (1000 : Int) ≤ ((m + 1000 : Nat) : Int) by omega), Bool.true_and]
    simp
  · rw [decide_eq_false c]
    by_cases c2 : (1000 : Int) ≤ (k : Int)
    · rw [decide_eq_false (show ¬ (((k : Int) - 1000).toNat = m) by omega), Bool.and_false]
    · rw [decide_eq_false c2, Bool.false_and]
theorem made1 (m : Nat) (hm : m ≤ 1000) : ∃ f p, F_Lagsx_initx [.tup [.int m], .tup [], .int 1] = some [formD (setS [m] [] 1) f p] ∧ Per (setS [m] [] 1) f p ∧ f ≤ 1001 ∧ p ≤ 1 := by
  obtain ⟨_, m1, f, p, rfl, l1, hf, hp⟩ := p_init (a := [m]) (b := []) (p := 1) (by simp; omega) (by simp) (by simp) (by simp) (by omega) (by omega)
  exact ⟨f, p, m1, l1.per, hf, hp⟩
theorem much1 (m : Nat) (hm : m ≤ 1000) (h9 : 999 ≤ m) : ∃ f p, F_Lagsx_initx [.tup [.int m], .tup [], .int 1] = some [formD (setS [m] [] 1) f p] ∧ FX_Lags_shifted [.obj 0 [formD (setS [m] [] 1) f p], .int 1000] = some (.ex 42 [.int 2000]) := by
  obtain ⟨f, p, e, hp, h1, h2⟩ := made1 m hm
  obtain ⟨s, L, hl, _, _, _, _, y⟩ := p_shift (c := 0) (.inl rfl) hp (by omega) (by omega) (b := 1000) (by omega) (by omega)
  refine ⟨f, p, e, y (big_2 (k := m + 1000) hl (by rw [shone]; simp) (fun j hj => ?_) (by omega))⟩
  rw [shone]
  exact decide_eq_false (by omega)
theorem much2 : ∃ f p, F_Lagsx_initx [.tup [.int 0], .tup [.int 1000], .int 60] = some [formD (setS [0] [1000] 60) f p] ∧ FX_Lags_shifted [.obj 0 [formD (setS [0] [1000] 60) f p], .int 1000] = some (.ex 42 [.int 2000]) := by
  obtain ⟨_, m1, f, p, rfl, l1, hf, hp⟩ := p_init (a := [0]) (b := [1000]) (p := 60) (by simp) (by simp) (by simp) (by simp) (by omega) (by omega)
  obtain ⟨s, L, hl, _, hL, _, _, y⟩ := p_shift (c := 0) (.inl rfl) l1.per (by omega) (by omega) (b := 1000) (by omega) (by omega)
  refine ⟨f, p, m1, y (big_1 (k := 2000) hl (by decide +kernel) (fun j hj hj2 => ?_) (by omega) (by omega) (by omega))⟩
  obtain ⟨i, rfl⟩ : ∃ i, j = 1940 + i := ⟨j - 1940, by omega⟩
  unfold shS
  rw [decide_eq_true (by omega), Bool.true_and, show (((1940 + i : Nat) : Int) - 1000).toNat = 940 + i by omega]
  simp only [setS, List.mem_singleton, List.any_cons, List.any_nil, Bool.or_false]
  rw [decide_eq_false (by omega), decide_eq_false (by omega), Bool.false_and, Bool.false_or]
theorem edge : ∃ f p, F_Lagsx_initx [.tup [.int 998], .tup [], .int 1] = some [formD (setS [998] [] 1) f p] ∧ F_Lags_shifted [.obj 0 [formD (setS [998] [] 1) f p], .int 1000] = some (.obj 1 [formD (shS (setS [998] [] 1) 1000) 1999 1]) := by
  obtain ⟨f, p, e, hp, h1, h2⟩ := made1 998 (by omega)
  obtain ⟨s, L, hl, _, _, _, y, _⟩ := p_shift (c := 0) (.inl rfl) hp (by omega) (by omega) (b := 1000) (by omega) (by omega)
  have hs := shone 998
  have hq : Per (shS (setS [998] [] 1) 1000) 1999 1 := ⟨by omega, fun k hk => by rw [hs, hs, decide_eq_false (by omega), decide_eq_false (by omega)]⟩
  have hl' : Least (shS (setS [998] [] 1) 1000) 1999 1 := least_of hq (fun q hq => hq.1) (.inr (by rw [hs, hs]; decide))
  obtain ⟨rfl, rfl⟩ := hl.uniq hl'
  exact ⟨f, p, e, (y (by omega)).1⟩
theorem mem_edge : mem (shS (setS [998] [] 1) 1000) 2000 = [1998] := by
  have e : shS (setS [998] [] 1) 1000 = fun k => decide (k = 1998) := funext fun k => shone 998 k
  rw [e]
  decide +kernel
theorem eqX_3 : eqX (.lst [.str "much", .str "much", .str "much"]) (.lst [.str "much", .str "much", .str "much"]) = some (.bl true) := by kernel_rfl
theorem eqX_s : eqX (.int ((1999 : Nat) : Int)) (.int 1999) = some (.bl true) := by kernel_rfl
theorem eqX_m : eqX (.tup (nats [1998])) (.tup [.int 1998]) = some (.bl true) := by kernel_rfl
theorem law_pure (ns : List Int) (hl : ns.length ≤ 63) : F_law [.scr ns] = some (.bl true) := by
  have hz : sizeLine = 16777216 := sizeLine_eq
  obtain ⟨f1, p1, a1, a2⟩ := much1 1000 (by omega) (by omega)
  obtain ⟨f2, p2, b1, b2⟩ := much2
  obtain ⟨f3, p3, c1, c2⟩ := much1 999 (by omega) (by omega)
  obtain ⟨f4, p4, d1, d2⟩ := edge
  have g1 := e_start 1 (.inr rfl) (shS (setS [998] [] 1) 1000) 1999 1
  have g2 := e_members (c := 1) (.inr rfl) (S := shS (setS [998] [] 1) 1000) (f := 1999) (p := 1) (by omega) (by omega)
  rw [show 1999 + 1 = 2000 from rfl, mem_edge] at g2
  refine runD_eq ?_
  unfold m_law
  walk_at "steps"
  refine i_forL (fun items τ => (∀ d ∈ items, ∃ k : Nat, d = .int k) ∧ ∃ a b c d, τ = [some (.val (.scr ns)), a, b, c, d, none, none, none, none]) ?_ ?_ ?_
  · exact ⟨fun d hd => by obtain ⟨i, _, rfl⟩ := rangeN hd; exact ⟨i, rfl⟩, _, _, _, _, rfl⟩
  · rintro d ds τ ⟨h1, a, b, c, d', rfl⟩
    obtain ⟨k, rfl⟩ := h1 d (by simp)
    obtain ⟨w, ew, hw⟩ := p_well ns k
    (repeat' (first | ((with_reducible apply i_v); rfl) | ((with_reducible refine gotE (ew) ?_ ?_); rfl) | walk_at "a step"))
    refine p_draw hw (by decide) (by decide) fun r1 w1 hr1 hw1 => ?_
    walk_at "steps"
    refine o_ixL (by simp; omega) fun d hd => ?_
    obtain ⟨wide, rfl, t1⟩ : ∃ t : Nat, d = .int t ∧ t ≤ 1000 := by
      simp only [List.mem_cons, List.not_mem_nil, or_false] at hd
      rcases hd with rfl | rfl | rfl
      · exact ⟨5, rfl, by omega⟩
      · exact ⟨40, rfl, by omega⟩
      · exact ⟨1000, rfl, by omega⟩
    walk_at "steps"
    refine p_draw hw1 (by decide) (by decide) fun r2 w2 hr2 hw2 => ?_
    walk_at "steps"
    refine o_ixL (by simp; omega) fun d hd => ?_
    obtain ⟨m, rfl, t2, t3⟩ : ∃ t : Int, d = .int t ∧ 1 ≤ t ∧ t ≤ 60 := by
      simp only [List.mem_cons, List.not_mem_nil, or_false] at hd
      rcases hd with rfl | rfl
      · exact ⟨4, rfl, by omega, by omega⟩
      · exact ⟨60, rfl, by omega, by omega⟩
    walk_at "steps"
    refine p_draw hw2 (by omega) (by omega) fun r3 w3 hr3 hw3 => ?_
    walk_at "steps"
    refine p_some (m := 4) (w := wide) hw3 rfl rfl (by omega) (by omega) fun xs w4 n1 h2 hw4 => ?_
    walk_at "steps"
    refine p_some (m := 3) (w := wide) hw4 rfl rfl (by omega) (by omega) fun ys w5 n2 h3 hw5 => ?_
    walk_at "steps"
    rw [show (1 : Int) + (r3 : Nat) = ((1 + r3 : Nat) : Int) by omega]
    obtain ⟨_, w6, er, rfl, hw6⟩ := p_right hw5 n1 n2 (fun x hx => by have := h2 x hx; omega) (fun x hx => by have := h3 x hx; omega) (show 1 ≤ 1 + r3 by omega) (by omega)
    refine got er ?_
    walk_at "steps"
    exact ⟨fun d hd => h1 d (by simp [hd]), _, _, _, _, rfl⟩
  · rintro τ ⟨_, a, b, c, d, rfl⟩
    (repeat' (first | ((with_reducible apply i_v); rfl) | ((with_reducible refine gotE (a1) ?_ ?_); rfl) | ((with_reducible refine gotE (a2) ?_ ?_); rfl) | ((with_reducible refine gotE (b1) ?_ ?_); rfl) | ((with_reducible refine gotE (b2) ?_ ?_); rfl) | ((with_reducible refine gotE (c1) ?_ ?_); rfl) | ((with_reducible refine gotE (c2) ?_ ?_); rfl) | ((with_reducible refine gotE (d1) ?_ ?_); rfl) | ((with_reducible refine gotE (d2) ?_ ?_); rfl) | ((with_reducible refine gotE (c_much) ?_ ?_); rfl) | walk_at "a step"))
    refine i_lcM (List.range 3) (fun _ => D.tup [.str "raised", .str "much", .str "2000"]) (fun _ => .str "much") rfl (fun a _ => ?_) ?_
    · walk_at "steps"
      rfl
    · walk_at "steps"
      refine opr eqX_3 ?_
      (repeat' (first | ((with_reducible apply i_v); rfl) | ((with_reducible refine gotE (g1) ?_ ?_); rfl) | ((with_reducible refine gotE (g2) ?_ ?_); rfl) | with_reducible apply opr (eqX_s) | with_reducible apply opr (eqX_m) | walk_at "a step"))
      rfl
end Lw
set_option Elab.async false
set_option linter.all false
set_option maxRecDepth 100000
set_option maxHeartbeats 0
namespace Lw
open PySem PySem.Spec PyProof.Rows L2 Dv
abbrev hk : PySem.W.Hook := hookE ads fa fn lamF
theorem ob_eq (s : PySem.W.SharedT) : ob s = hk.obs s.abs := obE_eq (HandSHeadRun.getT_eq s)
theorem run (w : World) : HandSHeadRun.RunEq R (PySem.W.view R.prog [73]) hk ob 9000 ls w := fun os => two_looks (runA w os) (runB w os)
def css (K : PySem.W.Frag) : List (Addr × Addr) := lamF.map fun d => (cdA K (d.at_ K), tbA K (d.at_ K))
theorem css_mem {K : PySem.W.Frag} {p : Addr × Addr} (h : p ∈ css K) : ∃ d ∈ lamF, p = (cdA K (d.at_ K), tbA K (d.at_ K)) := by
  obtain ⟨d, hd, e⟩ := List.mem_map.mp h
  exact ⟨d, hd, e.symm⟩
theorem facts {K : PySem.W.Frag} {h : Heap} {mg : Str → Option Value} {f : Addr} (w : World) (X : K.In h) (G : h.Ns mainGlobals mg) (hf : mg ("law" : Str) = some (.ref f)) (c : SaysL fa fn lamF K h) :
    ∃ fd : FuncData, (∀ (s : Shared) (v : Value), BindsTo s fd ⟨[v], []⟩ [(P_law[0], v)]) ∧ ∀ base : Heap, K.In base → base.Ns mainGlobals mg → (∀ p ∈ css K, LamX.TabB base mg p.1 p.2) → FnG (PySem.Challenge.rw_owntimes_k08_shifted_and_shown).prog w K mg base 10 f fd P_law (spL K mg (tabsOf K lamF) 1 F_law) := by
  have x : Fx K h mg := ⟨X, G, c⟩
  have e := hf.symm.trans x.g_law
  cases e
  have F := x.cx.def_ 41 (d := d_law)
  obtain ⟨fd, F⟩ := F
  have b := FunD.bindsA (ps := P_law) F fun _ _ _ _ _ _ us hl => match us, hl with | [_], _ => rfl
  exact ⟨fd, fun s v => b s [v] rfl, fun base _ _ tb => fnL F sc_law (b_law x fun d hd => tb _ (List.mem_map.mpr ⟨d, hd, rfl⟩))⟩
end Lw
open PySem PySem.W PySem.Calls PyProof.Rows in
theorem PySem.Challenge.cw_owntimes_k08_shifted_and_shown_holds : PySem.Challenge.rw_owntimes_k08_shifted_and_shown.Holds := by
  w_on; o_law
  refine HandSHeadRun.head_any (r := OpenLaw.row PySem.Challenge.rw_owntimes_k08_shifted_and_shown) (q := view (OpenLaw.row PySem.Challenge.rw_owntimes_k08_shifted_and_shown).prog [73]) (H := Lw.hk) (ob := Lw.ob) (M := 9000) (loose := Lw.ls) (d := HandSHeadRun.topDef (OpenLaw.row PySem.Challenge.rw_owntimes_k08_shifted_and_shown).prog 73) (kwd := []) Lw.ob_eq
    (by kernel_rfl) (fun s => by kernel_rfl) Lw.run (by kernel_rfl) (by kernel_rfl) (by kernel_rfl) (by rfl) (by first | assumption | decide +kernel) (by decide +kernel) ⟨rfl, rfl, rfl, rfl, rfl, by decide +kernel⟩ ?hw ?hc
  case hw => w_witness2
  case hc =>
    refine Dv.walkL (l := PySem.Challenge.rw_owntimes_k08_shifted_and_shown) (n := 63) (k := 10) (x := Lw.P_law[0]) rfl (by decide) (by kernel_rfl) ⟨rfl, by decide, by decide⟩ ?F
    intro w mg fa h Y G hmg0
    obtain ⟨K, KX, c⟩ := Y
    have hmg : mg ("law" : PySem.Str) = some (.ref fa) := by
      have e : (HandSHeadRun.topDef (OpenLaw.row PySem.Challenge.rw_owntimes_k08_shifted_and_shown).prog 73).name = ("law" : PySem.Str) := by kernel_rfl
      rw [← e]
      exact hmg0
    obtain ⟨fd, hb, hF⟩ := Lw.facts w KX G hmg c
    refine ⟨K, fd, Lw.F_law, Lw.css K, Dv.tabsOf K Lw.lamF, KX, hb, fun p hp => ?_, fun p hp => ?_, fun p hp => ?_, fun p hp => ?_, fun ns hl => Lw.law_pure ns hl, hF⟩
    · obtain ⟨d, hd, rfl⟩ := Lw.css_mem hp
      exact c.tb d hd
    · obtain ⟨d, hd, rfl⟩ := Lw.css_mem hp
      exact (Dv.cdB_ok (c.cd d hd)).2.1
    · obtain ⟨d, hd, rfl⟩ := Lw.css_mem hp
      exact (Dv.cdB_ok (c.cd d hd)).2.2 h KX
    · obtain ⟨d, hd, rfl⟩ := List.mem_map.mp hp
      exact List.mem_map.mpr ⟨_, List.mem_map.mpr ⟨d, hd, rfl⟩, rfl⟩

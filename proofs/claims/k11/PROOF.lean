import PyProof.Rows.All
import Wide.All
import OpenK.AllK
import Wide.FinOn
import KE.KStateDown
import Lean
import HandS.Base
import HandS.Call
import HandS.Ends
import HandS.List
import HandS.More
import HandS.Words
import HandS.WordsExc
import HandS.Defaults
import HandS.ExcInit
import HandS.ExcField
import HandS.Head0
import HandS.Head1
import HandS.Head2
import HandS.HeadEnd
import HandS.HeadHook1
import HandS.HeadHook2
import HandS.HeadHook3
import HandS.HeadHook4
import HandS.HeadWalk
import PySem.Challenge.RW_lateslips_k11_whole_few_commands_bring_a
import HandS.ForMost
import HandS.Exc
import HandS.TupAny
import HandS.Deep
import HandS.NoneIn
import HandS.IsInst
import HandS.Conv
import HandS.Zip
import HandS.Strs
import HandS.Style
import HandS.Wide
import HandS.Star
import KE.KSortTupG
import PyProof.ReprRoads
import HandS.SetFor
import KE.KeyNested
import KE.KTab
import HandS.Dict
import HandS.ForExc
import HandS.Nested
import KE.KExcSuper
import KE.KSuper
import HandS.Lambda
import HandS.DictComp
import HandS.TupSets
import KE.KDictSum
import HandS.Iter
import HandS.SortInts
import HandS.Flow
import KE.GoesMore
import PyProof.ReprLen
set_option Elab.async false
set_option linter.all false
set_option maxRecDepth 100000
set_option maxHeartbeats 0
/-! The head: the text by places, what the top leaves. -/
namespace K11
open PySem PySem.Spec PyProof.Rows L2
def top (i : Nat) : Stmt := PySem.Challenge.pw_lateslips_k11_whole_few_commands_bring_a.main.body.getD i (.Pass ⟨0, 0, 0, 0⟩)
abbrev s_InvalidMachine_init : Stmt := inClass (top 2) 0
def d_InvalidMachine_init : He.DefD := ⟨("InvalidMachine", some "__init__"), "__init__", "InvalidMachine.__init__", defArgs s_InvalidMachine_init, defBody s_InvalidMachine_init, defScope s_InvalidMachine_init, [], []⟩
abbrev s_InvalidRow_init : Stmt := inClass (top 3) 0
def d_InvalidRow_init : He.DefD := ⟨("InvalidRow", some "__init__"), "__init__", "InvalidRow.__init__", defArgs s_InvalidRow_init, defBody s_InvalidRow_init, defScope s_InvalidRow_init, [], []⟩
abbrev s_Blind_init : Stmt := inClass (top 4) 0
def d_Blind_init : He.DefD := ⟨("Blind", some "__init__"), "__init__", "Blind.__init__", defArgs s_Blind_init, defBody s_Blind_init, defScope s_Blind_init, [], []⟩
abbrev s_Refused_init : Stmt := inClass (top 5) 0
def d_Refused_init : He.DefD := ⟨("Refused", some "__init__"), "__init__", "Refused.__init__", defArgs s_Refused_init, defBody s_Refused_init, defScope s_Refused_init, [], []⟩
abbrev s_is_integer : Stmt := top 7
def d_is_integer : He.DefD := ⟨("is_integer", none), "is_integer", "is_integer", defArgs s_is_integer, defBody s_is_integer, defScope s_is_integer, [], []⟩
abbrev s_is_number : Stmt := top 8
def d_is_number : He.DefD := ⟨("is_number", none), "is_number", "is_number", defArgs s_is_number, defBody s_is_number, defScope s_is_number, [], []⟩
abbrev s_is_index : Stmt := top 9
def d_is_index : He.DefD := ⟨("is_index", none), "is_index", "is_index", defArgs s_is_index, defBody s_is_index, defScope s_is_index, [], []⟩
abbrev s_is_sequence : Stmt := top 10
def d_is_sequence : He.DefD := ⟨("is_sequence", none), "is_sequence", "is_sequence", defArgs s_is_sequence, defBody s_is_sequence, defScope s_is_sequence, [], []⟩
abbrev s_idle : Stmt := top 11
def d_idle : He.DefD := ⟨("idle", none), "idle", "idle", defArgs s_idle, defBody s_idle, defScope s_idle, [], []⟩
abbrev s_kernel_of : Stmt := top 12
def d_kernel_of : He.DefD := ⟨("kernel_of", none), "kernel_of", "kernel_of", defArgs s_kernel_of, defBody s_kernel_of, defScope s_kernel_of, [], []⟩
abbrev s_Machine_init : Stmt := inClass (top 14) 0
def d_Machine_init : He.DefD := ⟨("Machine", some "__init__"), "__init__", "Machine.__init__", defArgs s_Machine_init, defBody s_Machine_init, defScope s_Machine_init, [], []⟩
abbrev s_Machine_eq : Stmt := inClass (top 14) 1
def d_Machine_eq : He.DefD := ⟨("Machine", some "__eq__"), "__eq__", "Machine.__eq__", defArgs s_Machine_eq, defBody s_Machine_eq, defScope s_Machine_eq, [], []⟩
abbrev s_Machine_found : Stmt := inClass (top 14) 2
def d_Machine_found : He.DefD := ⟨("Machine", some "found"), "found", "Machine.found", defArgs s_Machine_found, defBody s_Machine_found, defScope s_Machine_found, [], []⟩
abbrev s_Machine_does : Stmt := inClass (top 14) 3
def d_Machine_does : He.DefD := ⟨("Machine", some "does"), "does", "Machine.does", defArgs s_Machine_does, defBody s_Machine_does, defScope s_Machine_does, [], []⟩
abbrev s_checked_row : Stmt := top 15
def d_checked_row : He.DefD := ⟨("checked_row", none), "checked_row", "checked_row", defArgs s_checked_row, defBody s_checked_row, defScope s_checked_row, [], []⟩
abbrev s_led : Stmt := top 16
def d_led : He.DefD := ⟨("led", none), "led", "led", defArgs s_led, defBody s_led, defScope s_led, [], []⟩
abbrev s_effect : Stmt := top 17
def d_effect : He.DefD := ⟨("effect", none), "effect", "effect", defArgs s_effect, defBody s_effect, defScope s_effect, [], []⟩
abbrev s_are_states : Stmt := top 19
def d_are_states : He.DefD := ⟨("are_states", none), "are_states", "are_states", defArgs s_are_states, defBody s_are_states, defScope s_are_states, [], []⟩
abbrev s_checked_change : Stmt := top 20
def d_checked_change : He.DefD := ⟨("checked_change", none), "checked_change", "checked_change", defArgs s_checked_change, defBody s_checked_change, defScope s_checked_change, [], []⟩
abbrev s_starts : Stmt := top 21
def d_starts : He.DefD := ⟨("starts", none), "starts", "starts", defArgs s_starts, defBody s_starts, defScope s_starts, [], []⟩
abbrev s_nexts : Stmt := top 22
def d_nexts : He.DefD := ⟨("nexts", none), "nexts", "nexts", defArgs s_nexts, defBody s_nexts, defScope s_nexts, [], []⟩
abbrev s_explored : Stmt := top 23
def d_explored : He.DefD := ⟨("explored", none), "explored", "explored", defArgs s_explored, defBody s_explored, defScope s_explored, [], []⟩
abbrev s_seen : Stmt := top 24
def d_seen : He.DefD := ⟨("seen", none), "seen", "seen", defArgs s_seen, defBody s_seen, defScope s_seen, [], []⟩
abbrev s_fault : Stmt := top 25
def d_fault : He.DefD := ⟨("fault", none), "fault", "fault", defArgs s_fault, defBody s_fault, defScope s_fault, [], []⟩
abbrev s_late_commands : Stmt := top 26
def d_late_commands : He.DefD := ⟨("late_commands", none), "late_commands", "late_commands", defArgs s_late_commands, defBody s_late_commands, defScope s_late_commands, [], []⟩
abbrev s_is_blind : Stmt := top 27
def d_is_blind : He.DefD := ⟨("is_blind", none), "is_blind", "is_blind", defArgs s_is_blind, defBody s_is_blind, defScope s_is_blind, [], []⟩
abbrev s_refuse_blind : Stmt := top 28
def d_refuse_blind : He.DefD := ⟨("refuse_blind", none), "refuse_blind", "refuse_blind", defArgs s_refuse_blind, defBody s_refuse_blind, defScope s_refuse_blind, [], []⟩
abbrev s_kernel : Stmt := top 30
def d_kernel : He.DefD := ⟨("kernel", none), "kernel", "kernel", defArgs s_kernel, defBody s_kernel, defScope s_kernel, [], []⟩
abbrev s_ahead : Stmt := top 31
def d_ahead : He.DefD := ⟨("ahead", none), "ahead", "ahead", defArgs s_ahead, defBody s_ahead, defScope s_ahead, [], []⟩
abbrev s_is_part : Stmt := top 33
def d_is_part : He.DefD := ⟨("is_part", none), "is_part", "is_part", defArgs s_is_part, defBody s_is_part, defScope s_is_part, [], []⟩
abbrev s_kept_commands : Stmt := top 34
def d_kept_commands : He.DefD := ⟨("kept_commands", none), "kept_commands", "kept_commands", defArgs s_kept_commands, defBody s_kept_commands, defScope s_kept_commands, [], []⟩
abbrev s_kept_of_power : Stmt := top 35
def d_kept_of_power : He.DefD := ⟨("kept_of_power", none), "kept_of_power", "kept_of_power", defArgs s_kept_of_power, defBody s_kept_of_power, defScope s_kept_of_power, [], []⟩
abbrev s_is_places : Stmt := top 36
def d_is_places : He.DefD := ⟨("is_places", none), "is_places", "is_places", defArgs s_is_places, defBody s_is_places, defScope s_is_places, [], []⟩
abbrev s_is_enough : Stmt := top 37
def d_is_enough : He.DefD := ⟨("is_enough", none), "is_enough", "is_enough", defArgs s_is_enough, defBody s_is_enough, defScope s_is_enough, [], []⟩
abbrev s_greatest_of : Stmt := top 38
def d_greatest_of : He.DefD := ⟨("greatest_of", none), "greatest_of", "greatest_of", defArgs s_greatest_of, defBody s_greatest_of, defScope s_greatest_of, [], []⟩
abbrev s_greatest_kernel : Stmt := top 39
def d_greatest_kernel : He.DefD := ⟨("greatest_kernel", none), "greatest_kernel", "greatest_kernel", defArgs s_greatest_kernel, defBody s_greatest_kernel, defScope s_greatest_kernel, [], []⟩
abbrev s_fewest_classes : Stmt := top 40
def d_fewest_classes : He.DefD := ⟨("fewest_classes", none), "fewest_classes", "fewest_classes", defArgs s_fewest_classes, defBody s_fewest_classes, defScope s_fewest_classes, [], []⟩
abbrev s_law_draw : Stmt := top 42
def d_law_draw : He.DefD := ⟨("_law_draw", none), "_law_draw", "_law_draw", defArgs s_law_draw, defBody s_law_draw, defScope s_law_draw, [], []⟩
abbrev s_law_any : Stmt := top 43
def d_law_any : He.DefD := ⟨("_law_any", none), "_law_any", "_law_any", defArgs s_law_any, defBody s_law_any, defScope s_law_any, [], []⟩
abbrev s_law_of : Stmt := top 44
def d_law_of : He.DefD := ⟨("_law_of", none), "_law_of", "_law_of", defArgs s_law_of, defBody s_law_of, defScope s_law_of, [], []⟩
abbrev s_law_mixed : Stmt := top 45
def d_law_mixed : He.DefD := ⟨("_law_mixed", none), "_law_mixed", "_law_mixed", defArgs s_law_mixed, defBody s_law_mixed, defScope s_law_mixed, [], []⟩
abbrev s_law_columns : Stmt := top 46
def d_law_columns : He.DefD := ⟨("_law_columns", none), "_law_columns", "_law_columns", defArgs s_law_columns, defBody s_law_columns, defScope s_law_columns, [], []⟩
abbrev s_law_column : Stmt := top 47
def d_law_column : He.DefD := ⟨("_law_column", none), "_law_column", "_law_column", defArgs s_law_column, defBody s_law_column, defScope s_law_column, [], []⟩
abbrev s_law_machine : Stmt := top 48
def d_law_machine : He.DefD := ⟨("_law_machine", none), "_law_machine", "_law_machine", defArgs s_law_machine, defBody s_law_machine, defScope s_law_machine, [], []⟩
abbrev s_law_row : Stmt := top 49
def d_law_row : He.DefD := ⟨("_law_row", none), "_law_row", "_law_row", defArgs s_law_row, defBody s_law_row, defScope s_law_row, [], []⟩
abbrev s_law_led : Stmt := top 50
def d_law_led : He.DefD := ⟨("_law_led", none), "_law_led", "_law_led", defArgs s_law_led, defBody s_law_led, defScope s_law_led, [], []⟩
abbrev s_law_effect : Stmt := top 51
def d_law_effect : He.DefD := ⟨("_law_effect", none), "_law_effect", "_law_effect", defArgs s_law_effect, defBody s_law_effect, defScope s_law_effect, [], []⟩
abbrev s_law_kernels : Stmt := top 52
def d_law_kernels : He.DefD := ⟨("_law_kernels", none), "_law_kernels", "_law_kernels", defArgs s_law_kernels, defBody s_law_kernels, defScope s_law_kernels, [], []⟩
abbrev s_law_renumbered : Stmt := top 53
def d_law_renumbered : He.DefD := ⟨("_law_renumbered", none), "_law_renumbered", "_law_renumbered", defArgs s_law_renumbered, defBody s_law_renumbered, defScope s_law_renumbered, [], []⟩
abbrev s_law_pairs : Stmt := top 54
def d_law_pairs : He.DefD := ⟨("_law_pairs", none), "_law_pairs", "_law_pairs", defArgs s_law_pairs, defBody s_law_pairs, defScope s_law_pairs, [], []⟩
abbrev s_law_calm : Stmt := top 55
def d_law_calm : He.DefD := ⟨("_law_calm", none), "_law_calm", "_law_calm", defArgs s_law_calm, defBody s_law_calm, defScope s_law_calm, [], []⟩
abbrev s_law_blind : Stmt := top 56
def d_law_blind : He.DefD := ⟨("_law_blind", none), "_law_blind", "_law_blind", defArgs s_law_blind, defBody s_law_blind, defScope s_law_blind, [], []⟩
abbrev s_law_behind : Stmt := top 57
def d_law_behind : He.DefD := ⟨("_law_behind", none), "_law_behind", "_law_behind", defArgs s_law_behind, defBody s_law_behind, defScope s_law_behind, [], []⟩
abbrev s_law_spoiled : Stmt := top 58
def d_law_spoiled : He.DefD := ⟨("_law_spoiled", none), "_law_spoiled", "_law_spoiled", defArgs s_law_spoiled, defBody s_law_spoiled, defScope s_law_spoiled, [], []⟩
abbrev s_law_places : Stmt := top 59
def d_law_places : He.DefD := ⟨("_law_places", none), "_law_places", "_law_places", defArgs s_law_places, defBody s_law_places, defScope s_law_places, [], []⟩
abbrev s_law_bad_row : Stmt := top 60
def d_law_bad_row : He.DefD := ⟨("_law_bad_row", none), "_law_bad_row", "_law_bad_row", defArgs s_law_bad_row, defBody s_law_bad_row, defScope s_law_bad_row, [], []⟩
abbrev s_law_part : Stmt := top 61
def d_law_part : He.DefD := ⟨("_law_part", none), "_law_part", "_law_part", defArgs s_law_part, defBody s_law_part, defScope s_law_part, [], []⟩
abbrev s_law_least : Stmt := top 62
def d_law_least : He.DefD := ⟨("_law_least", none), "_law_least", "_law_least", defArgs s_law_least, defBody s_law_least, defScope s_law_least, [], []⟩
abbrev s_law_asked : Stmt := top 63
def d_law_asked : He.DefD := ⟨("_law_asked", none), "_law_asked", "_law_asked", defArgs s_law_asked, defBody s_law_asked, defScope s_law_asked, [], []⟩
abbrev s_law : Stmt := top 64
def d_law : He.DefD := ⟨("law", none), "law", "law", defArgs s_law, defBody s_law, defScope s_law, [], []⟩
def fn0 : List He.DefD := [d_is_integer, d_is_number, d_is_index, d_is_sequence, d_idle, d_kernel_of, d_Machine_init, d_Machine_found, d_Machine_does, d_checked_row, d_led, d_effect, d_are_states, d_checked_change, d_starts, d_nexts, d_explored, d_seen, d_fault, d_late_commands]
def fn1 : List He.DefD := [d_is_blind, d_refuse_blind, d_kernel, d_ahead, d_is_part, d_kept_commands, d_kept_of_power, d_is_places, d_is_enough, d_greatest_of, d_greatest_kernel, d_fewest_classes, d_law_draw, d_law_any, d_law_of, d_law_mixed, d_law_columns, d_law_column, d_law_machine, d_law_row]
def fn2 : List He.DefD := [d_law_led, d_law_effect, d_law_kernels, d_law_renumbered, d_law_pairs, d_law_calm, d_law_blind, d_law_behind, d_law_spoiled, d_law_places, d_law_bad_row, d_law_part, d_law_least, d_law_asked, d_law]
def fn : List He.DefD := fn0 ++ (fn1 ++ (fn2))
def fa0 : List He.Fa := [.glo "is_integer", .glo "is_number", .glo "is_index", .glo "is_sequence", .glo "idle", .glo "kernel_of", .glo "checked_row", .glo "led", .glo "effect", .glo "are_states", .glo "checked_change", .glo "starts", .glo "nexts", .glo "explored", .glo "seen", .glo "fault", .glo "late_commands", .glo "is_blind", .glo "refuse_blind", .glo "kernel", .glo "ahead", .glo "is_part", .glo "kept_commands", .glo "kept_of_power", .glo "is_places", .glo "is_enough", .glo "greatest_of", .glo "greatest_kernel", .glo "fewest_classes", .glo "_law_draw"]
def fa1 : List He.Fa := [.glo "_law_any", .glo "_law_of", .glo "_law_mixed", .glo "_law_columns", .glo "_law_column", .glo "_law_machine", .glo "_law_row", .glo "_law_led", .glo "_law_effect", .glo "_law_kernels", .glo "_law_renumbered", .glo "_law_pairs", .glo "_law_calm", .glo "_law_blind", .glo "_law_behind", .glo "_law_spoiled", .glo "_law_places", .glo "_law_bad_row", .glo "_law_part", .glo "_law_least", .glo "_law_asked", .glo "law", .glo "Machine", .glo "Blind", .glo "InvalidRow", .glo "SlipsError", .free "isinstance", .free "int", .free "bool", .free "list"]
def fa2 : List He.Fa := [.free "tuple", .free "range", .free "all", .free "enumerate", .free "len", .free "sorted", .free "set", .free "min", .free "max", .free "abs", .free "repr", .free "super", .free "ValueError", .cls "Machine", .noat "Machine" "commands", .noat "Machine" "states", .noat "Machine" "steps", .noat "Machine" "_found", .meth "Machine" "found", .meth "Machine" "does", .mkr "Machine", .exm "Blind" "Blind" true, .exm "InvalidRow" "Blind" false, .exm "InvalidRow" "InvalidRow" true]
def fa : List He.Fa := fa0 ++ (fa1 ++ (fa2))
/-- an own error class whose __init__ closes over __class__ -/
def cellOf (fd : FuncData) : Addr := match fd.closure with
  | [(_, c)] => c
  | _ => 0
def clsB (K : PySem.W.Frag) (C : Addr) : Bool := match K.lookup C with
  | some ⟨.type t, _, .cls cd, sl⟩ => (match cd.mro, sl.toList with
    | .ref C1 :: bm, [_, _, _, _, some (.builtin n), _] => decide (t = "type") && (decide (C1 = C) && (decide (n = "ValueError.__new__") && (!cd.hasDel && (cd.hasDict && PySem.HandSPX.refsVE bm))))
    | _, _ => false)
  | _ => false
def initB (K : PySem.W.Frag) (x q : Str) : Bool := match K.lookup (He.fAd K (x, some "__init__")) with
  | some ⟨_, _, .func fd, _⟩ => PySem.W.codeIn K fd.code q && ((match fd.defaults with | .none => true | _ => false) && ((match fd.closure with | [(n, _)] => decide (n = "__class__") | _ => false) && ((match K.lookup (cellOf fd) with
    | some ⟨_, _, .cell (some (.ref D)), _⟩ => decide (D = He.ga K x)
    | _ => false) && (match fd.code with
    | .ref c => (match K.lookup c with
      | some ⟨_, _, .fields vs, _⟩ => (match (vs[2]? : Option Value) with
        | some (Value.str file _) => decide (file = ("/claim/cut.py" : Str))
        | _ => false)
      | _ => false)
    | _ => false))))
  | _ => false
def errB (K : PySem.W.Frag) (x q : Str) : Bool := clsB K (He.ga K x) && (He.eqO (PySem.W.findIn K (.ref (He.ga K x)) "__setattr__") (some (some (.builtin "object.__setattr__"))) && (xfB K (He.ga K x) && (He.eqO (PySem.W.findIn K (.ref (He.ga K x)) "at") (some none) &&
  (He.eqO (PySem.W.findIn K (.ref (He.ga K x)) "__init__") (some (some (.ref (He.fAd K (x, some "__init__"))))) && (decide (PySem.W.typeIn K (.ref (He.fAd K (x, some "__init__"))) = some (.type "function")) && (PySem.W.keepIn K (.ref (He.ga K x)) &&
  (decide (PySem.W.typeIn K (.ref (He.ga K x)) = some (.type "type")) && (decide (PySem.W.subIn K (.ref (He.ga K x)) (.type "ValueError") = some true) && (decide (PySem.W.mroIn K (He.ga K x) (.ref (He.ga K x)) = some true) && (He.eqO (PySem.W.ks_superIn K (He.ga K x) (He.ga K x) "__init__") (some (some (.builtin "ValueError.__init__"))) && initB K x q))))))))))
def exB (K : PySem.W.Frag) : Bool := errB K "Blind" "Blind.__init__" && (errB K "InvalidRow" "InvalidRow.__init__" && (He.eqO (PySem.W.nsIn K cStatics "thirdparty.any") (some none)))
abbrev FnZ : Type := Option (Str × Str × Arguments × FuncBody × Scope × Addr × Addr)
def fnZ (K : PySem.W.Frag) (p : Str × Option Str) : FnZ := match K.lookup (He.fAd K p) with
  | some ⟨_, _, .func fd, _⟩ => some (fd.name, fd.qualname, fd.params, fd.body, fd.scope, fd.globals, fd.builtins)
  | _ => none
def valZ (d : He.DefD) : FnZ := some (d.name, d.qual, d.params, .stmts d.body, d.scope, mainGlobals, builtinsNs)
def fz : List He.DefD := [d_Blind_init, d_InvalidRow_init]
abbrev tf : List He.Defn := [("seen", none)]
def asY (g : Addr → Option Obj) : Nat → List Addr
  | 0 => [mainGlobals, cStatics]
  | n + 1 => He.growD g (asY g n)
def KY (n : Nat) (g : Addr → Option Obj) : PySem.W.Frag := He.frT g (asY g n)
abbrev AlY : Type := He.AlX × List FnZ
def obsK (g : Addr → Option Obj) (K : PySem.W.Frag) : AlY := ((He.obsT fa fn [] K, exB K && He.tabsB g tf K), fz.map fun d => fnZ K d.at_)
def obsY (n : Nat) (g : Addr → Option Obj) : AlY := obsK g (KY n g)
def valY (w : World) : AlY := (He.valX fn [] w, fz.map valZ)
structure SaysY (w : World) (h : Heap) (K : PySem.W.Frag) : Prop where
  x : He.SaysX fa fn [] tf exB w h K
  z : (fz.map fun d => fnZ K d.at_) = fz.map valZ
theorem saysY_of {n : Nat} {w : World} {h : Heap} (e : obsY n h.get? = valY w) : SaysY w h (KY n h.get?) := by
  have e0 : (He.obsT fa fn [] (KY n h.get?), exB (KY n h.get?) && He.tabsB h.get? tf (KY n h.get?)) = He.valX fn [] w := congrArg (fun z : AlY => z.1) e
  have e1 : He.obsT fa fn [] (KY n h.get?) = He.valT fn [] w := congrArg (fun z : He.AlX => z.1) e0
  have e2 : (exB (KY n h.get?) && He.tabsB h.get? tf (KY n h.get?)) = true := congrArg (fun z : He.AlX => z.2) e0
  obtain ⟨h1, h2⟩ := He.ba e2
  have key : ∀ p ∈ tf, PySem.W.codeHdIn (KY n h.get?) (He.cT (KY n h.get?) p).1 (He.cT (KY n h.get?) p).2 = true ∧ ∃ o, h.get? (He.cT (KY n h.get?) p).2 = some o ∧ He.emptyTab o = true := fun p hp => by
    obtain ⟨h3, h4⟩ := He.ba (List.all_eq_true.mp h2 p hp)
    refine ⟨h3, ?_⟩
    cases q : h.get? (He.cT (KY n h.get?) p).2 with
    | none =>
      rw [q] at h4
      cases h4
    | some o =>
      rw [q] at h4
      exact ⟨o, rfl, h4⟩
  exact ⟨⟨e1, h1, fun p hp => (key p hp).1, fun p hp => by
    obtain ⟨_, o, q, z⟩ := key p hp
    exact He.frT_none q z, fun p hp => by
    obtain ⟨_, o, q, z⟩ := key p hp
    rw [q, He.emptyTab_eq z]⟩, congrArg (fun z : AlY => z.2) e⟩
def hookY (n : Nat) : PySem.W.Hook where
  α := AlY
  obs := fun s => obsY n s.heap.get?
  val := fun w => valY w
  says := fun w h => ∃ K : PySem.W.Frag, K.In h ∧ SaysY w h K
  of := fun _ _ e => ⟨_, He.frT_in, saysY_of e⟩
  keeps := fun _ _ _ ⟨K, hK, c⟩ k => ⟨K, PySem.W.Frag.In.keeps hK k, ⟨⟨c.x.t, c.x.more, c.x.hd, c.x.out, fun p hp => k _ _ (c.x.empty p hp)⟩, c.z⟩⟩
abbrev R : PySem.W.OpenRow := PySem.W.OpenLaw.row PySem.Challenge.rw_lateslips_k11_whole_few_commands_bring_a
abbrev hk : PySem.W.Hook := hookY 5
def ob (s : PySem.W.SharedT) : AlY := obsY 5 (HandSHeadRun.getT s)
theorem ob_eq (s : PySem.W.SharedT) : ob s = hk.obs s.abs := by
  have e : HandSHeadRun.getT s = s.abs.heap.get? := funext (HandSHeadRun.getT_eq s)
  unfold ob
  rw [e] <;> rfl
def loose0 : List PySem.Str := ["SlipsError", "InvalidMachine", "InvalidRow", "Blind", "Refused", "is_integer", "is_number", "is_index", "is_sequence", "idle", "kernel_of", "Machine", "checked_row", "led", "effect", "are_states", "checked_change", "starts", "nexts", "explored", "seen", "fault", "late_commands", "is_blind", "refuse_blind", "kernel", "ahead", "is_part", "kept_commands", "kept_of_power"]
def loose1 : List PySem.Str := ["is_places", "is_enough", "greatest_of", "greatest_kernel", "fewest_classes", "_law_draw", "_law_any", "_law_of", "_law_mixed", "_law_columns", "_law_column", "_law_machine", "_law_row", "_law_led", "_law_effect", "_law_kernels", "_law_renumbered", "_law_pairs", "_law_calm", "_law_blind", "_law_behind", "_law_spoiled", "_law_places", "_law_bad_row", "_law_part", "_law_least", "_law_asked"]
def loose : List PySem.Str := loose0 ++ (loose1)
theorem run (w : World) : HandSHeadRun.RunEq R (PySem.W.view R.prog [64]) hk ob 4000 loose w := by
  intro os
  kernel_rfl
end K11

set_option Elab.async false
set_option linter.all false
set_option maxRecDepth 100000
set_option maxHeartbeats 4000000
/-! Our own layer: what is frozen (F) and what is there (H), one step of both, data. -/
namespace K11
open PySem PySem.Spec PyProof.Rows L2
/-! ### steps -/
/-- from the frozen part F of the heap H to F' of H': what is not in S stands as it stood -/
structure Stp (S : List Addr) (F H F' H' : Hp) : Prop where
  ff : Same F F'
  fh : Same F' H'
  hh : ∀ a o, H a = some o → a ∉ S → H' a = some o
  nw : ∀ a o, H a = some o → F a = none → F' a = none
  th : ∀ a, H' a = none → H a = none
/-- an object that is there and may change: not frozen -/
structure Mu (F H : Hp) (l : Addr) (o : HO) : Prop where
  at_ : H l = some o
  fr : F l = none
section
variable {S S' : List Addr} {F H F1 H1 F2 H2 : Hp} {l p : Addr} {o u : HO}
theorem there_of (s : Stp S F H F1 H1) (h : H l = some o) : ∃ u, H1 l = some u := by
  cases e : H1 l with
  | some u => exact ⟨u, rfl⟩
  | none =>
    have z := s.th l e
    rw [h] at z
    cases z
theorem Stp.refl (e : Same F H) : Stp S F H F H := ⟨Same.refl F, e, fun _ _ h _ => h, fun _ _ _ n => n, fun _ h => h⟩
theorem Stp.trans (a : Stp S F H F1 H1) (b : Stp S F1 H1 F2 H2) : Stp S F H F2 H2 where
  ff := a.ff.trans b.ff
  fh := b.fh
  hh := fun x o h n => b.hh x o (a.hh x o h n) n
  nw := fun x o h n => by
    obtain ⟨u, hu⟩ := there_of a h
    exact b.nw x u hu (a.nw x o h n)
  th := fun x h => a.th x (b.th x h)
theorem Stp.mono (a : Stp S F H F1 H1) (h : ∀ x ∈ S, x ∈ S') : Stp S' F H F1 H1 := ⟨a.ff, a.fh, fun x o e n => a.hh x o e fun z => n (h x z), a.nw, a.th⟩
theorem Stp.up (a : Stp [] F H F1 H1) : Stp S F H F1 H1 := a.mono fun x z => by cases z
theorem Stp.same (a : Stp [] F H F1 H1) : Same H H1 := fun x o e => a.hh x o e fun z => by cases z
/-- a new object, frozen at once -/
theorem Stp.new (e : Same F H) (h : H p = none) : Stp S F H (upd F p o) (upd H p o) where
  ff := fun x u z => by rw [upd_ne (ne_of_none (e x u z) h)]; exact z
  fh := fun x u z => by
    by_cases hx : x = p
    · rw [hx, upd_same] at z ⊢
      exact z
    · rw [upd_ne hx] at z ⊢
      exact e x u z
  hh := fun x u z _ => by rw [upd_ne (ne_of_none z h)]; exact z
  nw := fun x u z n => by rw [upd_ne (ne_of_none z h)]; exact n
  th := fun x z => by
    by_cases hx : x = p
    · rw [hx, upd_same] at z
      cases z
    · rw [upd_ne hx] at z
      exact z
/-- a new object that may change -/
theorem Stp.newM (e : Same F H) (h : H p = none) : Stp S F H F (upd H p o) where
  ff := Same.refl F
  fh := fun x u z => by rw [upd_ne (ne_of_none (e x u z) h)]; exact e x u z
  hh := fun x u z _ => by rw [upd_ne (ne_of_none z h)]; exact z
  nw := fun x u z n => n
  th := fun x z => by
    by_cases hx : x = p
    · rw [hx, upd_same] at z
      cases z
    · rw [upd_ne hx] at z
      exact z
theorem Mu.new (e : Same F H) (h : H p = none) : Mu F (upd H p o) p o := ⟨upd_same, by
  cases z : F p with
  | none => rfl
  | some u =>
    have q := e p u z
    rw [h] at q
    cases q⟩
/-- an object made on the way is frozen -/
theorem Stp.freeze (a : Stp S F H F1 H1) (h0 : H l = none) (m : Mu F1 H1 l o) : Stp S F H (upd F1 l o) H1 where
  ff := fun x u z => by
    have y := a.ff x u z
    rw [upd_ne (ne_of_none y m.fr)]
    exact y
  fh := fun x u z => by
    by_cases hx : x = l
    · rw [hx, upd_same] at z
      rw [hx, ← z]
      exact m.at_
    · rw [upd_ne hx] at z
      exact a.fh x u z
  hh := a.hh
  nw := fun x u z n => by rw [upd_ne (ne_of_none z h0)]; exact a.nw x u z n
  th := a.th
/-- an object is written -/
theorem Stp.write (a : Stp S F H F1 H1) (h0 : H l = none ∨ l ∈ S) (m : Mu F1 H1 l o) : Stp S F H F1 (upd H1 l u) where
  ff := a.ff
  fh := fun x v z => by rw [upd_ne (ne_of_none z m.fr)]; exact a.fh x v z
  hh := fun x v z n => by
    have hx : x ≠ l := fun q => by
      rcases h0 with h0 | h0
      · rw [q, h0] at z
        cases z
      · exact n (by rw [q]; exact h0)
    rw [upd_ne hx]
    exact a.hh x v z n
  nw := a.nw
  th := fun x z => by
    by_cases hx : x = l
    · rw [hx, upd_same] at z
      cases z
    · rw [upd_ne hx] at z
      exact a.th x z
theorem Mu.wrote (m : Mu F H l o) : Mu F (upd H l u) l u := ⟨upd_same, m.fr⟩
theorem Mu.off (m : Mu F H l o) {q : Addr} (h : l ≠ q) : Mu F (upd H q u) l o := ⟨by rw [upd_ne h]; exact m.at_, m.fr⟩
theorem Stp.mu (a : Stp S F H F1 H1) (m : Mu F H l o) (h : l ∉ S) : Mu F1 H1 l o := ⟨a.hh l o m.at_ h, a.nw l o m.at_ m.fr⟩
theorem Stp.mu0 (a : Stp [] F H F1 H1) (m : Mu F H l o) : Mu F1 H1 l o := a.mu m fun z => by cases z
theorem Stp.none_ (a : Stp S F H F1 H1) (h : H1 l = none) : H l = none := a.th l h
theorem Mu.ne (m : Mu F H l o) (h : H p = none) : l ≠ p := ne_of_none m.at_ h
theorem fr_none (e : Same F H) (h : H p = none) : F p = none := by
  cases z : F p with
  | none => rfl
  | some u =>
    have q := e p u z
    rw [h] at q
    cases q
theorem notin_of (hS : ∀ a ∈ S, H a ≠ none) (h : H l = none) : l ∉ S := fun z => hS l z h
end
/-! ### what a call hands back -/
/-- Q of every value and heap that a step leads to -/
def Back (S : List Addr) (F H : Hp) (Q : VK) (P : V → Hp → Hp → Prop) : Prop := ∀ v F' H', Stp S F H F' H' → P v F' H' → Q v H'
/-! ### data -/
section
variable {K : PySem.W.Frag} {F H : Hp}
theorem same_rd {a : Addr} {u : HO} (e : Same F H) (h : Rd F a u) : Rd H a u := by
  rcases h with h | ⟨o, h⟩
  · exact Or.inl (e a _ h)
  · exact Or.inr ⟨o, e a _ h⟩
theorem same_l {a : Addr} {xs : List V} (e : Same F H) (h : SqL K F a xs) : SqL K H a xs := by
  rcases h with h | h
  · exact Or.inl (same_rd e h)
  · exact Or.inr h
theorem same_t {a : Addr} {xs : List V} (e : Same F H) (h : SqT K F a xs) : SqT K H a xs := by
  rcases h with h | h
  · exact Or.inl (same_rd e h)
  · exact Or.inr h
mutual
theorem Dp_mono (e : Same F H) : ∀ (d : PyData) (v : V), Dp K F v d → Dp K H v d
  | .none, _, h => by cases h; exact .non
  | .bool b, _, h => by cases h; exact .bl b
  | .int i, _, h => by cases h; exact .int i
  | .str x, _, h => by cases h; exact .str x
  | .list ds, _, h => by
    cases h with
    | lst hs ha => exact .lst (same_l e hs) (DpAll_mono e ds _ ha)
  | .tuple ds, _, h => by
    cases h with
    | tup hs ha => exact .tup (same_t e hs) (DpAll_mono e ds _ ha)
  | .dict _, _, h => by cases h
theorem DpAll_mono (e : Same F H) : ∀ (ds : List PyData) (vs : List V), DpAll K F vs ds → DpAll K H vs ds
  | [], _, h => by cases h; exact .nil
  | d :: ds, _, h => by
    cases h with
    | cons h1 h2 => exact .cons (Dp_mono e d _ h1) (DpAll_mono e ds _ h2)
end
end
end K11
namespace L2
open PySem PySem.Spec PyProof.Rows K11
section
variable {K : PySem.W.Frag} {F H : Hp}
theorem Dp.up {v : V} {d : PyData} (h : Dp K F v d) (e : Same F H) : Dp K H v d := Dp_mono e d v h
theorem DpAll.up {vs : List V} {ds : List PyData} (h : DpAll K F vs ds) (e : Same F H) : DpAll K H vs ds := DpAll_mono e ds vs h
theorem DpAll.len : ∀ {vs : List V} {ds : List PyData}, DpAll K F vs ds → vs.length = ds.length
  | _, _, .nil => rfl
  | _, _, .cons _ t => congrArg Nat.succ (DpAll.len t)
theorem DpAll.get : ∀ {vs : List V} {ds : List PyData} {i : Nat} {d : PyData}, DpAll K F vs ds → ds[i]? = some d → ∃ v, vs[i]? = some v ∧ Dp K F v d
  | _, _, _, _, .nil, e => by simp at e
  | _, _, 0, _, .cons h _, e => by
    have q := Option.some.inj e
    subst q
    exact ⟨_, rfl, h⟩
  | _, _, i + 1, d, .cons _ t, e => DpAll.get (i := i) (d := d) t e
theorem DpAll.snoc : ∀ {vs : List V} {ds : List PyData} {v : V} {d : PyData}, DpAll K F vs ds → Dp K F v d → DpAll K F (vs ++ [v]) (ds ++ [d])
  | _, _, _, _, .nil, h => .cons h .nil
  | _, _, _, _, .cons a t, h => .cons a (DpAll.snoc t h)
theorem DpAll.app : ∀ {vs ws : List V} {ds es : List PyData}, DpAll K F vs ds → DpAll K F ws es → DpAll K F (vs ++ ws) (ds ++ es)
  | _, _, _, _, .nil, h => h
  | _, _, _, _, .cons a t, h => .cons a (DpAll.app t h)
theorem DpAll.of_get : ∀ {vs : List V} {ds : List PyData}, vs.length = ds.length → (∀ (i : Nat) v d, vs[i]? = some v → ds[i]? = some d → Dp K F v d) → DpAll K F vs ds
  | [], [], _, _ => .nil
  | [], _ :: _, h, _ => by simp at h
  | _ :: _, [], h, _ => by simp at h
  | v :: vs, d :: ds, h, k => .cons (k 0 v d rfl rfl) (DpAll.of_get (Nat.succ.inj h) fun i v' d' a b => k (i + 1) v' d' a b)
theorem DpAll.at {vs : List V} {ds : List PyData} {i : Nat} {v : V} {d : PyData} (h : DpAll K F vs ds) (a : vs[i]? = some v) (b : ds[i]? = some d) : Dp K F v d := by
  obtain ⟨u, e, q⟩ := h.get b
  rw [a] at e
  cases e
  exact q
theorem DpAll.take {vs : List V} {ds : List PyData} (n : Nat) (h : DpAll K F vs ds) : DpAll K F (vs.take n) (ds.take n) := by
  refine .of_get (by rw [List.length_take, List.length_take, h.len]) fun i v d a b => ?_
  have la := (List.getElem?_eq_some_iff.mp a).1
  rw [List.length_take] at la
  rw [List.getElem?_take_of_lt (by omega)] at a b
  exact h.at a b
theorem DpAll.drop {vs : List V} {ds : List PyData} (n : Nat) (h : DpAll K F vs ds) : DpAll K F (vs.drop n) (ds.drop n) := by
  refine .of_get (by rw [List.length_drop, List.length_drop, h.len]) fun i v d a b => ?_
  rw [List.getElem?_drop] at a b
  exact h.at a b
theorem DpAll.rev {vs : List V} {ds : List PyData} (h : DpAll K F vs ds) : DpAll K F vs.reverse ds.reverse := by
  refine .of_get (by rw [List.length_reverse, List.length_reverse, h.len]) fun i v d a b => ?_
  have la := (List.getElem?_eq_some_iff.mp a).1
  rw [List.length_reverse] at la
  rw [List.getElem?_reverse la] at a
  rw [List.getElem?_reverse (by rw [← h.len]; exact la)] at b
  rw [← h.len] at b
  exact h.at a b
theorem DpAll.set {vs : List V} {ds : List PyData} {v : V} {d : PyData} (h : DpAll K F vs ds) (k : Nat) (q : Dp K F v d) : DpAll K F (vs.set k v) (ds.set k d) := by
  refine .of_get (by rw [List.length_set, List.length_set, h.len]) fun i w e a b => ?_
  by_cases hk : k = i
  · subst hk
    have la := (List.getElem?_eq_some_iff.mp a).1
    rw [List.length_set] at la
    rw [List.getElem?_set_self la] at a
    rw [List.getElem?_set_self (by rw [← h.len]; exact la)] at b
    cases a
    cases b
    exact q
  · rw [List.getElem?_set_ne hk] at a b
    exact h.at a b
theorem DpAll.mem {vs : List V} {ds : List PyData} {v : V} (h : DpAll K F vs ds) (hv : v ∈ vs) : ∃ d ∈ ds, Dp K F v d := by
  obtain ⟨i, hi, e⟩ := List.mem_iff_getElem.mp hv
  have a : vs[i]? = some v := by rw [List.getElem?_eq_getElem hi, e]
  have hd : i < ds.length := by rw [← h.len]; exact hi
  exact ⟨ds[i], List.getElem_mem hd, h.at a (List.getElem?_eq_getElem hd)⟩
theorem Dp.tup_inv {v : V} {ds : List PyData} (h : Dp K F v (.tuple ds)) : ∃ a xs, v = .ref a ∧ SqT K F a xs ∧ DpAll K F xs ds := by
  cases h with
  | tup h1 h2 => exact ⟨_, _, rfl, h1, h2⟩
theorem Dp.lst_inv {v : V} {ds : List PyData} (h : Dp K F v (.list ds)) : ∃ a xs, v = .ref a ∧ SqL K F a xs ∧ DpAll K F xs ds := by
  cases h with
  | lst h1 h2 => exact ⟨_, _, rfl, h1, h2⟩
theorem Dp.int_inv {v : V} {i : Int} (h : Dp K F v (.int i)) : v = .int i := by cases h; rfl
theorem Dp.bl_inv {v : V} {b : Bool} (h : Dp K F v (.bool b)) : v = .bl b := by cases h; rfl
theorem Dp.str_inv {v : V} {x : Str} (h : Dp K F v (.str x)) : v = .str x := by cases h; rfl
theorem Dp.non_inv {v : V} (h : Dp K F v .none) : v = .non := by cases h; rfl
end
end L2
namespace K11
open PySem PySem.Spec PyProof.Rows L2
section
variable {K : PySem.W.Frag} {F H : Hp}
/-! ### whole numbers as data -/
abbrev vN (n : Nat) : V := .int (n : Int)
abbrev nD (n : Nat) : PyData := .int (n : Int)
abbrev tN (ns : List Nat) : PyData := .tuple (ns.map nD)
abbrev lN (ns : List Nat) : PyData := .list (ns.map nD)
abbrev tZ (ns : List Int) : PyData := .tuple (ns.map .int)
abbrev lZ (ns : List Int) : PyData := .list (ns.map .int)
theorem all_ints : ∀ ns : List Int, DpAll K F (ns.map V.int) (ns.map .int)
  | [] => .nil
  | n :: ns => .cons (.int n) (all_ints ns)
theorem all_ints_inv : ∀ {ns : List Int} {vs : List V}, DpAll K F vs (ns.map .int) → vs = ns.map V.int
  | [], _, h => by cases h; rfl
  | n :: ns, _, h => by
    cases h with
    | cons h1 h2 => rw [h1.int_inv, all_ints_inv h2]; rfl
theorem all_nats : ∀ ns : List Nat, DpAll K F (ns.map vN) (ns.map nD)
  | [] => .nil
  | n :: ns => .cons (.int n) (all_nats ns)
theorem all_nats_inv : ∀ {ns : List Nat} {vs : List V}, DpAll K F vs (ns.map nD) → vs = ns.map vN
  | [], _, h => by cases h; rfl
  | n :: ns, _, h => by
    cases h with
    | cons h1 h2 => rw [h1.int_inv, all_nats_inv h2]; rfl
theorem all_bls : ∀ bs : List Bool, DpAll K F (bs.map V.bl) (bs.map .bool)
  | [] => .nil
  | b :: bs => .cons (.bl b) (all_bls bs)
end
end K11
namespace L2
open PySem PySem.Spec PyProof.Rows K11
section
variable {K : PySem.W.Frag} {F H : Hp}
theorem Dp.tN_inv {v : V} {ns : List Nat} (h : Dp K F v (tN ns)) : ∃ a, v = .ref a ∧ SqT K F a (ns.map vN) := by
  obtain ⟨a, xs, e, h1, h2⟩ := h.tup_inv
  rw [all_nats_inv h2] at h1
  exact ⟨a, e, h1⟩
theorem Dp.lN_inv {v : V} {ns : List Nat} (h : Dp K F v (lN ns)) : ∃ a, v = .ref a ∧ SqL K F a (ns.map vN) := by
  obtain ⟨a, xs, e, h1, h2⟩ := h.lst_inv
  rw [all_nats_inv h2] at h1
  exact ⟨a, e, h1⟩
theorem Dp.tZ_inv {v : V} {ns : List Int} (h : Dp K F v (tZ ns)) : ∃ a, v = .ref a ∧ SqT K F a (ns.map V.int) := by
  obtain ⟨a, xs, e, h1, h2⟩ := h.tup_inv
  rw [all_ints_inv h2] at h1
  exact ⟨a, e, h1⟩
theorem Dp.lZ_inv {v : V} {ns : List Int} (h : Dp K F v (lZ ns)) : ∃ a, v = .ref a ∧ SqL K F a (ns.map V.int) := by
  obtain ⟨a, xs, e, h1, h2⟩ := h.lst_inv
  rw [all_ints_inv h2] at h1
  exact ⟨a, e, h1⟩
theorem Dp.of_tN {a : Addr} {ns : List Nat} (h : SqT K F a (ns.map vN)) : Dp K F (.ref a) (tN ns) := .tup h (all_nats ns)
theorem Dp.of_lN {a : Addr} {ns : List Nat} (h : SqL K F a (ns.map vN)) : Dp K F (.ref a) (lN ns) := .lst h (all_nats ns)
theorem Dp.of_tZ {a : Addr} {ns : List Int} (h : SqT K F a (ns.map V.int)) : Dp K F (.ref a) (tZ ns) := .tup h (all_ints ns)
theorem Dp.of_lZ {a : Addr} {ns : List Int} (h : SqL K F a (ns.map V.int)) : Dp K F (.ref a) (lZ ns) := .lst h (all_ints ns)
end
end L2
namespace K11
open PySem PySem.Spec PyProof.Rows L2
section
variable {K : PySem.W.Frag} {F H : Hp}
/-- a mutable list whose items are data -/
structure MuL (K : PySem.W.Frag) (F H : Hp) (l : Addr) (ds : List PyData) : Prop where
  ex : ∃ xs, Mu F H l (.lst xs) ∧ DpAll K F xs ds
theorem MuL.dp {l : Addr} {ds : List PyData} (m : MuL K F H l ds) (e : Same F H) : Dp K H (.ref l) (.list ds) := by
  obtain ⟨xs, h1, h2⟩ := m.ex
  exact .lst (.inl (.inl h1.at_)) (h2.up e)
end
section
variable {K : PySem.W.Frag} {S : List Addr} {F H F1 H1 : Hp} {l : Addr} {ds : List PyData} {xs : List V}
theorem Stp.muL (s : Stp S F H F1 H1) (m : MuL K F H l ds) (h : l ∉ S) : MuL K F1 H1 l ds := by
  obtain ⟨xs, a, b⟩ := m.ex
  exact ⟨xs, s.mu a h, b.up s.ff⟩
theorem Stp.muL0 (s : Stp [] F H F1 H1) (m : MuL K F H l ds) : MuL K F1 H1 l ds := s.muL m fun z => by cases z
theorem MuL.off (m : MuL K F H l ds) {q : Addr} {u : HO} (h : l ≠ q) : MuL K F (upd H q u) l ds := by
  obtain ⟨xs, a, b⟩ := m.ex
  exact ⟨xs, a.off h, b⟩
/-- a mutable list made on the way is frozen: it is data from now on -/
theorem MuL.frz {F0 H0 : Hp} (m : MuL K F H l ds) (s : Stp S F0 H0 F H) (h0 : H0 l = none) : ∃ F', Stp S F0 H0 F' H ∧ Same F F' ∧ Dp K F' (.ref l) (.list ds) := by
  obtain ⟨xs, a, b⟩ := m.ex
  have e : Same F (upd F l (.lst xs)) := fun x u z => by
    rw [upd_ne (ne_of_none z a.fr)]
    exact z
  exact ⟨_, s.freeze h0 a, e, .lst (.inl (.inl upd_same)) (b.up e)⟩
end
/-! ### equality of data -/
section
theorem eqv_nD (a b : Nat) : PyData.eqv (nD a) (nD b) = decide (a = b) := by
  simp only [PyData.eqv]
  rw [Bool.eq_iff_iff, beq_iff_eq, decide_eq_true_eq]
  exact Int.ofNat_inj
theorem eqv_int (a b : Int) : PyData.eqv (.int a) (.int b) = decide (a = b) := by
  simp only [PyData.eqv]
  rw [Bool.eq_iff_iff, beq_iff_eq, decide_eq_true_eq]
theorem eqvAll_map {α : Type} [DecidableEq α] (f : α → PyData) (hf : ∀ a b, PyData.eqv (f a) (f b) = decide (a = b)) : ∀ xs ys : List α, PyData.eqvAll (xs.map f) (ys.map f) = decide (xs = ys)
  | [], [] => by simp [PyData.eqvAll]
  | [], _ :: _ => by simp [PyData.eqvAll]
  | _ :: _, [] => by simp [PyData.eqvAll]
  | x :: xs, y :: ys => by
    rw [List.map_cons, List.map_cons, PyData.eqvAll, hf, eqvAll_map f hf xs ys, ← Bool.decide_and]
    exact decide_eq_decide.mpr (by rw [List.cons.injEq])
theorem eqv_tN (xs ys : List Nat) : PyData.eqv (tN xs) (tN ys) = decide (xs = ys) := by
  simp only [PyData.eqv]
  exact eqvAll_map nD eqv_nD xs ys
theorem eqv_lN (xs ys : List Nat) : PyData.eqv (lN xs) (lN ys) = decide (xs = ys) := by
  simp only [PyData.eqv]
  exact eqvAll_map nD eqv_nD xs ys
theorem eqv_lnil (xs : List PyData) : PyData.eqv (.list xs) (.list []) = xs.isEmpty := by
  cases xs with
  | nil => simp [PyData.eqv, PyData.eqvAll]
  | cons x r => simp [PyData.eqv, PyData.eqvAll]
end
end K11

set_option Elab.async false
set_option linter.all false
set_option maxRecDepth 100000
set_option maxHeartbeats 4000000
/-! Rules of our own: either of two readings; subscripts by data; t[::-1]; t.index of whole numbers; repr of data; sorted tuples of any number. -/
namespace K11
open PySem PySem.Spec PyProof.Rows L2
section
variable {X : Cx}
/-! ### either reading -/
def tEither (t u : TE) : TE := fun σ H Q => t σ H Q ∨ u σ H Q
def iEither (t u : TI) : TI := fun σ H R => t σ H R ∨ u σ H R
theorem pe_either {e : Expr} {t u : TE} (h1 : PE X e t) (h2 : PE X e u) : PE X e (tEither t u) :=
  ⟨fun pins s σ H Q I h => h.elim (fun z => h1.run pins s σ H Q I z) (fun z => h2.run pins s σ H Q I z)⟩
theorem pi_either {tg e : Expr} {t u : TI} (h1 : PI X tg e t) (h2 : PI X tg e u) : PI X tg e (iEither t u) :=
  ⟨fun pins s σ H R I h => h.elim (fun z => h1.run pins s σ H R I z) (fun z => h2.run pins s σ H R I z)⟩
/-! ### a[i] of a list or a tuple -/
def rIxB (K : PySem.W.Frag) : R2 := fun x y H Q => rIxL K x y H Q ∨ rIxT K x y H Q
theorem ix_both : IxR X (rIxB X.K) := IxR.or ix_list ix_tup
theorem ixB_l {K : PySem.W.Frag} {H : Hp} {Q : VK} {a : Addr} {xs : List V} {i : Nat} {v : V} (h : SqL K H a xs) (e : xs[i]? = some v) (q : Q v H) : rIxB K (.ref a) (.int (i : Int)) H Q := .inl ⟨a, xs, i, v, rfl, rfl, h, atI_nat e, q⟩
theorem ixB_t {K : PySem.W.Frag} {H : Hp} {Q : VK} {a : Addr} {xs : List V} {i : Nat} {v : V} (h : SqT K H a xs) (e : xs[i]? = some v) (q : Q v H) : rIxB K (.ref a) (.int (i : Int)) H Q := .inr ⟨a, xs, i, v, rfl, rfl, h, atI_nat e, q⟩
/-- by data: of a list, of a tuple -/
theorem ixB_dl {K : PySem.W.Frag} {F H : Hp} {Q : VK} {x : V} {ds : List PyData} {d : PyData} {i : Nat} (h : Dp K F x (.list ds)) (f : Same F H) (e : ds[i]? = some d) (q : ∀ v, Dp K F v d → Q v H) : rIxB K x (.int (i : Int)) H Q := by
  obtain ⟨a, xs, rfl, h1, h2⟩ := h.lst_inv
  obtain ⟨v, hv, hd⟩ := h2.get e
  exact ixB_l (same_l f h1) hv (q v hd)
theorem ixB_dt {K : PySem.W.Frag} {F H : Hp} {Q : VK} {x : V} {ds : List PyData} {d : PyData} {i : Nat} (h : Dp K F x (.tuple ds)) (f : Same F H) (e : ds[i]? = some d) (q : ∀ v, Dp K F v d → Q v H) : rIxB K x (.int (i : Int)) H Q := by
  obtain ⟨a, xs, rfl, h1, h2⟩ := h.tup_inv
  obtain ⟨v, hv, hd⟩ := h2.get e
  exact ixB_t (same_t f h1) hv (q v hd)
theorem get_nD {ns : List Nat} {i n : Nat} (e : ns[i]? = some n) : (ns.map nD)[i]? = some (nD n) := by
  rw [List.getElem?_map, e] <;> rfl
theorem get_vN {ns : List Nat} {i n : Nat} (e : ns[i]? = some n) : (ns.map vN)[i]? = some (vN n) := by
  rw [List.getElem?_map, e] <;> rfl
end
/-! ### t[::-1] -/
section
variable {prog : Program} {w : World} {A : Around} {E : Value → Shared → Prop} {s : Shared}
theorem places_back (n : Nat) : Builtin.Slice.slicePlaces ((n : Int) - 1) (-1) (-1) = n := by
  unfold Builtin.Slice.slicePlaces
  have h0 : ¬ ((-1 : Int) > 0) := by omega
  simp only [h0, if_false]
  by_cases hn : n = 0
  · subst hn
    decide
  · have h1 : (n : Int) - 1 > -1 := by omega
    simp only [h1, if_true]
    have e : ((n : Int) - 1 - -1 - 1) / (- -1) + 1 = (n : Int) := by
      rw [show (- -1 : Int) = 1 by omega, Int.ediv_one]
      omega
    rw [e]
    omega
theorem adjust_back (n : Nat) : Builtin.Slice.sliceAdjust none none (-1) (n : Int) = ((n : Int) - 1, -1) := by
  unfold Builtin.Slice.sliceAdjust
  have h0 : ((-1 : Int) < 0) := by omega
  simp only [h0, if_true]
theorem applied_back {sl : Addr} {vl vu vk : Value} {n : Nat} {Q : Int × Int × Nat → Shared → Prop} (hs : s.heap.IsSliceOf sl vl vu vk) (pl : IsPart vl none) (pu : IsPart vu none) (pk : IsPart vk (some (-1)))
    (h : Q ((n : Int) - 1, -1, n) s) : wpAny (model prog w) A (Builtin.Slice.sliceApplied (.ref sl) (pure (n : Int))) Q E s := by
  obtain ⟨os, hos, hcs, hds⟩ := id hs
  unfold Builtin.Slice.sliceApplied Builtin.Slice.sliceFields
  refine wpAny_bind (wpAny_bind (wpAny_field hos hds (x := vl) rfl (wpAny_bind (wpAny_field hos hds (x := vu) rfl (wpAny_bind (wpAny_field hos hds (x := vk) rfl (wpAny_pure ?_)))))))
  refine wpAny_bind (HT.slicePart_ pk ?_)
  show wpAny _ _ (if ((-1 : Int) == 0) = true then _ else _) _ _ s
  rw [if_neg (by decide)]
  refine wpAny_bind (HT.slicePart_ pl (wpAny_bind (HT.slicePart_ pu (wpAny_bind (wpAny_pure ?_)))))
  show wpAny _ _ (match Builtin.Slice.sliceAdjust none none (-1) (n : Int) with | (lo, hi) => pure (lo, (-1 : Int), Builtin.Slice.slicePlaces lo hi (-1))) _ _ s
  rw [adjust_back]
  show wpAny _ _ (pure ((n : Int) - 1, (-1 : Int), Builtin.Slice.slicePlaces ((n : Int) - 1) (-1) (-1))) _ _ s
  rw [places_back]
  exact wpAny_pure h
theorem back_items (xs : Array Value) : ((List.range xs.size).filterMap fun (k : Nat) => xs[((xs.size : Int) - 1 + (k : Int) * (-1)).toNat]?).toArray = xs.toList.reverse.toArray := by
  congr 1
  have e : (List.range xs.size).filterMap (fun (k : Nat) => xs[((xs.size : Int) - 1 + (k : Int) * (-1)).toNat]?) = (List.range xs.size).filterMap (fun k => xs.toList.reverse[k]?) := by
    have cg : ∀ (l : List Nat) (f g : Nat → Option Value), (∀ k ∈ l, f k = g k) → l.filterMap f = l.filterMap g := by
      intro l f g h
      induction l with
      | nil => rfl
      | cons a r ih => rw [List.filterMap_cons, List.filterMap_cons, h a (List.mem_cons_self ..), ih fun k hk => h k (List.mem_cons_of_mem _ hk)]
    refine cg _ _ _ fun k hk => ?_
    have hk' : k < xs.size := List.mem_range.mp hk
    rw [List.getElem?_reverse (by rw [Array.length_toList]; exact hk'), Array.length_toList, Array.getElem?_toList]
    congr 1
    omega
  rw [e]
  have g : ∀ l : List Value, (List.range l.length).filterMap (fun k => l[k]?) = l := by
    intro l
    induction l with
    | nil => rfl
    | cons a r ih =>
      rw [List.length_cons, List.range_succ_eq_map, List.filterMap_cons, List.filterMap_map]
      show a :: List.filterMap (fun k => r[k]?) (List.range r.length) = a :: r
      rw [ih]
  have q := g xs.toList.reverse
  rw [List.length_reverse, Array.length_toList] at q
  exact q
theorem getItem_tuple_back {t sl : Addr} {items : Array Value} {vl vu vk : Value} {Q : Value → Shared → Prop} (ht : IsTup s.heap t items) (hs : s.heap.IsSliceOf sl vl vu vk) (pl : IsPart vl none) (pu : IsPart vu none) (pk : IsPart vk (some (-1)))
    (h : Q (.ref s.heap.objs.size) { s with heap := s.heap.push { cls := .type "tuple", data := .seq items.toList.reverse.toArray } }) (hsz : items.size ≤ sizeLine) : wpAny (model prog w) A (getItem (.ref t) (.ref sl)) Q E s := by
  have fit : sizeOk (.seq items.toList.reverse.toArray) := by
    show items.toList.reverse.toArray.size ≤ sizeLine
    rw [List.size_toArray, List.length_reverse, Array.length_toList]
    exact hsz
  obtain ⟨os, hos, hcs, hds⟩ := id hs
  have hT : s.TypeIs (.ref sl) "slice" := ⟨os, hos, hcs⟩
  unfold getItem
  try with_reducible refine wpAny_holding ?_
  first | refine wpAny_bind (wpAny_pure ?_) | skip
  refine wpAny_bind (wpAny_sequenceKey ht.typeIs (by decide) ?_)
  refine wpAny_bind (wpAny_callSpecial?_slot (name := Str.ofString "__getitem__") ht.typeIs PyProof.Rows.slot_tuple_getitem
    (wpAny_call_entry PyProof.Rows.slot_tuple_getitem ht.typeIs entry_tuple_getitem ?_ (args_tuple_getitem _ _)))
  show wpAny _ _ (Builtin.Tuple.tupleItemsOf (.ref t) >>= _) _ _ s
  refine wpAny_bind (tupleItemsOf_ ht ?_)
  refine wpAny_bind (wpAny_typeOf hT ?_)
  rw [if_pos (by decide)]
  refine wpAny_bind (applied_back hs pl pu pk ?_)
  have no : ¬ ((((items.size : Int) - 1) == 0 && (-1 : Int) == 1 && items.size == items.size) = true) := by
    intro q
    rw [Bool.and_eq_true, Bool.and_eq_true] at q
    exact absurd q.1.2 (by decide)
  show wpAny _ _ (if (((items.size : Int) - 1) == 0 && (-1 : Int) == 1 && items.size == items.size) = true then _ else _) _ _ s
  rw [if_neg no, back_items]
  first
    | exact wpAny_bind (m := Builtin.Tuple.tupleExact _) (wpAny_newObj_type (wpAny_pure ⟨_, rfl, wpAny_pure h⟩) fit)
    | exact wpAny_bind (m := Builtin.Tuple.tupleExact _) (wpAny_newObj_type (wpAny_bind (wpAny_pure (wpAny_pure ⟨_, rfl, wpAny_pure h⟩))) fit)
    | exact wpAny_bind (wpAny_bind (m := Builtin.Tuple.tupleExact _) (wpAny_newObj_type (wpAny_pure (wpAny_pure ⟨_, rfl, wpAny_pure h⟩)) fit))
    | exact wpAny_bind (wpAny_bind (m := Builtin.Tuple.tupleExact _) (wpAny_newObj_type (wpAny_pure ⟨_, rfl, wpAny_pure h⟩) fit))
end
section
variable {X : Cx}
/-- t[::-1], t a tuple: a new one -/
def tRevT (K : PySem.W.Frag) (te : TE) : TE := fun σ H Q => te σ H fun x H1 => ∃ a xs, x = .ref a ∧ SqT K H1 a xs ∧ ∀ p, H1 p = none → Q (.ref p) (upd H1 p (.tup xs.reverse))
theorem pe_revT {e : Expr} {te : TE} {k : Nat} {p1 p2 p3 pos : Pos} (he : PE X e te) : PE X (.Subscript e (.Slice none none (some (.UnaryOp .USub (.Constant (.int 1) k p1) p2)) p3) pos) (tRevT X.K te) := by
  refine ⟨fun pins s σ H Q I h => ?_⟩
  refine Subscript_ (thn (he.run pins s σ H _ I h) fun v s1 hh => ?_)
  obtain ⟨x, H1, I1, r1, a, xs, ex, hx, q⟩ := hh
  subst ex
  cases r1
  have hst : PO X (some (.UnaryOp .USub (.Constant (.int 1) k p1) p2)) (tPart (tUn (rU fun i => .int (-i)) (tC (.int 1)))) := po_some (pe_un un_neg pe_int)
  refine wpAny_Slice (thn (po_none.run pins s1 σ H1 (fun o H2 => o = none ∧ H2 = H1) I1 ⟨rfl, rfl⟩) fun vl s2 h2 => ?_)
  obtain ⟨l, H2, I2, pl, el, e2⟩ := h2
  subst el e2
  refine thn (po_none.run pins s2 σ H2 (fun o H3 => o = none ∧ H3 = H2) I2 ⟨rfl, rfl⟩) fun vu s3 h3 => ?_
  obtain ⟨u, H3, I3, pu, eu, e3⟩ := h3
  subst eu e3
  refine thn (hst.run pins s3 σ H3 (fun o H4 => o = some (-1) ∧ H4 = H3) I3 ⟨1, rfl, -1, rfl, rfl, rfl⟩) fun vs s4 h4 => ?_
  obtain ⟨o, H4, I4, ps, eo, e4⟩ := h4
  subst eo e4
  have I5 : Inv X pins σ H4 { s4 with heap := s4.heap.push { cls := .type "slice", data := .fields #[vl, vu, vs] } } := I4.kept (t' := s4.toks) fun b ob q => Heap.get?_push_of_some _ q
  obtain ⟨its, r, ht, hz⟩ := I5.tuple hx
  have hlen := r.length
  show wpAny (model X.prog X.w) X.A (subscriptTail e (.Slice none none (some (.UnaryOp .USub (.Constant (.int 1) k p1) p2)) p3) (.ref a) (.ref s4.heap.objs.size)) (EP X pins σ Q) X.xe { s4 with heap := s4.heap.push { cls := .type "slice", data := .fields #[vl, vu, vs] } }
  refine tail_any (ops := [.ref a, .ref s4.heap.objs.size]) ht.typeIs (PyProof.Rows.slot_tuple_getitem.lookup) ?_ (by with_unfolding_all rfl)
  refine getItem_tuple_back ht (Heap.IsSliceOf.new _ vl vu vs) pl pu ps ?_ (by rw [List.size_toArray]; omega)
  refine ⟨.ref _, _, I5.laid (t' := s4.toks) (o := .tup xs.reverse) (fun b ob q => Heap.get?_push_of_some _ q) (Nat.le_refl _) ?_, rfl, q _ (I5.hok.fresh (Nat.le_refl _))⟩
  refine ⟨by rw [List.length_reverse]; exact hz, its.reverse, r.reverse, _, Heap.get?_push_size _ rfl, rfl, ?_⟩
  exact ⟨_, rfl⟩
/-! ### t.index(n), t a tuple of whole numbers -/
def rIndexT (K : PySem.W.Frag) : V → List V → Hp → VK → Prop := fun x xs H Q => ∃ (a : Addr) (ys : List V) (y : V) (j : Nat) (z : V), x = V.ref a ∧ xs = [y] ∧ SqT K H a ys ∧ flatV y = true ∧ ys.all flatV = true ∧ ys[j]? = some z ∧ eqV z y = true ∧
  (∀ (m : Nat) (z' : V), m < j → ys[m]? = some z' → eqV z' y = false) ∧ Q (.int (j : Nat)) H
theorem mt_indexT : MtR X "tuple.index" (rIndexT X.K) := by
  intro pins s σ H x xs v us Q I rx rxs h
  obtain ⟨a, ys, y, j, z, rfl, rfl, hs, fy, fys, hz, hzj, hno, q⟩ := h
  cases rx
  obtain ⟨uy, rfl, ry⟩ := vals1 rxs
  obtain ⟨its, rv, pl, hlen⟩ := I.tuple hs
  obtain ⟨⟨cls, dd, dt, sl⟩, ho, hc, n, hd⟩ := pl
  simp only at hc hd
  subst hc hd
  have hvl := rv.length
  obtain ⟨u, hu, ru⟩ := rv.get hz
  obtain ⟨hjl, hje⟩ := List.getElem?_eq_some_iff.mp hu
  have hj : j < its.toArray.size := by simpa using hjl
  refine call_meets PySem.F.slot_tuple_index ⟨_, ho, rfl⟩ PySem.F.entry_tuple_index (PySem.F.args_tuple_index_2 _ _) (TI.tuple_indexAt a its.toArray n dd sl uy (eqU y) j hj ?_ ?_) ⟨ho, fun u' hu' => mem_eqAt ry fy rv fys u' (by simpa using hu'), ?_⟩
  · have e1 : its.toArray[j] = u := by simpa using hje
    rw [e1, eqU_of ru (flat_at fys hz)]
    exact hzj
  · intro m hm hmj
    have hml : m < its.length := by simpa using hm
    have hmy : m < ys.length := by omega
    have hy2 : ys[m]? = some ys[m] := List.getElem?_eq_getElem hmy
    obtain ⟨u2, hu2, ru2⟩ := rv.get hy2
    obtain ⟨_, hme⟩ := List.getElem?_eq_some_iff.mp hu2
    have e1 : its.toArray[m] = u2 := by simpa using hme
    rw [e1, eqU_of ru2 (flat_at fys hy2)]
    exact hno m _ hmj hy2
  · exact ⟨.int (j : Nat), H, I.tok _, ⟨_, rfl⟩, q⟩
/-! ### repr of data -/
def isRefD : PyData → Bool
  | .list _ => true
  | .tuple _ => true
  | _ => false
/-- repr(e), e data: a bool, a list, a tuple -/
def rRepr (K : PySem.W.Frag) : List V → Hp → VK → Prop := fun xs H Q => ∃ (x : V) (d : PyData), xs = [x] ∧ Dp K H x d ∧ ((∃ b, d = .bool b) ∨ (isRefD d = true ∧ d.showable = true ∧ d.hasDict = false ∧ d.depth ≤ 60 ∧ d.shown.length ≤ sizeLine)) ∧ Q (.str d.shown) H
theorem call_repr (hg : X.A.guards = some []) (hu : X.A.units + 64 < cLine) : CallR X (.builtin "repr") (rRepr X.K) := by
  intro pins s σ H xs us Q I r h
  obtain ⟨x, d, rfl, hd, hc, q⟩ := h
  obtain ⟨u, rfl, rx⟩ := vals1 r
  rcases hc with ⟨b, rfl⟩ | ⟨h1, h2, h3, h4, h5⟩
  · cases hd
    cases rx
    refine PySem.P.repr_of_bool ?_
    refine ⟨.str (PyData.shown (.bool b)), H, I.tok _, ⟨s.toks, ?_⟩, q⟩
    simp only [PyData.shown]
  · obtain ⟨as, rd⟩ := Dp.reads I d x u hd rx
    obtain ⟨a, rfl⟩ : ∃ a, u = .ref a := by
      cases hd with
      | lst _ _ => exact ⟨_, rx⟩
      | tup _ _ => exact ⟨_, rx⟩
      | non => cases h1
      | bl _ => cases h1
      | int _ => cases h1
      | str _ => cases h1
    exact repr_of_reads' rd h2 (PyData.noDict_hsm h3) hg (by omega) (fun _ _ e => e) (fun h' u tk hk => ⟨.str d.shown, H, I.kept (t' := tk) hk, ⟨u, rfl⟩, q⟩) h5
/-! ### sorted(xs), xs a list of tuples of whole numbers, none empty -/
/-- such a tuple -/
def IntT (K : PySem.W.Frag) (H : Hp) (x : V) : Prop := ∃ (a : Addr) (n : Int) (ns : List Int), x = .ref a ∧ H a = some (.tup ((n :: ns).map V.int))
def rSortT (K : PySem.W.Frag) : List V → Hp → VK → Prop := fun vs H Q => ∃ (a : Addr) (xs : List V), vs = [V.ref a] ∧ SqL K H a xs ∧ (∀ x ∈ xs, IntT K H x) ∧ ∀ (ys : List V) (p : Addr), ys.Perm xs → H p = none → Q (.ref p) (upd H p (.lst ys))
theorem tupItems_ints : ∀ (i : Nat) {us : List Value} {ns : List Int}, IntsAre us ns → tupItems (fun _ => false) i us = some (ns.map Sum.inl)
  | _, _, _, .nil => rfl
  | i, _, _, .cons n t h => by
    show (if (fun _ : Nat => false) i = true then none else (tupItems (fun _ => false) (i + 1) _).map (Sum.inl n :: ·)) = _
    rw [if_neg Bool.false_ne_true, tupItems_ints (i + 1) h] <;> rfl
end
end K11

set_option Elab.async false
set_option linter.all false
set_option maxRecDepth 100000
set_option maxHeartbeats 4000000
/-! Dicts with keys of both kinds, tuples and texts: found, read, stored, asked. Printed by gen_mix.py. -/
namespace K11
open PySem PySem.Spec PyProof.Rows L2
open Sem (wp)
/-- an entry: the key as data, the key, the value -/
abbrev MixE := NestedKey × Value × Value
def mixEnt (w : World) (x : MixE) : DictEntry := ⟨x.1.hash w, x.2.1, x.2.2⟩
/-- a key that may stand in such a dict -/
structure MixKey (h : Heap) (k : NestedKey) (u : Value) : Prop where
  is : NestedIs h k u
  dp : k.depth ≤ 8
  sh : (∃ a, u = .ref a) ∨ ∃ x t, u = .str x t
def MixOf (w : World) (h : Heap) (d : Addr) (xs : List MixE) : Prop :=
  ∃ o es ep, h.get? d = some o ∧ o.ExactDict ∧ o.data = .dict es ep ∧ es.toList = xs.map (mixEnt w) ∧ (∀ x ∈ xs, MixKey h x.1 x.2.1) ∧ (xs.map (·.1)).Nodup
def mixGet (xs : List MixE) (k : NestedKey) : Option Value := (xs.find? fun x => decide (x.1 = k)).map fun x => x.2.2
theorem mix_uniq {xs : List MixE} (hn : (xs.map (·.1)).Nodup) {i j : Nat} {k : NestedKey} {p q : Value × Value} (hi : xs[i]? = some (k, p)) (hj : xs[j]? = some (k, q)) : i = j := by
  have hi' : (xs.map (·.1))[i]? = some k := by rw [List.getElem?_map, hi] <;> rfl
  have hj' : (xs.map (·.1))[j]? = some k := by rw [List.getElem?_map, hj] <;> rfl
  exact (List.getElem?_inj (List.getElem?_eq_some_iff.mp hi').1 hn).mp (hi'.trans hj'.symm)
theorem mixGet_some {xs : List MixE} (hn : (xs.map (·.1)).Nodup) {i : Nat} {k : NestedKey} {p : Value × Value} (hx : xs[i]? = some (k, p)) : mixGet xs k = some p.2 := by
  unfold mixGet
  have hm : (k, p) ∈ xs := List.mem_of_getElem? hx
  cases hf : xs.find? fun x => decide (x.1 = k) with
  | none =>
    have z := List.find?_eq_none.mp hf _ hm
    simp at z
  | some y =>
    have hy : y.1 = k := of_decide_eq_true (p := y.1 = k) (by simpa using List.find?_some hf)
    obtain ⟨j, hj⟩ := List.mem_iff_getElem?.mp (List.mem_of_find?_eq_some hf)
    obtain ⟨y1, y2⟩ := y
    have hy : y1 = k := hy
    subst hy
    have e := mix_uniq hn hx hj
    subst e
    rw [hx] at hj
    cases hj
    rfl
theorem mixGet_none {xs : List MixE} {k : NestedKey} (h : ∀ (j : Nat) (p : Value × Value), xs[j]? ≠ some (k, p)) : mixGet xs k = none := by
  unfold mixGet
  have z : (xs.find? fun x => decide (x.1 = k)) = none := by
    rw [List.find?_eq_none]
    intro x hx hk
    obtain ⟨j, hj⟩ := List.mem_iff_getElem?.mp hx
    obtain ⟨x1, x2⟩ := x
    have hk' : x1 = k := of_decide_eq_true hk
    subst hk'
    exact h j x2 hj
  rw [z] <;> rfl
theorem mix_not_mem {xs : List MixE} {k : NestedKey} (h : ∀ (j : Nat) (p : Value × Value), xs[j]? ≠ some (k, p)) : k ∉ xs.map (·.1) := by
  intro hm
  obtain ⟨x, hx, rfl⟩ := List.mem_map.mp hm
  obtain ⟨j, hj⟩ := List.mem_iff_getElem?.mp hx
  exact h j x.2 hj
theorem mix_at {w : World} {es : Array DictEntry} {xs : List MixE} (he : es.toList = xs.map (mixEnt w)) (j : Nat) : es[j]? = (xs[j]?).map (mixEnt w) := by
  rw [← Array.getElem?_toList, he, List.getElem?_map]
theorem mix_size {w : World} {es : Array DictEntry} {xs : List MixE} (he : es.toList = xs.map (mixEnt w)) : es.size = xs.length := by
  rw [← Array.length_toList, he, List.length_map]
section
variable {prog : Program} {w : World} {A : Around} {E : Value → Shared → Prop} {s : Shared}
theorem mix_tells {k : NestedKey} {u : Value} {stored : List Value} {Q : Bool → Shared → Prop} (hkey : MixKey s.heap k u) (hst : ∀ v ∈ stored, ∃ k', MixKey s.heap k' v) (h : Q false s) : wpAny (model prog w) A (tableMayTell u stored) Q E s := by
  unfold tableMayTell
  split
  · exact wpAny_pure h
  · refine wpAny_bind (quiet_key k u 8 s hkey.is hkey.dp _ _ _ ?_)
    simp only [Bool.not_true, Bool.false_eq_true, if_false]
    refine wpAny_bind ?_
    refine wpAny_forIn_list _ (fun rest r s' => s' = s ∧ r = (none, ()) ∧ ∀ v ∈ rest, ∃ k', MixKey s.heap k' v) _ ?_ ?_ _ _ ⟨rfl, rfl, hst⟩
    · rintro x rest r s' ⟨rfl, rfl, hr⟩
      obtain ⟨k', hb⟩ := hr x List.mem_cons_self
      refine wpAny_bind (quiet_key k' x 8 _ hb.is hb.dp _ _ _ ?_)
      simp only [Bool.not_true, Bool.false_eq_true, if_false]
      exact wpAny_pure ⟨rfl, rfl, fun v hv => hr v (List.mem_cons_of_mem _ hv)⟩
    · rintro r s' ⟨rfl, rfl, _⟩
      exact wpAny_pure h
theorem mix_eq {x y : NestedKey} {u v : Value} {Q : Bool → Shared → Prop} (hu : A.units + 8 < cLine) (hx : MixKey s.heap x u) (hy : MixKey s.heap y v) (h : Q (decide (x = y)) s) : wpAny (model prog w) A (eqBool u v) Q E s :=
  eqAt_key x y A s _ _ hx.is hy.is (by have := hx.dp; omega) _ _ _ _ (by rw [← NestedKey.decide_eq]; exact h)
theorem mix_find_ref {d : Addr} {a : Addr} {o : Obj} {es : Array DictEntry} {ep : Nat} {xs : List MixE} {k : NestedKey} {Q : Option Nat → Shared → Prop} (hu : A.units + 8 < cLine) (hkey : MixKey s.heap k (.ref a))
    (ho : s.heap.get? d = some o) (hd : o.data = .dict es ep) (he : es.toList = xs.map (mixEnt w)) (his : ∀ x ∈ xs, MixKey s.heap x.1 x.2.1) (hn : (xs.map (·.1)).Nodup)
    (hnone : (∀ (j : Nat) (p : Value × Value), xs[j]? ≠ some (k, p)) → Q none s) (hsome : ∀ (j : Nat) (p : Value × Value), xs[j]? = some (k, p) → Q (some j) s) :
    wpAny (model prog w) A (dictFind d (.ref a) (k.hash w)) Q E s := by
  have hsz : es.size = xs.length := mix_size he
  have haskey : ∀ (j : Nat) (p : Value × Value), xs[j]? = some (k, p) → ((es[j]?.map (·.hash)) == some (k.hash w)) = true := by
    intro j p hj
    rw [mix_at he j, hj]
    simp [mixEnt]
  have hmem : ∀ e ∈ es, ∃ x ∈ xs, e = mixEnt w x := by
    intro e hin
    have : e ∈ xs.map (mixEnt w) := he ▸ Array.mem_toList_iff.mpr hin
    obtain ⟨x, hx, rfl⟩ := List.mem_map.mp this
    exact ⟨x, hx, rfl⟩
  have hst : ∀ v ∈ (placesWithHash es.size (fun i => es[i]?.map (·.hash)) (k.hash w)).filterMap (fun i => es[i]?.map (·.key)), ∃ k', MixKey s.heap k' v := by
    intro v hv
    obtain ⟨i, _, hi⟩ := List.mem_filterMap.mp hv
    cases hei : es[i]? with
    | none =>
      rw [hei] at hi
      cases hi
    | some e =>
      rw [hei] at hi
      obtain rfl : e.key = v := by simpa using hi
      obtain ⟨x, hx, rfl⟩ := hmem e (Array.mem_of_getElem? hei)
      exact ⟨x.1, his x hx⟩
  have hany : ¬ (es.any fun e => e.key == Value.ref a && e.hash != k.hash w) = true := by
    rw [← Array.any_toList, List.any_eq_true]
    rintro ⟨e, hin, hc⟩
    obtain ⟨x, hx, rfl⟩ := hmem e (Array.mem_toList_iff.mp hin)
    simp only [mixEnt, Bool.and_eq_true, beq_iff_eq, bne_iff_ne, ne_eq] at hc
    obtain ⟨hxa, hne⟩ := hc
    have z := (his x hx).is
    rw [hxa] at z
    exact hne (by rw [NestedIs.inj _ _ _ z hkey.is])
  unfold dictFind
  try with_reducible refine wpAny_holding ?_
  refine wpAny_bind (wpAny_dictEntries ho hd ?_)
  dsimp only
  rw [if_neg (show ¬ ((Value.ref a :: (placesWithHash es.size (fun i => es[i]?.map (·.hash)) (k.hash w)).filterMap (fun i => es[i]?.map (·.key))).all carriedByValue) = true by simp [carriedByValue])]
  rw [if_neg hany]
  by_cases hone : (((placesWithHash es.size (fun i => es[i]?.map (·.hash)) (k.hash w)).filterMap (fun i => es[i]?.map (·.key))) == [Value.ref a]) = true <;>
  (first | rw [if_pos hone] | rw [if_neg hone]) <;> (first | refine wpAny_bind (wpAny_pure ?_) | refine wpAny_bind (mix_tells hkey hst ?_)) <;> (
    rw [if_neg (by simp)]
    refine wpAny_bind ?_
    refine wpAny_forIn_list _
      (fun rest b s' => s' = s ∧ ∃ i hit, b = (none, hit) ∧ rest = (List.range' i (es.size - i)).filter (fun i => (es[i]?.map (·.hash)) == some (k.hash w)) ∧ i ≤ es.size ∧
        ((hit = none ∧ ∀ j p, j < i → xs[j]? ≠ some (k, p)) ∨ ∃ j p, hit = some j ∧ j < i ∧ xs[j]? = some (k, p))) _ ?_ ?_ _ _
      ⟨rfl, 0, none, rfl, by rw [placesWithHash, List.range_eq_range', Nat.sub_zero], Nat.zero_le _, .inl ⟨rfl, fun _ _ h => absurd h (Nat.not_lt_zero _)⟩⟩
    · rintro x rest b s' ⟨rfl, i, hit, rfl, hr, hi, hH⟩
      obtain ⟨hix, hxn, hpx, hskip, hrest⟩ := filter_range'_cons _ _ _ _ _ hr.symm
      have hlt : x < es.size := by omega
      have hrest' : rest = (List.range' (x + 1) (es.size - (x + 1))).filter (fun i => (es[i]?.map (·.hash)) == some (k.hash w)) := by
        rw [hrest]
        congr 2
        omega
      obtain ⟨⟨k', b, v'⟩, hkv⟩ : ∃ y, xs[x]? = some y := ⟨xs[x]'(by rw [← hsz]; exact hlt), List.getElem?_eq_getElem _⟩
      have hib : MixKey s'.heap k' b := his _ (List.mem_of_getElem? hkv)
      have hex : es[x]? = some ⟨k'.hash w, b, v'⟩ := by rw [mix_at he x, hkv] <;> rfl
      have hHx : (hit = none ∧ ∀ j p, j < x → xs[j]? ≠ some (k, p)) ∨ ∃ j p, hit = some j ∧ j < x ∧ xs[j]? = some (k, p) := by
        rcases hH with ⟨h0, hno⟩ | ⟨j, p, h1, hji, hj⟩
        · refine .inl ⟨h0, fun j p hjx hj => ?_⟩
          rcases Nat.lt_or_ge j i with h | h
          · exact hno j p h hj
          · have z := hskip j h hjx
            rw [haskey j p hj] at z
            exact absurd z (by decide)
        · exact .inr ⟨j, p, h1, by omega, hj⟩
      have hstay : ¬ k' = k → ((hit = none ∧ ∀ j p, j < x + 1 → xs[j]? ≠ some (k, p)) ∨ ∃ j p, hit = some j ∧ j < x + 1 ∧ xs[j]? = some (k, p)) := by
        intro hne
        rcases hHx with ⟨h0, hno⟩ | ⟨j, p, h1, hjx, hj⟩
        · refine .inl ⟨h0, fun j p hjx hj => ?_⟩
          rcases Nat.lt_or_ge j x with h | h
          · exact hno j p h hj
          · have hjx' : j = x := by omega
            subst hjx'
            rw [hkv] at hj
            injection hj with hj
            injection hj with hj
            exact hne hj
        · exact .inr ⟨j, p, h1, by omega, hj⟩
      rw [hex]
      dsimp only
      by_cases hh : (k'.hash w == k.hash w) = true
      · rw [if_pos hh]
        refine wpAny_bind (wpAny_dictEpoch ho hd (wpAny_bind (mix_eq (x := k') (y := k) hu hib hkey (wpAny_bind (wpAny_dictEpoch ho hd ?_)))))
        show wpAny _ _ (if (ep != ep) = true then _ else _) _ E _
        rw [if_neg (by simp)]
        by_cases hkk : k' = k
        · rw [decide_eq_true hkk]
          subst hkk
          rcases hHx with ⟨rfl, _⟩ | ⟨j, p, _, hjx, hj⟩
          · first | rw [if_pos rfl] | skip
            simp only [Option.isSome_none, Bool.false_eq_true, if_false]
            first | refine wpAny_bind (wpAny_pure ?_) | skip
            refine wpAny_bind (wpAny_rule ?_)
            split
            · exact wpAny_pure (wpAny_pure (hsome x _ hkv))
            · exact wpAny_pure ⟨rfl, x + 1, some x, rfl, hrest', hlt, .inr ⟨x, _, rfl, Nat.lt_succ_self x, hkv⟩⟩
          · exact absurd (mix_uniq hn hj hkv) (by omega)
        · rw [decide_eq_false hkk]
          simp only [Bool.false_eq_true, if_false]
          refine wpAny_bind (wpAny_rule ?_)
          first | rw [if_neg (by simp)] | skip
          first
            | exact wpAny_pure ⟨rfl, x + 1, hit, rfl, hrest', hlt, hstay hkk⟩
            | exact wpAny_bind (wpAny_pure (wpAny_pure ⟨rfl, x + 1, hit, rfl, hrest', hlt, hstay hkk⟩))
      · rw [if_neg hh]
        refine wpAny_pure ⟨rfl, x + 1, hit, rfl, hrest', hlt, hstay ?_⟩
        intro hkk
        rw [hkk] at hh
        simp at hh
    · rintro b s' ⟨rfl, i, hit, rfl, hr, hi, hH⟩
      have hall : ∀ j, i ≤ j → j < es.size → ((es[j]?.map (·.hash)) == some (k.hash w)) = false := by
        intro j h1 h2
        have z := List.filter_eq_nil_iff.mp hr.symm j (List.mem_range'_1.mpr ⟨h1, by omega⟩)
        simpa using z
      rcases hH with ⟨rfl, hno⟩ | ⟨j, p, rfl, _, hj⟩
      · refine wpAny_pure (hnone fun j p hj => ?_)
        rcases Nat.lt_or_ge j i with h | h
        · exact hno j p h hj
        · have hjl : j < es.size := by
            rw [hsz]
            rcases Nat.lt_or_ge j xs.length with h' | h'
            · exact h'
            · rw [List.getElem?_eq_none h'] at hj
              exact nomatch hj
          have z := hall j h hjl
          rw [haskey j p hj] at z
          exact absurd z (by decide)
      · exact wpAny_pure (hsome j p hj))
theorem mix_find_str {d : Addr} {x0 : Str} {t0 : Tok} {o : Obj} {es : Array DictEntry} {ep : Nat} {xs : List MixE} {k : NestedKey} {Q : Option Nat → Shared → Prop} (hu : A.units + 8 < cLine) (hkey : MixKey s.heap k (.str x0 t0))
    (ho : s.heap.get? d = some o) (hd : o.data = .dict es ep) (he : es.toList = xs.map (mixEnt w)) (his : ∀ x ∈ xs, MixKey s.heap x.1 x.2.1) (hn : (xs.map (·.1)).Nodup)
    (hnone : (∀ (j : Nat) (p : Value × Value), xs[j]? ≠ some (k, p)) → Q none s) (hsome : ∀ (j : Nat) (p : Value × Value), xs[j]? = some (k, p) → Q (some j) s) :
    wpAny (model prog w) A (dictFind d (.str x0 t0) (k.hash w)) Q E s := by
  have hsz : es.size = xs.length := mix_size he
  have haskey : ∀ (j : Nat) (p : Value × Value), xs[j]? = some (k, p) → ((es[j]?.map (·.hash)) == some (k.hash w)) = true := by
    intro j p hj
    rw [mix_at he j, hj]
    simp [mixEnt]
  have hmem : ∀ e ∈ es, ∃ x ∈ xs, e = mixEnt w x := by
    intro e hin
    have : e ∈ xs.map (mixEnt w) := he ▸ Array.mem_toList_iff.mpr hin
    obtain ⟨x, hx, rfl⟩ := List.mem_map.mp this
    exact ⟨x, hx, rfl⟩
  have hst : ∀ v ∈ (placesWithHash es.size (fun i => es[i]?.map (·.hash)) (k.hash w)).filterMap (fun i => es[i]?.map (·.key)), ∃ k', MixKey s.heap k' v := by
    intro v hv
    obtain ⟨i, _, hi⟩ := List.mem_filterMap.mp hv
    cases hei : es[i]? with
    | none =>
      rw [hei] at hi
      cases hi
    | some e =>
      rw [hei] at hi
      obtain rfl : e.key = v := by simpa using hi
      obtain ⟨x, hx, rfl⟩ := hmem e (Array.mem_of_getElem? hei)
      exact ⟨x.1, his x hx⟩
  have nokey : ∀ (j : Nat) (p : Value × Value), xs[j]? = some (k, p) → ((es[j]?.map (·.hash)) == some (k.hash w)) = false → False := fun j p hj z => by
    rw [haskey j p hj] at z
    cases z
  have walk : wpAny (model prog w) A (dictWalkPlain d (.str x0 t0) (k.hash w) es (placesWithHash es.size (fun i => es[i]?.map (·.hash)) (k.hash w))) Q E s := by
    unfold dictWalkPlain
    refine wpAny_bind ?_
    refine wpAny_forIn_list _
      (fun rest b s' => s' = s ∧ b = (none, ()) ∧ ∃ i, rest = (List.range' i (es.size - i)).filter (fun i => (es[i]?.map (·.hash)) == some (k.hash w)) ∧ i ≤ es.size ∧ ∀ (j : Nat) (p : Value × Value), j < i → xs[j]? ≠ some (k, p)) _ ?_ ?_ _ _
      ⟨rfl, rfl, 0, by rw [placesWithHash, List.range_eq_range', Nat.sub_zero], Nat.zero_le _, fun _ _ h => absurd h (Nat.not_lt_zero _)⟩
    · rintro x rest b s' ⟨rfl, rfl, i, hr, hi, hno⟩
      obtain ⟨hix, hxn, hpx, hskip, hrest⟩ := filter_range'_cons _ _ _ _ _ hr.symm
      have hlt : x < es.size := by omega
      have hrest' : rest = (List.range' (x + 1) (es.size - (x + 1))).filter (fun i => (es[i]?.map (·.hash)) == some (k.hash w)) := by
        rw [hrest]
        congr 2
        omega
      obtain ⟨⟨k', b, v'⟩, hkv⟩ : ∃ y, xs[x]? = some y := ⟨xs[x]'(by rw [← hsz]; exact hlt), List.getElem?_eq_getElem _⟩
      have hib : MixKey s'.heap k' b := his _ (List.mem_of_getElem? hkv)
      have hex : es[x]? = some ⟨k'.hash w, b, v'⟩ := by rw [mix_at he x, hkv] <;> rfl
      have hstay : ¬ k' = k → ∀ (j : Nat) (p : Value × Value), j < x + 1 → xs[j]? ≠ some (k, p) := fun hne j p hjx hj => by
        rcases Nat.lt_or_ge j i with h | h
        · exact hno j p h hj
        · rcases Nat.lt_or_ge j x with h' | h'
          · exact nokey j p hj (hskip j h h')
          · have hjx' : j = x := by omega
            subst hjx'
            rw [hkv] at hj
            injection hj with hj
            injection hj with hj
            exact hne hj
      rw [hex]
      dsimp only
      by_cases hh : (k'.hash w == k.hash w) = true
      · rw [if_pos hh]
        refine wpAny_bind (wpAny_dictEpoch ho hd (wpAny_bind (mix_eq (x := k') (y := k) hu hib hkey (wpAny_bind (wpAny_dictEpoch ho hd ?_)))))
        show wpAny _ _ (if (ep != ep) = true then _ else _) _ E _
        rw [if_neg (by simp)]
        by_cases hkk : k' = k
        · rw [decide_eq_true hkk]
          subst hkk
          exact wpAny_bind (wpAny_rule (wpAny_pure (wpAny_pure (hsome x _ hkv))))
        · rw [decide_eq_false hkk]
          exact wpAny_bind (wpAny_rule (wpAny_pure ⟨rfl, rfl, x + 1, hrest', hlt, hstay hkk⟩))
      · rw [if_neg hh]
        refine wpAny_pure ⟨rfl, rfl, x + 1, hrest', hlt, hstay ?_⟩
        intro hkk
        rw [hkk] at hh
        simp at hh
    · rintro b s' ⟨rfl, rfl, i, hr, hi, hno⟩
      have hall : ∀ j, i ≤ j → j < es.size → ((es[j]?.map (·.hash)) == some (k.hash w)) = false := by
        intro j h1 h2
        have z := List.filter_eq_nil_iff.mp hr.symm j (List.mem_range'_1.mpr ⟨h1, by omega⟩)
        simpa using z
      refine wpAny_pure (hnone fun j p hj => ?_)
      rcases Nat.lt_or_ge j i with h | h
      · exact hno j p h hj
      · have hjl : j < es.size := by
          rw [hsz]
          rcases Nat.lt_or_ge j xs.length with h' | h'
          · exact h'
          · rw [List.getElem?_eq_none h'] at hj
            exact nomatch hj
        exact nokey j p hj (hall j h hjl)
  by_cases hstrs : (es.all fun e => isExactStrKey e.key) = true
  · refine PyProof.Rows.KTD.kt_dictFind_strs ho hd hstrs ?_
    have hk : k = .text x0 := by
      have z := hkey.is
      cases z
      rfl
    have hkeyAt : ∀ (j : Nat) (hj : j < es.size), es[j].key.isStr x0 = true → ∃ p : Value × Value, xs[j]? = some (k, p) := fun j hj z => by
      obtain ⟨⟨k', b, v'⟩, hkv⟩ : ∃ y, xs[j]? = some y := ⟨xs[j]'(by rw [← hsz]; exact hj), List.getElem?_eq_getElem _⟩
      have hex : es[j]? = some ⟨k'.hash w, b, v'⟩ := by rw [mix_at he j, hkv] <;> rfl
      rw [Array.getElem?_eq_getElem hj] at hex
      have hex := Option.some.inj hex
      rw [hex] at z
      obtain ⟨t', hb⟩ := PyProof.Rows.KTD.kt_isStr z
      have hb : b = .str x0 t' := hb
      have hi := (his _ (List.mem_of_getElem? hkv)).is
      have hi : NestedIs s.heap k' b := hi
      rw [hb] at hi
      have hk' : k' = .text x0 := by
        cases hi
        rfl
      exact ⟨(b, v'), by rw [hkv, hk', hk]⟩
    cases hf : es.findIdx? (fun e => e.key.isStr x0) with
    | none =>
      refine hnone fun j p hj => ?_
      have hjl : j < es.size := by
        rw [hsz]
        rcases Nat.lt_or_ge j xs.length with h' | h'
        · exact h'
        · rw [List.getElem?_eq_none h'] at hj
          exact nomatch hj
      have hex : es[j]? = some (mixEnt w (k, p)) := by rw [mix_at he j, hj] <;> rfl
      have hm : mixEnt w (k, p) ∈ es := Array.mem_of_getElem? hex
      have z := Array.findIdx?_eq_none_iff.mp hf _ hm
      have hi := (his _ (List.mem_of_getElem? hj)).is
      have hi : NestedIs s.heap k p.1 := hi
      rw [hk] at hi
      have hp : ∃ t, p.1 = .str x0 t := by
        generalize p.1 = q at hi
        cases hi
        exact ⟨_, rfl⟩
      obtain ⟨t, hp⟩ := hp
      have z : p.1.isStr x0 = false := z
      rw [hp] at z
      simp [Value.isStr] at z
    | some i =>
      obtain ⟨hlt, hi, _⟩ := Array.findIdx?_eq_some_iff_getElem.mp hf
      obtain ⟨p, hp⟩ := hkeyAt i hlt hi
      exact hsome i p hp
  unfold dictFind
  try with_reducible refine wpAny_holding ?_
  refine wpAny_bind (wpAny_dictEntries ho hd ?_)
  dsimp only
  rw [if_neg hstrs]
  by_cases hall : ((Value.str x0 t0 :: (placesWithHash es.size (fun i => es[i]?.map (·.hash)) (k.hash w)).filterMap (fun i => es[i]?.map (·.key))).all carriedByValue) = true
  · rw [if_pos hall]
    exact walk
  · rw [if_neg hall]
    by_cases hone : (((placesWithHash es.size (fun i => es[i]?.map (·.hash)) (k.hash w)).filterMap (fun i => es[i]?.map (·.key))) == [Value.str x0 t0]) = true <;>
    (first | rw [if_pos hone] | rw [if_neg hone]) <;> (first | refine wpAny_bind (wpAny_pure ?_) | refine wpAny_bind (mix_tells hkey hst ?_)) <;> (
      rw [if_neg (by simp)]
      refine wpAny_bind ?_
      refine wpAny_forIn_list _
        (fun rest b s' => s' = s ∧ ∃ i hit, b = (none, hit) ∧ rest = (List.range' i (es.size - i)).filter (fun i => (es[i]?.map (·.hash)) == some (k.hash w)) ∧ i ≤ es.size ∧
          ((hit = none ∧ ∀ j p, j < i → xs[j]? ≠ some (k, p)) ∨ ∃ j p, hit = some j ∧ j < i ∧ xs[j]? = some (k, p))) _ ?_ ?_ _ _
        ⟨rfl, 0, none, rfl, by rw [placesWithHash, List.range_eq_range', Nat.sub_zero], Nat.zero_le _, .inl ⟨rfl, fun _ _ h => absurd h (Nat.not_lt_zero _)⟩⟩
      · rintro x rest b s' ⟨rfl, i, hit, rfl, hr, hi, hH⟩
        obtain ⟨hix, hxn, hpx, hskip, hrest⟩ := filter_range'_cons _ _ _ _ _ hr.symm
        have hlt : x < es.size := by omega
        have hrest' : rest = (List.range' (x + 1) (es.size - (x + 1))).filter (fun i => (es[i]?.map (·.hash)) == some (k.hash w)) := by
          rw [hrest]
          congr 2
          omega
        obtain ⟨⟨k', b, v'⟩, hkv⟩ : ∃ y, xs[x]? = some y := ⟨xs[x]'(by rw [← hsz]; exact hlt), List.getElem?_eq_getElem _⟩
        have hib : MixKey s'.heap k' b := his _ (List.mem_of_getElem? hkv)
        have hex : es[x]? = some ⟨k'.hash w, b, v'⟩ := by rw [mix_at he x, hkv] <;> rfl
        have hHx : (hit = none ∧ ∀ j p, j < x → xs[j]? ≠ some (k, p)) ∨ ∃ j p, hit = some j ∧ j < x ∧ xs[j]? = some (k, p) := by
          rcases hH with ⟨h0, hno⟩ | ⟨j, p, h1, hji, hj⟩
          · refine .inl ⟨h0, fun j p hjx hj => ?_⟩
            rcases Nat.lt_or_ge j i with h | h
            · exact hno j p h hj
            · have z := hskip j h hjx
              rw [haskey j p hj] at z
              exact absurd z (by decide)
          · exact .inr ⟨j, p, h1, by omega, hj⟩
        have hstay : ¬ k' = k → ((hit = none ∧ ∀ j p, j < x + 1 → xs[j]? ≠ some (k, p)) ∨ ∃ j p, hit = some j ∧ j < x + 1 ∧ xs[j]? = some (k, p)) := by
          intro hne
          rcases hHx with ⟨h0, hno⟩ | ⟨j, p, h1, hjx, hj⟩
          · refine .inl ⟨h0, fun j p hjx hj => ?_⟩
            rcases Nat.lt_or_ge j x with h | h
            · exact hno j p h hj
            · have hjx' : j = x := by omega
              subst hjx'
              rw [hkv] at hj
              injection hj with hj
              injection hj with hj
              exact hne hj
          · exact .inr ⟨j, p, h1, by omega, hj⟩
        rw [hex]
        dsimp only
        by_cases hh : (k'.hash w == k.hash w) = true
        · rw [if_pos hh]
          refine wpAny_bind (wpAny_dictEpoch ho hd (wpAny_bind (mix_eq (x := k') (y := k) hu hib hkey (wpAny_bind (wpAny_dictEpoch ho hd ?_)))))
          show wpAny _ _ (if (ep != ep) = true then _ else _) _ E _
          rw [if_neg (by simp)]
          by_cases hkk : k' = k
          · rw [decide_eq_true hkk]
            subst hkk
            rcases hHx with ⟨rfl, _⟩ | ⟨j, p, _, hjx, hj⟩
            · first | rw [if_pos rfl] | skip
              simp only [Option.isSome_none, Bool.false_eq_true, if_false]
              first | refine wpAny_bind (wpAny_pure ?_) | skip
              refine wpAny_bind (wpAny_rule ?_)
              split
              · exact wpAny_pure (wpAny_pure (hsome x _ hkv))
              · exact wpAny_pure ⟨rfl, x + 1, some x, rfl, hrest', hlt, .inr ⟨x, _, rfl, Nat.lt_succ_self x, hkv⟩⟩
            · exact absurd (mix_uniq hn hj hkv) (by omega)
          · rw [decide_eq_false hkk]
            simp only [Bool.false_eq_true, if_false]
            refine wpAny_bind (wpAny_rule ?_)
            first | rw [if_neg (by simp)] | skip
            first
              | exact wpAny_pure ⟨rfl, x + 1, hit, rfl, hrest', hlt, hstay hkk⟩
              | exact wpAny_bind (wpAny_pure (wpAny_pure ⟨rfl, x + 1, hit, rfl, hrest', hlt, hstay hkk⟩))
        · rw [if_neg hh]
          refine wpAny_pure ⟨rfl, x + 1, hit, rfl, hrest', hlt, hstay ?_⟩
          intro hkk
          rw [hkk] at hh
          simp at hh
      · rintro b s' ⟨rfl, i, hit, rfl, hr, hi, hH⟩
        have hall : ∀ j, i ≤ j → j < es.size → ((es[j]?.map (·.hash)) == some (k.hash w)) = false := by
          intro j h1 h2
          have z := List.filter_eq_nil_iff.mp hr.symm j (List.mem_range'_1.mpr ⟨h1, by omega⟩)
          simpa using z
        rcases hH with ⟨rfl, hno⟩ | ⟨j, p, rfl, _, hj⟩
        · refine wpAny_pure (hnone fun j p hj => ?_)
          rcases Nat.lt_or_ge j i with h | h
          · exact hno j p h hj
          · have hjl : j < es.size := by
              rw [hsz]
              rcases Nat.lt_or_ge j xs.length with h' | h'
              · exact h'
              · rw [List.getElem?_eq_none h'] at hj
                exact nomatch hj
            have z := hall j h hjl
            rw [haskey j p hj] at z
            exact absurd z (by decide)
        · exact wpAny_pure (hsome j p hj))
theorem mix_find {d : Addr} {u : Value} {o : Obj} {es : Array DictEntry} {ep : Nat} {xs : List MixE} {k : NestedKey} {Q : Option Nat → Shared → Prop} (hu : A.units + 8 < cLine) (hkey : MixKey s.heap k u)
    (ho : s.heap.get? d = some o) (hd : o.data = .dict es ep) (he : es.toList = xs.map (mixEnt w)) (his : ∀ x ∈ xs, MixKey s.heap x.1 x.2.1) (hn : (xs.map (·.1)).Nodup)
    (hnone : (∀ (j : Nat) (p : Value × Value), xs[j]? ≠ some (k, p)) → Q none s) (hsome : ∀ (j : Nat) (p : Value × Value), xs[j]? = some (k, p) → Q (some j) s) :
    wpAny (model prog w) A (dictFind d u (k.hash w)) Q E s := by
  rcases hkey.sh with ⟨a, rfl⟩ | ⟨x, t, rfl⟩
  · exact mix_find_ref hu hkey ho hd he his hn hnone hsome
  · exact mix_find_str hu hkey ho hd he his hn hnone hsome
theorem MixKey.toks {h : Heap} {k : NestedKey} {u : Value} (x : MixKey h k u) : MixKey h k u := x
theorem mix_get {d : Addr} {u : Value} {xs : List MixE} {k : NestedKey} {Q : Option Value → Shared → Prop} (hu : A.units + 8 < cLine) (hkey : MixKey s.heap k u) (hm : MixOf w s.heap d xs)
    (h : Q (mixGet xs k) { s with toks := s.toks + k.draws }) : wpAny (model prog w) A (dictGet d u) Q E s := by
  obtain ⟨o, es, ep, ho, _, hd, he, his, hn⟩ := hm
  unfold dictGet
  try with_reducible refine wpAny_holding ?_
  refine wpAny_bind (pyHash_key _ _ _ _ _ hkey.is (by have := hkey.dp; omega) (wpAny_bind (mix_find (s := { s with toks := s.toks + k.draws }) hu hkey ho hd he his hn ?_ ?_)))
  · intro hno
    rw [mixGet_none hno] at h
    exact wpAny_pure h
  · intro j p hj
    rw [mixGet_some hn hj] at h
    refine wpAny_bind (wpAny_dictEntries (s := { s with toks := s.toks + k.draws }) ho hd ?_)
    rw [mix_at he j, hj]
    exact wpAny_pure h
theorem MixKey.keeps {h h' : Heap} {d : Addr} {o : Obj} {es : Array DictEntry} {ep : Nat} {k : NestedKey} {u : Value} (x : MixKey h k u) (ho : h.get? d = some o) (hd : o.data = .dict es ep) (hs : Heap.SameBut d h h') : MixKey h' k u :=
  ⟨NestedIs.at (fun b ob vs n hb hc => by
    refine (hs.2 b fun e => ?_).trans hb
    subst e
    rw [ho] at hb
    cases hb
    rw [hd] at hc
    cases hc) k _ x.is, x.dp, x.sh⟩
/-- d[k] = v, k not there -/
theorem mix_set {d : Addr} {u v : Value} {xs : List MixE} {k : NestedKey} {Q : Unit → Shared → Prop} (hu : A.units + 8 < cLine) (hkey : MixKey s.heap k u) (hm : MixOf w s.heap d xs) (hno : k ∉ xs.map (·.1)) (hsz : xs.length ≤ sizeLine)
    (hQ : ∀ h', MixOf w h' d (xs ++ [(k, u, v)]) → Heap.SameBut d s.heap h' → Q () { s with heap := h', toks := s.toks + k.draws }) : wpAny (model prog w) A (dictSet d u v) Q E s := by
  obtain ⟨o, es, ep, ho, hc, hd, he, his, hn⟩ := hm
  unfold dictSet
  try with_reducible refine wpAny_holding ?_
  refine wpAny_bind (pyHash_key _ _ _ _ _ hkey.is (by have := hkey.dp; omega) ?_)
  unfold dictSetHashed
  try with_reducible refine wpAny_holding ?_
  refine wpAny_bind (mix_find (s := { s with toks := s.toks + k.draws }) hu hkey ho hd he his hn ?_ ?_)
  · intro _
    refine wpAny_bind (wpAny_rule (wpAny_updateDictKeys (hz := by have e := mix_size he; omega) (s := { s with toks := s.toks + k.draws }) ho hd (hQ _ ⟨_, _, ep + 1, Heap.get?_update_self _ ho (Obj.isFreed_of_dict (Obj.data_mapDictKeys hd _)),
      hc.mapDictKeys _, Obj.data_mapDictKeys hd _, ?_, ?_, ?_⟩ (Heap.SameBut.update ..))))
    · simp [he, mixEnt]
    · intro x hx
      rcases List.mem_append.mp hx with hx | hx
      · exact (his x hx).keeps ho hd (Heap.SameBut.update ..)
      · simp only [List.mem_singleton] at hx
        subst hx
        exact hkey.keeps ho hd (Heap.SameBut.update ..)
    · rw [List.map_append, List.nodup_append]
      refine ⟨hn, by simp, ?_⟩
      intro x hx y hy
      simp only [List.map_cons, List.map_nil, List.mem_singleton] at hy
      subst hy
      exact fun e => hno (e ▸ hx)
  · intro j p hj
    exact absurd (List.mem_map.mpr ⟨(k, p), List.mem_of_getElem? hj, rfl⟩) hno
theorem MixOf.typeIs {d : Addr} {xs : List MixE} (hm : MixOf w s.heap d xs) : s.TypeIs (.ref d) "dict" := let ⟨o, _, _, ho, hc, _⟩ := hm
  ⟨o, ho, hc.1⟩
theorem mix_notIn {d : Addr} {u : Value} {xs : List MixE} {k : NestedKey} {Q : Value → Shared → Prop} (hu : A.units + 9 < cLine) (hkey : MixKey s.heap k u) (hd : (d == sysModules) = false) (hm : MixOf w s.heap d xs)
    (h : Q (.bool (!(mixGet xs k).isSome)) { s with toks := s.toks + k.draws }) : wpAny (model prog w) A (compareOp .NotIn u (.ref d)) Q E s := by
  have hu1 : A.in1.units + 8 < cLine := by
    show A.units + 1 + 8 < cLine
    omega
  show wpAny _ _ (do return .bool (!(← contains (.ref d) u))) Q E s
  refine wpAny_bind ?_
  unfold contains
  try with_reducible refine wpAny_holding ?_
  refine wpAny_bind (wpAny_specialOf hm.typeIs slot_dict_contains.lookup ?_)
  show wpAny _ _ (if (some (Value.builtin "dict.__contains__") == some Value.none) = true then _ else _) _ E s
  rw [if_neg (by rw [beq_builtin_none]; exact Bool.false_ne_true)]
  refine wpAny_bind (wpAny_callSpecialUnlessNone?_slot (name := Str.ofString "__contains__") hm.typeIs slot_dict_contains
    (wpAny_call_entry slot_dict_contains hm.typeIs entry_dict_contains ?_ (args_dict_contains _ _)))
  show wpAny _ _ (dictGet d u >>= _) _ _ s
  refine wpAny_bind (mix_get hu1 hkey hm ?_)
  cases hf : mixGet xs k with
  | some p =>
    rw [hf] at h
    show wpAny _ _ (ret (.bool true)) _ _ _
    exact wpAny_pure ⟨_, rfl, wpAny_truthy_bool (wpAny_pure h)⟩
  | none =>
    rw [hf] at h
    show wpAny _ _ (Builtin.Dict.pendingKey? d u >>= _) _ _ _
    exact wpAny_bind (wpAny_pendingKey_other hd (wpAny_pure ⟨_, rfl, wpAny_truthy_bool (wpAny_pure h)⟩))
theorem mix_getItem {d : Addr} {u p : Value} {xs : List MixE} {k : NestedKey} {Q : Value → Shared → Prop} (hu : A.units + 9 < cLine) (hkey : MixKey s.heap k u) (hm : MixOf w s.heap d xs) (hp : mixGet xs k = some p)
    (h : Q p { s with toks := s.toks + k.draws }) : wpAny (model prog w) A (getItem (.ref d) u) Q E s := by
  have hu1 : A.in1.units + 8 < cLine := by
    show A.units + 1 + 8 < cLine
    omega
  unfold getItem
  try with_reducible refine wpAny_holding ?_
  refine wpAny_bind (wpAny_sequenceKey hm.typeIs (by decide) ?_)
  refine wpAny_bind (wpAny_callSpecial?_slot (name := Str.ofString "__getitem__") hm.typeIs slot_dict_getitem
    (wpAny_call_entry slot_dict_getitem hm.typeIs entry_dict_getitem ?_ (args_dict_getitem _ _)))
  show wpAny _ _ (dictGet d u >>= _) _ _ s
  refine wpAny_bind (mix_get hu1 hkey hm ?_)
  rw [hp]
  exact wpAny_pure ⟨p, rfl, wpAny_pure h⟩
theorem mix_setItem {d : Addr} {u v : Value} {xs : List MixE} {k : NestedKey} {Q : Unit → Shared → Prop} (hu : A.units + 9 < cLine) (hkey : MixKey s.heap k u) (hm : MixOf w s.heap d xs) (hno : k ∉ xs.map (·.1)) (hsz : xs.length ≤ sizeLine)
    (hQ : ∀ h', MixOf w h' d (xs ++ [(k, u, v)]) → Heap.SameBut d s.heap h' → Q () { s with heap := h', toks := s.toks + k.draws }) : wpAny (model prog w) A (setItem (.ref d) u v) Q E s := by
  have hu1 : A.in1.units + 8 < cLine := by
    show A.units + 1 + 8 < cLine
    omega
  unfold setItem
  try with_reducible refine wpAny_holding ?_
  refine wpAny_bind (wpAny_sequenceKey hm.typeIs (by decide) ?_)
  refine wpAny_bind (wpAny_callSpecial?_slot (name := Str.ofString "__setitem__") hm.typeIs slot_dict_setitem
    (wpAny_call_entry slot_dict_setitem hm.typeIs entry_dict_setitem ?_ (args_dict_setitem _ _ _)))
  show wpAny _ _ (Builtin.Dict.notOrdered "__setitem__" ⟨[.ref d, u, v], []⟩ >>= _) _ _ s
  refine wpAny_bind (wpAny_notOrdered_dict hm.typeIs ?_)
  show wpAny _ _ (dictSet d u v >>= _) _ _ s
  exact wpAny_bind (mix_set hu1 hkey hm hno hsz fun h' hm' hs' => wpAny_pure ⟨.none, rfl, wpAny_pure (hQ h' hm' hs')⟩)
end
/-! ### keys as data -/
mutual
def nkey : PyData → NestedKey
  | .int i => .num i
  | .str x => .text x
  | .tuple ds => .tup (nkeys ds)
  | .bool b => .num (if b = true then 1 else 0)
  | .none => .none
  | .list _ => .none
  | .dict _ => .none
def nkeys : List PyData → List NestedKey
  | [] => []
  | d :: ds => nkey d :: nkeys ds
end
mutual
/-- no lists, no dicts -/
def keyable : PyData → Bool
  | .list _ => false
  | .dict _ => false
  | .tuple ds => keyables ds
  | _ => true
def keyables : List PyData → Bool
  | [] => true
  | d :: ds => keyable d && keyables ds
end
section
variable {X : Cx} {pins : List (Addr × Obj)} {σ : L2.St} {H : Hp} {s : Shared}
mutual
theorem nested_of (I : Inv X pins σ H s) : ∀ (d : PyData) (v : V) (u : Value), Dp X.K H v d → keyable d = true → RelV v u → NestedIs s.heap (nkey d) u
  | .int i, v, u, h, _, r => by
    cases h.int_inv
    obtain ⟨t, rfl⟩ := r
    exact .int i t
  | .str x, v, u, h, _, r => by
    cases h.str_inv
    obtain ⟨t, rfl⟩ := r
    exact .text x t
  | .bool b, v, u, h, _, r => by
    cases h.bl_inv
    obtain rfl : u = Value.bool b := r
    exact .bool rfl
  | .none, v, u, h, _, r => by
    cases h.non_inv
    obtain rfl : u = Value.none := r
    exact .none
  | .list _, _, _, _, k, _ => by cases k
  | .dict _, _, _, _, k, _ => by cases k
  | .tuple ds, v, u, h, k, r => by
    obtain ⟨a, xs, rfl, h1, h2⟩ := h.tup_inv
    obtain rfl : u = Value.ref a := r
    obtain ⟨its, rv, ⟨o, e1, e2, n, e3⟩, _⟩ := I.tuple h1
    unfold nkey
    exact .tup (n := n) e1 e2 e3 (by simpa using nested_all I ds xs its h2 (by unfold keyable at k; exact k) rv)
theorem nested_all (I : Inv X pins σ H s) : ∀ (ds : List PyData) (vs : List V) (us : List Value), DpAll X.K H vs ds → keyables ds = true → Vals vs us → NestedAll s.heap (nkeys ds) us
  | [], vs, us, h, _, r => by
    cases h
    cases r
    exact .nil
  | d :: ds, vs, us, h, k, r => by
    cases h with
    | cons h1 h2 =>
      cases r with
      | cons r1 r2 =>
        unfold keyables at k
        obtain ⟨k1, k2⟩ := Bool.and_eq_true_iff.mp k
        exact .cons (nested_of I d _ _ h1 k1 r1) (nested_all I ds _ _ h2 k2 r2)
end
/-- data that may be a key of such a dict -/
structure MixD (d : PyData) : Prop where
  kb : keyable d = true
  dp : (nkey d).depth ≤ 8
  sh : (∃ ds, d = .tuple ds) ∨ ∃ x, d = .str x
theorem mixKey_of (I : Inv X pins σ H s) {d : PyData} {v : V} {u : Value} (h : Dp X.K H v d) (m : MixD d) (r : RelV v u) : MixKey s.heap (nkey d) u := by
  refine ⟨nested_of I d v u h m.kb r, m.dp, ?_⟩
  rcases m.sh with ⟨ds, rfl⟩ | ⟨x, rfl⟩
  · obtain ⟨a, xs, rfl, _, _⟩ := h.tup_inv
    exact .inl ⟨a, r⟩
  · cases h.str_inv
    exact .inr ⟨x, r⟩
end
/-! ### the dict on the abstract heap -/
/-- an entry: the key as data, the key, the value -/
abbrev MixV := PyData × V × V
def MixRel (x : MixV) (y : MixE) : Prop := nkey x.1 = y.1 ∧ RelV x.2.1 y.2.1 ∧ RelV x.2.2 y.2.2
def mixO (w : World) (d : Addr) (xs : List MixV) : HO := .ext fun h =>
  xs.length ≤ sizeLine ∧ (d == sysModules) = false ∧ ∃ (ys : List MixE) (o : Obj) (es : Array DictEntry) (ep : Nat), Paired MixRel xs ys ∧ h.get? d = some o ∧ o.ExactDict ∧ o.data = .dict es ep ∧ es.toList = ys.map (mixEnt w) ∧ (ys.map (·.1)).Nodup
/-- its keys are there -/
structure MixAt (K : PySem.W.Frag) (w : World) (H : Hp) (d : Addr) (xs : List MixV) : Prop where
  at_ : H d = some (mixO w d xs)
  keys : ∀ e ∈ xs, MixD e.1 ∧ Dp K H e.2.1 e.1
def mixV (xs : List MixV) (k : NestedKey) : Option V := (xs.find? fun x => decide (nkey x.1 = k)).map fun x => x.2.2
theorem mixV_rel {k : NestedKey} : ∀ {xs : List MixV} {ys : List MixE}, Paired MixRel xs ys → RelO (mixV xs k) (mixGet ys k)
  | _, _, .nil => True.intro
  | x :: xs, y :: ys, .cons h t => by
    have ih := mixV_rel (k := k) t
    unfold mixV mixGet at ih ⊢
    rw [List.find?_cons, List.find?_cons, h.1]
    by_cases e : y.1 = k
    · rw [decide_eq_true e]
      exact h.2.2
    · rw [decide_eq_false e]
      exact ih
theorem mix_keys : ∀ {xs : List MixV} {ys : List MixE}, Paired MixRel xs ys → ys.map (·.1) = xs.map fun x => nkey x.1
  | _, _, .nil => rfl
  | _, _, .cons h t => by rw [List.map_cons, List.map_cons, mix_keys t, h.1]
theorem mixO_tup {w : World} {d : Addr} {xs : List MixV} {ys : List V} : mixO w d xs ≠ .tup ys := fun z => by
  unfold mixO at z
  cases z
section
variable {X : Cx} {pins : List (Addr × Obj)} {σ : L2.St} {H : Hp} {s : Shared} {d : Addr} {xs : List MixV}
theorem mix_open (I : Inv X pins σ H s) (m : MixAt X.K X.w H d xs) : xs.length ≤ sizeLine ∧ (d == sysModules) = false ∧ ∃ ys, Paired MixRel xs ys ∧ MixOf X.w s.heap d ys := by
  have q : ObjOk X.prog X.w H s.heap d (mixO X.w d xs) := I.hok d _ m.at_
  obtain ⟨⟨hz, hd, ys, o, es, ep, r, h1, h2, h3, h4, h5⟩, _⟩ := q
  refine ⟨hz, hd, ys, r, o, es, ep, h1, h2, h3, h4, fun y hy => ?_, h5⟩
  have all : ∀ {xs : List MixV} {ys : List MixE}, Paired MixRel xs ys → (∀ e ∈ xs, MixD e.1 ∧ Dp X.K H e.2.1 e.1) → ∀ y ∈ ys, MixKey s.heap y.1 y.2.1 := by
    intro xs ys p
    induction p with
    | nil =>
      intro _ y hy
      cases hy
    | @cons x y' xs ys hxy t ih =>
      intro hk y hy
      rcases List.mem_cons.mp hy with e | hy
      · rw [e, ← hxy.1]
        obtain ⟨k1, k2⟩ := hk x List.mem_cons_self
        exact mixKey_of I k2 k1 hxy.2.1
      · exact ih (fun e he => hk e (List.mem_cons_of_mem _ he)) y hy
  exact all r m.keys y hy
theorem mixO_ok {P : Program} {w : World} {H' : Hp} {h : Heap} {ys : List MixE} (hz : xs.length ≤ sizeLine) (hd : (d == sysModules) = false) (r : Paired MixRel xs ys) {o : Obj} {es : Array DictEntry} {ep : Nat} (h1 : h.get? d = some o) (h2 : o.ExactDict) (h3 : o.data = .dict es ep) (h4 : es.toList = ys.map (mixEnt w)) (h5 : (ys.map (·.1)).Nodup) :
    ObjOk P w H' h d (mixO w d xs) := ⟨⟨hz, hd, ys, o, es, ep, r, h1, h2, h3, h4, h5⟩, ⟨o, h1⟩, fun h1' h2' z k => by
      obtain ⟨a1, a2, ys', o', es', ep', b1, b2, b3, b4, b5, b6⟩ := z
      exact ⟨a1, a2, ys', o', es', ep', b1, k _ b2, b3, b4, b5, b6⟩⟩
end
/-! ### readings and rules -/
def rNotInM (K : PySem.W.Frag) (w : World) : R2 := fun x y H Q => ∃ (d : Addr) (xs : List MixV) (kd : PyData), y = .ref d ∧ MixAt K w H d xs ∧ MixD kd ∧ Dp K H x kd ∧ Q (.bl (!(mixV xs (nkey kd)).isSome)) H
def rIxM (K : PySem.W.Frag) (w : World) : R2 := fun x y H Q => ∃ (d : Addr) (xs : List MixV) (kd : PyData) (v : V), x = .ref d ∧ MixAt K w H d xs ∧ MixD kd ∧ Dp K H y kd ∧ mixV xs (nkey kd) = some v ∧ Q v H
def rSetM (K : PySem.W.Frag) (w : World) : TSet := fun o i v H Q => ∃ (d : Addr) (xs : List MixV) (kd : PyData), o = .ref d ∧ MixAt K w H d xs ∧ MixD kd ∧ Dp K H i kd ∧ mixV xs (nkey kd) = none ∧ xs.length < sizeLine ∧ Q (upd H d (mixO w d (xs ++ [(kd, i, v)])))
/-- {}, to be such a dict -/
def tDNewM (w : World) : TE := fun _ H Q => ∀ p, H p = none → Q (.ref p) (upd H p (mixO w p []))
theorem Paired.snoc' {α β : Type} {R : α → β → Prop} : ∀ {xs : List α} {ys : List β} {x : α} {y : β}, Paired R xs ys → R x y → Paired R (xs ++ [x]) (ys ++ [y])
  | _, _, _, _, .nil, h => .cons h .nil
  | _, _, _, _, .cons a t, h => .cons a (Paired.snoc' t h)
section
variable {X : Cx}
theorem op_notInM (hu : X.A.units + 64 < cLine) : OpR X (compareOp .NotIn) (rNotInM X.K X.w) := by
  intro pins s σ H x y v u Q I rx ry h
  obtain ⟨d, xs, kd, rfl, m, md, hd, q⟩ := h
  obtain rfl : u = Value.ref d := ry
  obtain ⟨hz, hsm, ys, r, mo⟩ := mix_open I m
  refine mix_notIn (by omega) (mixKey_of I hd md rx) hsm mo ?_
  rw [← (mixV_rel r).isSome_eq]
  exact ⟨.bl (!(mixV xs (nkey kd)).isSome), H, I.tok _, rfl, q⟩
theorem ix_mix (hu : X.A.units + 64 < cLine) : IxR X (rIxM X.K X.w) := by
  intro value slice pins s σ H x y v u Q I rx ry h hs
  obtain ⟨d, xs, kd, z, rfl, m, md, hd, hz, q⟩ := h
  obtain rfl : v = Value.ref d := rx
  obtain ⟨_, hsm, ys, r, mo⟩ := mix_open I m
  have rel := mixV_rel (k := nkey kd) r
  rw [hz] at rel
  obtain ⟨w', hw, rw'⟩ := RelO.some_of (v := z) rel
  refine tail_any (ops := [.ref d, u]) mo.typeIs (slot_dict_getitem.lookup) ?_ hs
  exact mix_getItem (by omega) (mixKey_of I hd md ry) mo hw ⟨z, H, I.tok _, rw', q⟩
theorem set_mix (hu : X.A.units + 64 < cLine) : PSet X (rSetM X.K X.w) := by
  intro pins s σ H o i v ov iv u Q I ro ri rv h
  obtain ⟨d, xs, kd, rfl, m, md, hd, hn, hl, q⟩ := h
  obtain rfl : ov = Value.ref d := ro
  obtain ⟨hz, hsm, ys, r, mo⟩ := mix_open I m
  have hno : nkey kd ∉ ys.map (·.1) := by
    rw [mix_keys r]
    intro z
    obtain ⟨e, he, ek⟩ := List.mem_map.mp z
    unfold mixV at hn
    cases hf : xs.find? fun x => decide (nkey x.1 = nkey kd) with
    | none =>
      have y := List.find?_eq_none.mp hf e he
      simp [ek] at y
    | some e' =>
      rw [hf] at hn
      cases hn
  have hly : ys.length ≤ sizeLine := by
    rw [← Paired.length r]
    exact hz
  refine mix_setItem (by omega) (mixKey_of I hd md ri) mo hno hly fun h' mo' hs' => ?_
  obtain ⟨o', es, ep, h1, h2, h3, h4, _, h5⟩ := mo'
  refine ⟨_, I.write (x := d) (e := d) (o := mixO X.w d (xs ++ [(kd, i, v)])) (by rw [m.at_]; exact True.intro) (.inl rfl) (fun b q hb z => (hs'.2 b hb).trans z) ⟨o', h1⟩ ?_, q⟩
  exact mixO_ok (by rw [List.length_append]; show xs.length + 1 ≤ sizeLine; omega) hsm (Paired.snoc' r ⟨rfl, ri, rv⟩) h1 h2 h3 h4 h5
theorem pe_dnewM {pos : Pos} : PE X (.Dict [] [] pos) (tDNewM X.w) := ⟨fun pins s σ H Q I h =>
  wpAny_Dict_empty ⟨.ref s.heap.objs.size, _, I.laid (a := s.heap.objs.size) (o := mixO X.w s.heap.objs.size []) (t' := s.toks) (fun _ _ q => Heap.get?_push_of_some _ q) (Nat.le_refl _)
    (mixO_ok (ys := []) (Nat.zero_le _) (beq_eq_false_iff_ne.mpr (Ne.symm (Nat.ne_of_lt I.big))) .nil (Heap.get?_push_size _ rfl) ⟨rfl, rfl, rfl⟩ rfl rfl List.nodup_nil), rfl, h _ (I.hok.fresh (Nat.le_refl _))⟩⟩
end
end K11

set_option Elab.async false
set_option linter.all false
set_option maxRecDepth 100000
set_option maxHeartbeats 4000000
/-! An error class of the program: its __init__ says super().__init__(text), then self.at = at. -/
namespace K11
open PySem PySem.Spec PyProof.Rows L2 NdefX
/-- the body -/
def errBody (txt : Str) (k0 : Nat) (p0 p1 p2 p3 p4 p5 q0 q1 q2 q3 : Pos) : List Stmt :=
  [.Expr (.Call (.Attribute (.Call (.Name "super" p0) [] [] p1) "__init__" p2) [.Constant (.str txt) k0 p3] [] p4) p5, .Assign [.Attribute (.Name "self" q0) "at" q1] (.Name "at" q2) q3]
/-- super().__init__(text): what the tree is -/
def errCall (env : Env) (txt : Str) (k0 : Nat) (p0 p1 p2 p3 p4 : Pos) (pl : Sem Bool) : Prop :=
  eval (.Call (.Attribute (.Call (.Name "super" p0) [] [] p1) "__init__" p2) [.Constant (.str txt) k0 p3] [] p4) env = (do
    let ov ← attributeBase (.Call (.Name "super" p0) [] [] p1) "__init__" env (eval (.Call (.Name "super" p0) [] [] p1) env)
    standAt p2.atName
    let (f, first) ← holding [ov] (getMethod ov "__init__" pl)
    callWith p4 f first (backTo p4 (starEach [.Constant (.str txt) k0 p3] env)) [])
def errF (qn : Str) (ps : Arguments) (txt : Str) (k0 : Nat) (p0 p1 p2 p3 p4 p5 q0 q1 q2 q3 : Pos) (scope : Scope) (cc c : Addr) : NF := ⟨"__init__", qn, ps, errBody txt k0 p0 p1 p2 p3 p4 p5 q0 q1 q2 q3, scope, [(("__class__" : Str), cc)], c⟩
abbrev errN : List Str := ["self", "at", "__class__"]
/-- C(v) keeps this: the object bears at -/
def spErr (C : Addr) : Sp := fun vs H Q _ => ∃ (a : Addr) (v : V), vs = [.ref a, v] ∧ H a = some (exo a C none) ∧ ∀ dx, H dx = none → dx ≠ a → Q .non (upd (upd H dx (exd dx [("at", v)])) a (exo a C (some dx)))
theorem super_boot : bootBuiltins "super" = some (.type "super") := by kernel_rfl
section
variable {P : Program} {w : World} {K : PySem.W.Frag} {mg : Str → Option Value} {base : Heap} {CX : CXT}
theorem ok_err {f C c cc : Addr} {fd : FuncData} {oc : Value} {od : Option Addr} {osl : Array (Option Value)} {qn : Str} {scope : Scope} {txt : Str} {k0 : Nat} {p0 p1 p2 p3 p4 p5 q0 q1 q2 q3 : Pos} {ar : Arg} {oC : Obj} {vs2 : Array Value} {file : Str} {tf : Tok} {cl : Value} {cld : Option Addr} {csl : Array (Option Value)} {cdD : ClassData}
    (lk : K.lookup f = some ⟨oc, od, .func fd, osl⟩) (hq : fd.qualname = qn) (hb : fd.body = .stmts (errBody txt k0 p0 p1 p2 p3 p4 p5 q0 q1 q2 q3)) (hs : fd.scope = scope) (hg : fd.globals = mainGlobals) (hbn : fd.builtins = builtinsNs)
    (hclo : fd.closure = [(("__class__" : Str), cc)]) (hco : fd.code = .ref c) (hcd : PySem.W.codeIn K (.ref c) qn = true)
    (S : NScope errN ["self", "at"] ["__class__"] scope) (hsup : scope.names.lookup ("super" : Str) = some NameKind.globalImplicit) (hp : (fd.params.posonlyargs ++ fd.params.args).head? = some ar) (har : ar.arg = "self")
    (hcode : K.lookup c = some oC) (hcv : oC.data = .fields vs2) (hvs : vs2[2]? = some (.str file tf)) (hfile : ((P.main.file : Str) == file) = true) (htop : (P.main.scope.names.lookup ("super" : Str)).isSome = false)
    (hcell : K.lookup cc = some ⟨cl, cld, .cell (some (.ref C)), csl⟩) (T : OexC K C) (hD : PySem.W.clsIn K C = some cdD) (hsub : PySem.W.mroIn K C (.ref C) = some true) (hsuper : mg "super" = none) (ho : PySem.W.nsIn K cStatics "thirdparty.any" = some none)
    (hm : PySem.W.ks_superIn K C C "__init__" = some (some (.builtin "ValueError.__init__"))) (hB : PySem.W.subIn K (.ref C) (.type "ValueError") = some true) (hno : PySem.W.findIn K (.ref C) "at" = some none)
    {pl : Sem Bool} (hcall : ∀ L, errCall (envF (errF qn fd.params txt k0 p0 p1 p2 p3 p4 p5 q0 q1 q2 q3 scope cc c) f L) txt k0 p0 p1 p2 p3 p4 pl) (hswap : ∀ env : Env, swapsWith (.Name "at" q2) (some (.Attribute (.Name "self" q0) "at" q1)) q3.line env = pure false) :
    FnOk P w K mg base CX 1 f fd ["self", "at"] (spErr C) := by
  refine ⟨fun vs H Q E h => ?_, fun A outer s H args us vs Q E hr e0 hbd r hsp => ?_⟩
  · obtain ⟨a, v, rfl, _⟩ := h
    rfl
  obtain ⟨a, v, rfl, ha, q⟩ := hsp
  obtain ⟨u0, u1, rfl, r0, r1⟩ := vals2 r
  obtain rfl : u0 = Value.ref a := r0
  have KX : K.In s.heap := e0.mod.kin.keeps fun b o e => (e0.bs b o e).1
  have lim : s.heap.NoLimit := e0.mod.nolimit.keeps fun b o e => (e0.bs b o e).1
  have henv : ∀ L, callEnv fd L f = envF (errF qn fd.params txt k0 p0 p1 p2 p3 p4 p5 q0 q1 q2 q3 scope cc c) f L := fun L => by
    unfold callEnv
    rw [hq, hs, hg, hbn, hclo, hco] <;> rfl
  have hcellH : H cc = none := (e0.bs cc _ (e0.mod.kin _ _ hcell)).2
  have Ce : CellsAt [(("__class__" : Str), cc)] ["__class__"] [some (.ref C)] s.heap H := by
    have hc : s.heap.IsCell cc (some (.ref C)) := ⟨_, KX _ _ hcell, rfl⟩
    have one : ∀ (y : Str) (b : Addr), [(("__class__" : Str), cc)].lookup y = some b → y = "__class__" ∧ b = cc := fun y b e => by
      by_cases hy : y = "__class__"
      · rw [hy] at e
        have e : some cc = some b := e
        exact ⟨hy, (Option.some.inj e).symm⟩
      · have z : (y == ("__class__" : Str)) = false := by simpa using hy
        have e : (match y == ("__class__" : Str) with
          | true => some cc
          | false => none) = some b := e
        rw [z] at e
        cases e
    refine ⟨rfl, fun y b e => ?_, fun x y b e1 e2 => (one x b e1).1.trans (one y b e2).1.symm, fun i y e => ?_⟩
    · obtain ⟨_, rfl⟩ := one y b e
      exact ⟨hcellH, _, hc⟩
    · cases i with
      | zero =>
        have e : some ("__class__" : Str) = some y := e
        cases e
        exact ⟨cc, rfl, fun v ev => by
          have ev : some (some (V.ref C)) = some (some v) := ev
          cases ev
          exact ⟨_, rfl, hc⟩⟩
      | succ i => simp at e
  refine PySem.ks_codeAny_call_defAt hr.depth (KX _ _ lk) rfl lim (by rw [hco, hq]; exact PySem.W.codeRec_of KX hcd) hb hbd (by rw [hs]; exact S.nocell) (fun x hx => by
    rw [hs]
    exact S.par x.1 (List.of_mem_zip hx).1) (fun h₁ hns kp => ?_) (by rw [hs]; exact S.co) (by rw [hs]; exact S.gen) (by rw [hs]; exact S.kind)
  rw [henv]
  have I : Inv (ncx CX P w K mg base errN (errF qn fd.params txt k0 p0 p1 p2 p3 p4 p5 q0 q1 q2 q3 scope cc c) f A outer s H E) [] (startF errN [.ref a, v] [some (.ref C)]) H { s with heap := h₁, toks := s.toks + (["self", "at"].zip [Value.ref a, u1]).length } := inv_startN S hr.hd e0 rfl r Ce hns kp
  obtain ⟨hp1, g1, d1, t1, os1⟩ := s
  unfold errBody
  have hE0 := exo_at I.hok ha
  obtain ⟨ta, he⟩ := hE0
  have IA : PySem.W.InstAt h₁ a { cls := .ref C, dict := none, data := .fields #[.ref ta, .none, .none, .none, .bool false, .none] } C none := ⟨he, rfl, rfl, trivial⟩
  have K1 : K.In h₁ := I.kIn
  obtain ⟨oD, hD1, hD2⟩ : ∃ oD, h₁.get? C = some oD ∧ oD.data = .cls cdD := by
    unfold PySem.W.clsIn at hD
    split at hD
    · rename_i c d cd' sl ho
      cases hD
      exact ⟨_, K1 _ _ ho, rfl⟩
    · cases hD
  obtain ⟨m, hN, hl⟩ := I.loc
  refine PySem.ks_wpAt_execs_cons (PySem.ks_wpAt_Expr_any (PySem.ks_wpAt_MethodCall (pl := pl) (PySem.ks_wpAt_super_base (ar := ar) hsup (S.frk _ (by simp)) rfl rfl (K1 _ _ lk) rfl hp rfl (K1 _ _ hcode) hcv hvs hfile htop ?_) (hcall _)) I.quiet rfl)
  refine PySem.W.ks_loadName_global I.ok.kind hsup ?_
  obtain ⟨mb, hb1, hb2⟩ := e0.mod.blt
  refine Calls.loadGlobal_builtin (I.mod.glob.keeps I.bk) hsuper (hb1.keeps I.bk) ((hb2 _ (by decide)).trans super_boot) ⟨rfl, ?_⟩
  have hfrk : scope.names.lookup ("__class__" : Str) = some NameKind.free := S.frk _ (by simp)
  have hself : scope.names.lookup ("self" : Str) = some NameKind.local := S.par _ (by simp)
  refine wpAny_loadName_free I.ok.kind hfrk (c := cc) rfl ⟨_, K1 _ _ hcell, rfl⟩ ?_
  rw [har]
  have hms : m "self" = some (.ref a) := by
    obtain ⟨u, ru, l⟩ := hl 0 "self" (.ref a) rfl rfl (.inl hself)
    obtain rfl : u = Value.ref a := ru
    rcases l with ⟨_, l⟩ | ⟨l, _⟩
    · exact l
    · have l : scope.names.lookup ("self" : Str) = some NameKind.cell ∨ scope.names.lookup ("self" : Str) = some NameKind.free := l
      rw [hself] at l
      rcases l with l | l <;> cases l
  refine wpAny_loadName_local I.ok.kind hself hN hms ?_
  refine PySem.ks_wpAny_isType_cls hD1 hD2 ⟨rfl, ?_⟩
  refine PySem.ks_wpAny_call_super hD1 hD2 he rfl (fun c e => by cases e) (PySem.W.looks_mroIn K1 hsub) (fun h2 e2 k2 => ?_)
  have I2 := I.kept (t' := t1 + (["self", "at"].zip [Value.ref a, u1]).length) (h' := h2) k2
  have K2 : K.In h2 := I2.kIn
  have he2 := k2 _ _ he
  have IA2 : PySem.W.InstAt h2 a { cls := .ref C, dict := none, data := .fields #[.ref ta, .none, .none, .none, .bool false, .none] } C none := ⟨he2, rfl, rfl, trivial⟩
  have hm2 : PySem.W.alongIn K "__init__" ((cdD.mro.dropWhile (· != .ref C)).drop 1) = some (some (.builtin "ValueError.__init__")) := by
    unfold PySem.W.ks_superIn at hm
    rw [hD] at hm
    exact hm
  refine PySem.W.kxs_getMethod PySem.W.kxs_ValueError e2 (PySem.W.looks_opaque K2 ho) (l₀ := cdD.mro) ?_ rfl K2 hm2 (IA2.type.andThen (PySem.W.looks_subIn K2 hB)) (PySem.W.ks_ne K2 IA2 hD) rfl ?_
  · exact fun A Q E s k q => wpAny_bind ((PySem.W.looks_clsIn K2 hD) A _ E s k (wpAny_pure q))
  have k3 : ∀ b o, h2.get? b = some o → (h2.push (PySem.W.kxs_mw "ValueError.__init__" a)).get? b = some o := fun b o e => Heap.get?_push_of_some _ e
  have I3 := I2.kept (t' := t1 + (["self", "at"].zip [Value.ref a, u1]).length + 1) (h' := h2.push (PySem.W.kxs_mw "ValueError.__init__" a)) k3
  have hmw : (h2.push (PySem.W.kxs_mw "ValueError.__init__" a)).get? h2.objs.size = some (PySem.W.kxs_mw "ValueError.__init__" a) := Heap.get?_push_at rfl rfl
  refine PySem.W.kxs_callWith (i := "ValueError.__init__") (x := a) rfl (Calls.evalArgs_plain ?_)
  show wpAny _ _ (spliced ((false, eval (.Constant (.str txt) k0 p3) (envF (errF qn fd.params txt k0 p0 p1 p2 p3 p4 p5 q0 q1 q2 q3 scope cc c) f hp1.objs.size)) :: [])) _ _ _
  refine Calls.spliced_cons (Calls.Constant_str (Calls.spliced_nil ⟨hmw, ?_⟩))
  obtain ⟨nm, q', N, bs, bm, sn, sub, ab, col, dd, k0', k1, k2', k3', k5, hC, hbm⟩ := T.cls
  have hC3 := I3.kIn _ _ hC
  have he3 := k3 _ _ he2
  refine wpAny_call (codeAny_of_tree ?_)
  show wpAny _ _ (callAny (.ref h2.objs.size) ⟨[] ++ [Value.str txt _], []⟩) _ _ _
  simp only [callAny]
  refine wpAny_bind (wpAny_load hmw ?_)
  simp only [PySem.W.kxs_mw, show (Value.type "method-wrapper" == Value.type "method" || Value.type "method-wrapper" == Value.type "builtin_function_or_method" || Value.type "method-wrapper" == Value.type "method-wrapper") = true by decide, if_true]
  refine PySem.W.KFB.if_so (by decide) ?_
  refine wpAny_bind (PySem.W.check_bound_init F.excBase_ValueError.toExcCallFacts hC3 he3 rfl ?_)
  refine wpAny_bind (wpAny_pure (wpAny_pure ?_))
  refine ⟨plainId_quiet F.excBase_ValueError.init.plain _, codeAny_builtin F.excBase_ValueError.initEntry ?_⟩
  refine PySem.W.exc_init_tree (cls := .ref C) (t0 := ta) (dv := none) (c2 := .none) (c3 := .none) (b4 := .bool false) he3 (by simp [sizeLine_eq]) fun h4 k4 e4 _ => ?_
  have I4 := I3.write (t' := t1 + (["self", "at"].zip [Value.ref a, u1]).length + 1 + 1) (x := a) (e := a) (o := exo a C none) (by rw [ha]; exact True.intro) (.inl rfl) k4 ⟨_, e4⟩ (exo_ok e4)
  have eu : upd H a (exo a C none) = H := by
    funext b
    by_cases hb : b = a
    · rw [hb, upd_same, ha]
    · rw [upd_ne hb]
  rw [eu] at I4
  have hat : scope.names.lookup ("at" : Str) = some NameKind.local := S.par _ (by simp)
  have body : PSs (ncx CX P w K mg base errN (errF qn fd.params txt k0 p0 p1 p2 p3 p4 p5 q0 q1 q2 q3 scope cc c) f A outer ⟨hp1, g1, d1, t1, os1⟩ H E) [.Assign [.Attribute (.Name "self" q0) "at" q1] (.Name "at" q2) q3] _ :=
    pss_one (ps_ost (pe_var (i := 0) rfl (.inl hself)) (pe_var (i := 1) rfl (.inl hat)) (hswap _))
  refine wpAt_of_wpAny (wpAny_mono (body.run [] _ _ H { nx := fun _ H' => Q .non H', rt := Q } I4 ?_) (fun fl s' hs => ?_) fun e s' hs => hs)
  · exact ⟨v, rfl, .ref a, rfl, a, C, rfl, T, hno, .inl ⟨ha, fun dx n ne => q dx n ne⟩⟩
  · have fin : ∀ {σ' : L2.St} {H' : Hp} {v : V} {u : Value}, Inv (ncx CX P w K mg base errN (errF qn fd.params txt k0 p0 p1 p2 p3 p4 p5 q0 q1 q2 q3 scope cc c) f A outer ⟨hp1, g1, d1, t1, os1⟩ H E) [] σ' H' s' → L2.RelV v u → Q v H' → CE outer P w H ⟨hp1, g1, d1, t1, os1⟩ Q u s' :=
      fun {σ' H' v u} J rv q => ⟨v, H', J.os, J.bare, J.base, J.hok, rv, q⟩
    cases fl with
    | ret u =>
      obtain ⟨v, σ', H', J, rv, q⟩ := hs
      exact fin J rv q
    | next =>
      obtain ⟨σ', H', J, q⟩ := hs
      exact fin (v := V.non) (u := Value.none) J rfl q
    | brk =>
      obtain ⟨_, _, _, q⟩ := hs
      exact False.elim q
    | cont =>
      obtain ⟨_, _, _, q⟩ := hs
      exact False.elim q
end
end K11

set_option Elab.async false
set_option linter.all false
set_option maxRecDepth 100000
set_option maxHeartbeats 4000000
/-! try with several clauses, each 'except C as n' with the same name n. -/
namespace K11
open PySem PySem.Spec PyProof.Rows L2
/-- one clause: the class, the reading of its suite -/
abbrev Clause := Value × (Addr → Value → Option Addr → TS)
/-- behind the suite n is gone -/
def unslot (i : Nat) (D : Ends) : Ends := { nx := fun σ' H' => D.nx (σ'.set i none) H', rt := D.rt, bk := fun σ' H' => D.bk (σ'.set i none) H', ct := fun σ' H' => D.ct (σ'.set i none) H' }
def wAll (K : PySem.W.Frag) (i : Nat) (Wout : WX) (D : Ends) : List Clause → WX
  | [] => Wout
  | p :: r => fun cls d σ H => ∃ b, PySem.W.exmOne K cls p.1 = some b ∧ (b = true → ∀ a, H a = none → p.2 a cls d (unslot i D) (σ.set i (some (.ref a))) H) ∧ (b = false → wAll K i Wout D r cls d σ H)
/-- a suite's reading, whatever exception came -/
def SuiteOk (X : Cx) (suite : List Stmt) (ts : Addr → Value → Option Addr → TS) : Prop :=
  ∀ (a : Addr) (oe : Obj) (cls : Value) (d : Option Addr) (pn : List (Addr × Obj)), Zc cls d oe → (∃ vs, oe.data = .fields vs) → PSs (X.suite a ((a, oe) :: pn)) suite (ts a cls d)
inductive Clauses (X : Cx) (n : Str) : List ExceptHandler → List Clause → Prop
  | nil : Clauses X n [] []
  | cons {x : Str} {p : Clause} {b₀ : Stmt} {suite : List Stmt} {np pos' : Pos} {hds : List ExceptHandler} {l : List Clause} (hc : Names X x p.1) (hsu : SuiteOk X (b₀ :: suite) p.2) (r : Clauses X n hds l) :
      Clauses X n (.ExceptHandler (some (.Name x np)) (some n) (b₀ :: suite) pos' :: hds) (p :: l)
section
variable {X : Cx} {body : List Stmt} {h₀ : ExceptHandler} {hds : List ExceptHandler} {l : List Clause} {pos : Pos} {tb : WX → TS} {Wout : WX} {n : Str} {i : Nat}
theorem ps_try_all (hs : X.stack = X.env :: X.outer) (hf : X.env.frame = some X.env.locals) (hN : X.N.Nodup) (hi : X.N[i]? = some n) (hln : X.env.kindOf n = some .local) (tk : Takes X Wout)
    (hb : ∀ (W : WX) (pn : List (Addr × Obj)) (xe : Value → Shared → Prop), Takes (X.tr pn xe) W → PassesOwn (model X.prog X.w) X.A X.env xe → PSs (X.tr pn xe) body (tb W))
    (hh : Clauses X n (h₀ :: hds) l) : PS X (.Try body (h₀ :: hds) [] [] pos) (fun D σ H => tb (wAll X.K i Wout D l) D σ H) := by
  refine ⟨fun pins s σ H D I h => ?_⟩
  have ok := I.ok
  have hfr : X.A.frames = some (X.env :: X.outer) := by rw [ok.frames, hs]
  have hloc : Loc X.env.scope n := .inl hln
  refine wpAny_Try_except ?_
  refine wpAny_mono ((hb (wAll X.K i Wout D l) (X.pn ++ pins) (fun e s₁ => wpAny (model X.prog X.w) X.A (noteFrame e X.env) (fun _ s₂ => wpAny (model X.prog X.w) X.A (setFlight e none) (fun _ s₃ =>
    wpAny (model X.prog X.w) X.A (handleBy e X.env (h₀ :: hds)) (SP X pins D) X.xe s₃) X.xe s₂) X.xe s₁) (fun u s' xx => ?_) PassesOwn.looking).run [] s σ H D (I.toTry _) h) (fun f s1 hsp => ?_) (fun e s1 he => he)
  · obtain ⟨a, B, sI, pins', σ', H', cls, d, rfl, J', nb, up, sky, na, os, ag, w⟩ := xx
    have J : Inv X pins σ' H' sI := J'.ofTry ok
    have sky' : Sky B (X.env :: X.outer) a (Zc cls d) X.env.locals s'.heap := by rw [← hs]; exact sky
    show wpAny (model X.prog X.w) X.A (noteFrame (.ref a) X.env) _ _ _
    refine Sky.land Zc.steady hfr hf sky' fun h3 fl3 up3 => ?_
    have J3 : Inv X pins σ' H' { s' with heap := h3 } := J.landed nb fl3.1 (up.trans up3) os ag
    obtain ⟨oe3, vs3, he3, hz3, hd3⟩ := fl3.there
    have nfr : a ∉ frs (X.env :: X.outer) := fun hm => by
      obtain ⟨_, o', e', hnf⟩ := fl3.2.2.1.mem hm
      rw [he3] at e'
      cases e'
      exact hnf _ hd3
    have nL : a ≠ X.env.locals := fun z => nfr (List.mem_filterMap.mpr ⟨X.env, List.mem_cons_self, by rw [hf, z]⟩)
    have nF : a ∉ X.fs := fun hm => by
      obtain ⟨e, he, q⟩ := List.mem_filterMap.mp hm
      exact nfr (List.mem_filterMap.mpr ⟨e, List.mem_cons_of_mem _ he, q⟩)
    have S3 := J3.suite he3 hd3 na nL nF
    have go : ∀ {hds' : List ExceptHandler} {l' : List Clause}, Clauses X n hds' l' → wAll X.K i Wout D l' cls d σ' H' →
        wpAny (model X.prog X.w) X.A (handleBy (.ref a) X.env hds') (SP X pins D) X.xe { s' with heap := h3 } := by
      intro hds' l' hk
      induction hk with
      | nil =>
        intro w
        refine wpAny_handleBy_nil ?_
        obtain ⟨k1, k2, k3, oe, vs, T, oT, ts', he, hz, hd, h1, hr⟩ := id fl3
        unfold PySem.passOn
        refine wpAny_bind (wpAny_field he hd h1 ?_)
        rw [if_neg (show ¬ ((Value.ref T == Value.none) = true) from by simp)]
        have fin : wpAny (model X.prog X.w) X.A (setFlight (.ref a) X.env.frame) (fun _ s4 => wpAny (model X.prog X.w) X.A (throw (.ref a) : Sem Flow) (SP X pins D) X.xe s4) X.xe { s' with heap := h3 } := by
          rw [hf]
          refine HandSPX.setFlight_upZ fl3 fun h4 hh4 up4 => wpAny_throw (tk _ _ ?_)
          exact ⟨a, B, sI, pins, σ', H', cls, d, rfl, J, nb, (up.trans up3).trans up4, .inr (.inr (by rw [hs]; exact hh4)), na, os, ag, w⟩
        first
          | exact wpAny_bind (wpAny_pure (wpAny_bind fin))
          | exact wpAny_bind fin
      | @cons x p b₀ suite np pos' hds2 l2 hc hsu r ih =>
        intro w
        obtain ⟨b, hb1, hyes, hno⟩ := w
        refine wpAny_handleBy_cons (codeAny_handlers_test ?_) (by intro q; cases q)
        have LT : PySem.W.Looks (model X.prog X.w) h3 (typeOf (.ref a)) cls := fun A Q E s k q => wpAny_typeOf_ref (k _ _ he3) (by rw [hz3.1]; exact q)
        have LM := PySem.W.exm_one (M := model X.prog X.w) (J3.kIn) LT hb1
        have test : ∀ {Q : Value → Shared → Prop} {E : Value → Shared → Prop}, Q p.1 { s' with heap := h3 } → wpAny (model X.prog X.w) (X.A.mark (some (.ref a))) (eval (.Name x np) X.env) Q E { s' with heap := h3 } := fun {Q E} q => by
          obtain ⟨hg, hdbg, hm | ⟨hm, hv, hnn⟩⟩ := hc
          · exact ld_glob (X := X.suite a ((a, oe3) :: (X.pn ++ pins))) S3 hg hm q hdbg
          · exact ld_blt (X := X.suite a ((a, oe3) :: (X.pn ++ pins))) S3 hg hm hv q hnn hdbg
        refine test (LM.here ?_)
        cases b with
        | true =>
          refine codeAny_handlers_suite_as ?_
          refine HandSPX.lands_againZ fl3 fun h4 fl4 up4 => ?_
          have J4 : Inv X pins σ' H' { s' with heap := h4 } := J.landed nb fl4.1 ((up.trans up3).trans up4) os ag
          obtain ⟨oe4, vs4, he4, hz4, hd4⟩ := fl4.there
          have S4 := J4.suite he4 hd4 na nL nF
          refine store_ok (X := X.suite a ((a, oe4) :: (X.pn ++ pins))) (v := .ref a) S4 hN hi hloc rfl (fun s5 S5 => ?_) (.inr hln)
          refine wpAny_mono ((hsu a oe4 cls d (X.pn ++ pins) hz4 ⟨_, hd4⟩).run [] s5 _ H' _ S5 (hyes rfl a na)) (fun f s6 hsp => ?_) (fun _ _ z => False.elim z)
          have end_ : ∀ {σ6 : L2.St} {H6 : Hp} {Q : Shared → Prop}, Inv (X.suite a ((a, oe4) :: (X.pn ++ pins))) [] σ6 H6 s6 → (∀ s7, Inv X pins (σ6.set i none) H6 s7 → Q s7) →
              wpAny (model X.prog X.w) X.A (do bindName X.env n .none; unbindBehindTheSuite X.env n pos') (fun _ s7 => Q s7) X.xe s6 := fun {σ6 H6 Q} S6 hq => gone_ok (S6.unsuite ok) hN hi hln hq
          cases f with
          | next =>
            obtain ⟨σ6, H6, S6, q6⟩ := hsp
            exact end_ S6 fun s7 J7 => ⟨_, _, J7, q6⟩
          | brk =>
            obtain ⟨σ6, H6, S6, q6⟩ := hsp
            exact end_ S6 fun s7 J7 => ⟨_, _, J7, q6⟩
          | cont =>
            obtain ⟨σ6, H6, S6, q6⟩ := hsp
            exact end_ S6 fun s7 J7 => ⟨_, _, J7, q6⟩
          | ret u =>
            obtain ⟨v6, σ6, H6, S6, r6, q6⟩ := hsp
            exact end_ S6 fun s7 J7 => ⟨_, _, _, J7, r6, q6⟩
        | false =>
          show wpAny _ X.A (handleBy (.ref a) X.env hds2) _ _ _
          exact ih (hno rfl)
    exact go hh w
  · cases f with
    | next =>
      obtain ⟨σ', H', J', q⟩ := hsp
      exact wpAny_execs_nil ⟨σ', H', J'.ofTry ok, q⟩
    | brk =>
      obtain ⟨σ', H', J', q⟩ := hsp
      exact ⟨σ', H', J'.ofTry ok, q⟩
    | cont =>
      obtain ⟨σ', H', J', q⟩ := hsp
      exact ⟨σ', H', J'.ofTry ok, q⟩
    | ret u =>
      obtain ⟨v, σ', H', J', r, q⟩ := hsp
      exact ⟨v, σ', H', J'.ofTry ok, r, q⟩
end
end K11

set_option Elab.async false
set_option linter.all false
set_option maxRecDepth 100000
set_option maxHeartbeats 4000000
/-! A callable handed to a method: a def of the program, or a lambda of one parameter that closes over a name of the def that makes it. -/
namespace K11
open PySem PySem.Spec PyProof.Rows L2 LamX NdefX
/-- in the context X the function at f, called with one value, keeps sp1 -/
structure Works (X : Cx) (f : Addr) (sp1 : V → Hp → VK → Prop) : Prop where
  fnAt : ∀ (pins : List (Addr × Obj)) (σ : L2.St) (H : Hp) (s : Shared), Inv X pins σ H s → PySem.W.FnAt f s.heap
  run : ∀ (pins : List (Addr × Obj)) (σ : L2.St) (H : Hp) (s : Shared) (x : V) (u : Value) (Q : VK), Inv X pins σ H s → RelV x u → sp1 x H Q → wpAny (model X.prog X.w) X.A (call (.ref f) [u]) (EP X pins σ Q) X.xe s
/-- work(e), work a name that holds it -/
def tWork (i : Nat) (f : Addr) (sp1 : V → Hp → VK → Prop) (ta : TA) : TE := fun σ H Q => σ[i]? = some (some (.ref f)) ∧ ta σ H fun vs H1 => ∃ y, vs = [y] ∧ sp1 y H1 Q
section
variable {X : Cx} {f : Addr} {sp1 : V → Hp → VK → Prop}
theorem pe_work {i : Nat} {x : Str} {e : Expr} {ta : TA} {p pos : Pos} (W : Works X f sp1) (hN : X.N[i]? = some x) (hv : Vis X.env.scope x) (ha : PA X [e] ta) (hd : (x == ("__debug__" : Str)) = false := by decide) (hcd : (x == ("__classdict__" : Str)) = false := by decide)
    (hst : starEach [e] X.env = (false, eval e X.env) :: starEach [] X.env := by rfl) (hpl : (backTo pos (starEach [] X.env)).any (·.1) = false := by rfl) :
    PE X (.Call (.Name x p) [e] [] pos) (tWork i f sp1 ta) := by
  refine ⟨fun pins s σ H Q I h => ?_⟩
  obtain ⟨hs, ht⟩ := h
  refine wpAny_Call_Name_kw (thn ((pe_var (pos := p) hN hv hd hcd).run pins s σ H (fun v H1 => v = .ref f ∧ H1 = H) I ⟨.ref f, hs, rfl, rfl⟩) fun u s1 ⟨v, H1, I1, r1, q1⟩ => ?_)
  obtain ⟨ev, eH⟩ := q1
  subst ev
  rw [eH] at I1
  obtain rfl : u = Value.ref f := r1
  refine PySem.W.callWith_F (first := []) (W.fnAt pins σ H s1 I1) (thn (ha.run pos pins s1 σ H _ I1 ht) fun us s2 ⟨vs, H2, I2, r, y, ey, q⟩ => ⟨W.fnAt pins σ H2 s2 I2, ?_⟩) hst hpl
  subst ey
  obtain ⟨u, rfl, ru⟩ := vals1 r
  exact W.run pins σ H2 s2 y u Q I2 ru q
/-- a def of the program -/
theorem Works.of_fn {CX : CXT} {k : Nat} {fd : FuncData} {p : Str} {sp : Sp} {E : XK} {oc : Value} {od : Option Addr} {osl : Array (Option Value)} (lk : X.K.lookup f = some ⟨oc, od, .func fd, osl⟩) (F : FnOk X.prog X.w X.K X.mg X.base CX k f fd [p] sp) (hr : Room k X.A) (hb : L2.Binds X.K fd [p] []) (hx : Passes CX X E) :
    Works X f fun x H Q => sp [x] H Q E :=
  ⟨fun pins σ H s I => ⟨_, _, _, _, I.kIn _ _ lk⟩, fun pins σ H s x u Q I r h => run_fn (dvs := []) F hr hb .nil hx I (.cons r .nil) h⟩
/-- what cells held when the running frame began they hold still: nothing is asked of where they stand -/
theorem cells_later {cl : List (Str × Addr)} {fr : List Str} {ws : List (Option V)} {pins : List (Addr × Obj)} {σ : L2.St} {H : Hp} {s : Shared} (C : CellsAt cl fr ws X.s_0.heap X.H_0) (hex : X.ex = []) (I : Inv X pins σ H s) : CellsAt cl fr ws s.heap H := by
  have nx : ∀ c, c ∉ X.ex := fun c z => by
    rw [hex] at z
    cases z
  have kp : ∀ y c, cl.lookup y = some c → ∀ v, X.s_0.heap.IsCell c v → s.heap.IsCell c v := fun y c e v ⟨o, ho, hd⟩ => by
    obtain ⟨sl, q⟩ := I.base.any ho (C.all y c e).1 (nx c)
    exact ⟨_, q, hd⟩
  refine ⟨C.len, fun y c e => ?_, C.inj, fun i y e => ?_⟩
  · obtain ⟨n, v, z⟩ := C.all y c e
    refine ⟨?_, v, kp y c e v z⟩
    obtain ⟨o, ho, _⟩ := z
    exact I.base.free c o ho n (nx c)
  · obtain ⟨c, hc, hv⟩ := C.has i y e
    refine ⟨c, hc, fun v ev => ?_⟩
    obtain ⟨u, r, z⟩ := hv v ev
    exact ⟨u, r, kp y c hc _ z⟩
/-- a lambda's words, as of a nested def -/
def lamF (q : Str) (params : Arguments) (scope : Scope) (cl : List (Str × Addr)) (c' : Addr) : NF := ⟨"<lambda>", q, params, [], scope, cl, c'⟩
/-- a lambda of one parameter -/
theorem Works.of_lam {c' : Addr} {q p : Str} {params : Arguments} {body : Expr} {scope : Scope} {cl : List (Str × Addr)} {pm ctv : Value} {fr N : List Str} {ws : List (Option V)} {k : Nat} {tb : TE}
    (hf : X.s_0.heap.get? f = some (PySem.W.kla_obj "<lambda>" q params body scope cl pm c' ctv)) (hfn : X.H_0 f = none) (hfr : f ∉ X.fs) (hex : X.ex = []) (C : CellsAt cl fr ws X.s_0.heap X.H_0)
    (S : NScope N [p] fr scope) (hbind : ∀ u, bindArgs (PySem.W.kla_fn "<lambda>" q params body scope cl pm (.ref c') ctv) ⟨[u], []⟩ = pure [(p, u)]) (hr : Room (k + 1) X.A)
    (hbody : ∀ (A : Around) (outer : List Env) (s : Shared) (H : Hp), Room k (A.deeper (envF (lamF q params scope cl c') f s.heap.objs.size)) → PE (ncx C8.CX0 X.prog X.w X.K X.mg X.base N (lamF q params scope cl c') f A outer s H C8.E0) body tb) :
    Works X f fun x H Q => H c' = some (CodeO c' q) ∧ tb (startF N [x] ws) H Q := by
  have there : ∀ (pins : List (Addr × Obj)) (σ : L2.St) (H : Hp) (s : Shared), Inv X pins σ H s → s.heap.get? f = some (PySem.W.kla_obj "<lambda>" q params body scope cl pm c' ctv) := fun pins σ H s I => I.base.keep f _ hf hfn hfr (by rw [hex]; simp)
  refine ⟨fun pins σ H s I => ⟨_, _, _, _, there pins σ H s I⟩, fun pins σ H s x u Q I r h => ?_⟩
  obtain ⟨hc, ht⟩ := h
  have of1 := there pins σ H s I
  have rc : codeAny (model X.prog X.w) X.A (.call (.ref f) ⟨[u], []⟩) (CR C8.CX0 X.stack X.prog X.w H s Q C8.E0) s := by
    refine PySem.W.kla_callFunE hr.depth of1 rfl S.co S.gen rfl (codeO_at I.hok hc) ?_
    rw [hbind]
    refine wpAny_pure (wpAny_newFunctionEnv S.nocell (fun y hy => ?_) (fun h₁ hns hsb => ⟨I.nolimit.fresh _ hsb, ?_⟩) S.kind)
    · rcases List.mem_singleton.mp hy with rfl
      exact S.par p (by simp)
    show codeAny _ _ (.expr body (envF (lamF q params scope cl c') f s.heap.objs.size)) _ _
    have kp : ∀ b o, s.heap.get? b = some o → h₁.get? b = some o := fun b o e => hsb.extBut b o (Nat.ne_of_lt (Heap.lt_size e)) (Heap.get?_push_of_some _ e)
    have J : Inv (ncx C8.CX0 X.prog X.w X.K X.mg X.base N (lamF q params scope cl c') f X.A X.stack s H C8.E0) [] (startF N [x] ws) H { s with heap := h₁, toks := s.toks + [(p, u)].length } :=
      inv_startN (us := [u]) S hr.hd I.env0 rfl (.cons r .nil) (cells_later C hex I) hns kp
    refine PySem.W.kla_codeExpr (wpAny_mono ((hbody X.A X.stack s H (hr.deeper _)).run [] _ _ H Q J ht) (fun v s' hq => ?_) fun e s' hq => hq)
    obtain ⟨w', H', J', rv, q⟩ := hq
    exact ⟨w', H', J'.os, J'.bare, J'.base, J'.hok, rv, q⟩
  refine wpAny_call (codeAny_mono rc fun r s' hq => ?_)
  cases r with
  | error e => exact (show False from hq).elim
  | ok fl =>
    cases fl with
    | ret u => exact I.after hq
    | next => exact False.elim hq
    | brk => exact False.elim hq
    | cont => exact False.elim hq
/-! ### the lambda is made, handed to a method -/
/-- what the making leaves -/
structure Made (P : Addr) (q : Str) (H H1 : Hp) (f c' : Addr) : Prop where
  old : ∀ a o, H a = some o → a ≠ P → H1 a = some o
  th : ∀ a, H1 a = none → H a = none
  tab : TabS H1 P q
  fn : H1 f = none
  co : H1 c' = some (CodeO c' q)
theorem lam_make {c P : Addr} {params : Arguments} {body : Expr} {scope : Scope} {pos : Pos} {q : Str} {E : Value → Shared → Prop} {Q : Value → Shared → Prop} {pins : List (Addr × Obj)} {σ : L2.St} {H : Hp} {s : Shared} (I : Inv X pins σ H s) (TB : TabB X.base X.mg c P) (hcode : X.env.code = .ref c)
    (hq : X.env.qual ++ "<lambda>" = q) (hT : TabS H P q) (hdef : defaultsOf params X.env = ([], [])) (hfree : ∀ y ∈ scope.names, y.2 = .free → ∃ c, X.env.cells.lookup y.1 = some c)
    (h : ∀ (f c' : Addr) (pm ctv : Value) (H1 : Hp) (s' : Shared), Inv X pins σ H1 s' → Made P q H H1 f c' → s'.heap.get? f = some (PySem.W.kla_obj "<lambda>" q params body scope (cloFrom X.env.cells scope.names []) pm c' ctv) → f ∉ frs X.stack → Q (.ref f) s') :
    wpAny (model X.prog X.w) X.A (eval (.Lambda params body scope pos) X.env) Q E s := by
  subst hq
  obtain ⟨ps, hP, ht, ha⟩ := hT
  refine PySem.W.kla_eval hdef ?_
  have bP : s.heap.BuiltinsAt X.mg P := TB.bm.keeps I.bk
  have hP' : s.heap.get? P = some { cls := .none, data := .fields ps } := I.hok P _ hP
  have nofr : ∀ f, s.heap.objs.size ≤ f → f ∉ frs X.stack := fun f hf z => by
    rcases List.mem_cons.mp (I.stkSub _ z) with e | e
    · have h1 := I.lt
      rw [← e] at h1
      exact Nat.lt_irrefl _ (Nat.lt_of_lt_of_le h1 hf)
    · exact I.nofs hf e
  cases hc : codeAmong pos ps.toList with
  | none =>
    refine PySem.W.kla_makeFunction (mg := X.mg) (c := c) (P := P) (ps := ps) (closure_ok hfree) I.ok.glob (I.mod.glob.keeps I.bk) hcode (TB.code.keeps I.bk) hP' ht hc TB.gP bP fun c' ctv h' tk hx hge hlt hrec htb => ?_
    obtain ⟨c2, oc, vs, t, e2, hoc, hd, hv⟩ := hrec
    cases e2
    have hsz : s.heap.objs.size ≤ h'.objs.size := Nat.le_trans hge (Nat.le_of_lt hlt)
    have nC : H c' = none := I.hok.fresh hge
    have nPc : P ≠ c' := ne_of_none hP nC
    have I1 := inv_table (t' := tk) (more := #[rawInt pos.line, rawInt pos.col, .ref c']) (h' := h'.push (PySem.W.kla_obj "<lambda>" (X.env.qual ++ "<lambda>") params body scope (cloFrom X.env.cells scope.names []) ((X.mg "__name__").getD .none) c' ctv)) I hP
      (fun b o hb e => Heap.get?_push_of_some _ (hx b o hb e)) (Heap.get?_push_of_some _ htb) hge ⟨oc, vs, t, Heap.get?_push_of_some _ hoc, hd, hv⟩
    have hold : ∀ a o, H a = some o → a ≠ P → (upd (upd H P (.tbl (ps ++ #[rawInt pos.line, rawInt pos.col, .ref c']))) c' (CodeO c' (X.env.qual ++ "<lambda>"))) a = some o := fun a o e n => by
      rw [upd_ne (ne_of_none e nC), upd_ne n]
      exact e
    have eL : (ps ++ #[rawInt pos.line, rawInt pos.col, .ref c']).toList = ps.toList ++ [rawInt pos.line, rawInt pos.col, .ref c'] := by simp
    have hcodeNe : ∀ {c0 : Addr}, H c0 = some (CodeO c0 (X.env.qual ++ "<lambda>")) → c0 ≠ P := fun {c0} e z => by
      rw [z, hP] at e
      exact codeO_ne ps (Option.some.inj e).symm
    refine h h'.objs.size c' ((X.mg "__name__").getD .none) ctv _ _ I1 ⟨hold, fun a e => ?_, ⟨_, by rw [upd_ne nPc, upd_same], by rw [eL]; exact PySem.TriplesOk_snoc _ _ _ _ ht, fun p' cv hcv => ?_⟩, ?_, upd_same⟩ (Heap.get?_push_size _ rfl) (nofr _ hsz)
    · exact upd_none (upd_none e)
    · rw [eL] at hcv
      rcases among_app _ ht hcv with z | z
      · obtain ⟨c0, e1, e2⟩ := ha p' cv z
        exact ⟨c0, e1, hold _ _ e2 (hcodeNe e2)⟩
      · exact ⟨c', z, upd_same⟩
    · have n1 : h'.objs.size ≠ c' := Nat.ne_of_gt hlt
      have n2 : h'.objs.size ≠ P := Nat.ne_of_gt (Nat.lt_of_lt_of_le (Heap.lt_size hP') hsz)
      rw [upd_ne n1, upd_ne n2]
      exact I.hok.fresh hsz
  | some cv =>
    obtain ⟨c', e, hco⟩ := ha pos cv hc
    subst e
    refine PySem.W.kla_makeFunctionHit (mg := X.mg) (c := c) (P := P) (ps := ps) (closure_ok hfree) I.ok.glob (I.mod.glob.keeps I.bk) hcode (TB.code.keeps I.bk) hP' ht hc bP fun ctv h' tk hx hsz => ?_
    have I1 : Inv X pins σ H { s with heap := h'.push (PySem.W.kla_obj "<lambda>" (X.env.qual ++ "<lambda>") params body scope (cloFrom X.env.cells scope.names []) ((X.mg "__name__").getD .none) c' ctv), toks := tk } := I.kept fun b o e => Heap.get?_push_of_some _ (hx b o e)
    exact h h'.objs.size c' ((X.mg "__name__").getD .none) ctv H _ I1 ⟨fun a o e _ => e, fun a e => e, ⟨ps, hP, ht, ha⟩, I.hok.fresh hsz, hco⟩ (Heap.get?_push_size _ rfl) (nofr _ hsz)
/-- o.m(e1, lambda p: ..): the method's body is read with the lambda as its last parameter -/
def tGive (C : Addr) (m q : Str) (P : Addr) (Ng : List Str) (to t1 : TE) (sp1 : List (Option V) → Addr → V → Hp → VK → Prop) (js : List Nat) (tF : Addr → (V → Hp → VK → Prop) → TS) : TE := fun σ H Q => to σ H fun x H1 => ∃ a dx fs, x = .ref a ∧ H1 a = some (.ins C dx fs) ∧ fs.lookup m = none ∧
  t1 σ H1 fun y H2 => TabS H2 P q ∧ ∀ (f c' : Addr) (H3 : Hp), Made P q H2 H3 f c' → tF f (fun z H Q => H c' = some (CodeO c' q) ∧ sp1 (js.map (slotAt σ)) c' z H Q) { nx := fun _ H' => Q .non H', rt := Q } (L2.start Ng [.ref a, y, .ref f]) H3
theorem pe_give {C g c P : Addr} {m q p : Str} {o e1 body : Expr} {params : Arguments} {scope : Scope} {lpos apos pos : Pos} {to t1 : TE} {js : List Nat} {fr N Ng : List Str} {tF : Addr → (V → Hp → VK → Prop) → TS} {tb : TE} {k kf : Nat} {pl : Sem Bool}
    {name qual : Str} {pg : Arguments} {bg : List Stmt} {sg : Scope} {dV kV doc pm cdv ct oc : Value} {an od : Option Addr} {osl : Array (Option Value)}
    (he : PE X o to) (cl : Cls X.K C) (hm : Meth X.K C m g) (h1 : PE X e1 t1)
    (lk : X.K.lookup g = some ⟨oc, od, .func (PySem.W.fnOf name qual pg bg sg dV kV doc pm an cdv ct), osl⟩) (hcg : PySem.W.codeIn X.K cdv qual = true) (Sg : FnScope Ng ["self", "word", "work"] sg) (hb : L2.Binds X.K (PySem.W.fnOf name qual pg bg sg dV kV doc pm an cdv ct) ["self", "word", "work"] [])
    (TB : TabB X.base X.mg c P) (hcode : X.env.code = .ref c) (hq : X.env.qual ++ "<lambda>" = q) (hdef : defaultsOf params X.env = ([], [])) (hfree : ∀ y ∈ scope.names, y.2 = .free → X.env.scope.names.lookup y.1 = some .cell ∨ X.env.scope.names.lookup y.1 = some .free)
    (hfr : ∀ y ∈ fr, (y, NameKind.free) ∈ scope.names) (hjs : js.map (fun j => X.N[j]?) = fr.map some) (S : NScope N [p] fr scope) (hr : Room (kf + 1) X.A)
    (hbind : ∀ (q : Str) (cl : List (Str × Addr)) (pm cv ctv u : Value), bindArgs (PySem.W.kla_fn "<lambda>" q params body scope cl pm cv ctv) ⟨[u], []⟩ = pure [(p, u)])
    (hk : k + 1 ≤ kf)
    (hbody : ∀ (A : Around) (outer : List Env) (s : Shared) (H : Hp) (f c' : Addr), Room k (A.deeper (envF (lamF q params scope (cloFrom X.env.cells scope.names []) c') f s.heap.objs.size)) → PE (ncx C8.CX0 X.prog X.w X.K X.mg X.base N (lamF q params scope (cloFrom X.env.cells scope.names []) c') f A outer s H C8.E0) body tb)
    (hG : ∀ (A : Around) (outer : List Env) (s : Shared) (H : Hp) (f : Addr) (sp1 : V → Hp → VK → Prop), Room kf (A.deeper (envOfC qual sg s.heap.objs.size g cdv)) → Works (cxOf C8.CX0 X.prog X.w X.K X.mg X.base Ng qual sg g cdv A outer s H C8.E0) f sp1 → PSs (cxOf C8.CX0 X.prog X.w X.K X.mg X.base Ng qual sg g cdv A outer s H C8.E0) bg (tF f sp1))
    (ht : eval (.Call (.Attribute o m apos) [e1, .Lambda params body scope lpos] [] pos) X.env = (do
      let ov ← eval o X.env
      standAt apos.atName
      let (f, first) ← holding [ov] (getMethod ov m pl)
      callWith pos f first (backTo pos (starEach [e1, .Lambda params body scope lpos] X.env)) (backToKw pos (keywordEach [] X.env))) := by rfl)
    (hst : starEach [e1, .Lambda params body scope lpos] X.env = (false, eval e1 X.env) :: starEach [.Lambda params body scope lpos] X.env := by rfl) (hst2 : starEach [.Lambda params body scope lpos] X.env = [(false, eval (.Lambda params body scope lpos) X.env)] := by rfl) (hpl : (backTo pos (starEach [.Lambda params body scope lpos] X.env)).any (·.1) = false := by rfl) :
    PE X (.Call (.Attribute o m apos) [e1, .Lambda params body scope lpos] [] pos) (tGive C m q P Ng to t1 (fun ws _ z => tb (startF N [z] ws)) js tF) := by
  refine ⟨fun pins s σ H Q I h => ?_⟩
  refine PySem.W.methodCall_KW (pl := pl) (thn (he.run pins s σ H _ I h) fun u s1 ⟨x, H1, I1, rx, a, dx, fs, ex, ea, l, q1⟩ => ?_) ht
  subst ex
  obtain rfl : u = Value.ref a := rx
  refine getmeth_ok I1 ea cl hm l ?_
  refine PySem.W.callWith_K (first := [.ref a]) (h₀ := X.base) I.ok.mod.kin hm.kp ?_ hst hpl
  rw [hst, hst2]
  show wpAny _ _ (spliced ((false, eval e1 X.env) :: (false, eval (.Lambda params body scope lpos) X.env) :: [])) _ _ s1
  refine Calls.spliced_cons (thn (h1.run pins s1 σ H1 _ I1 q1) fun u1 s2 ⟨y, H2, I2, ry, hT, q2⟩ => ?_)
  have hfree' : ∀ y ∈ scope.names, y.2 = .free → ∃ c, X.env.cells.lookup y.1 = some c := fun y hy e => (hfree y hy e).elim (fun z => I2.ok.has _ (.inl z)) fun z => I2.ok.has _ (.inr z)
  refine Calls.spliced_cons (lam_make I2 TB hcode hq hT hdef hfree' fun f c' pm' ctv H3 s3 I3 M hf hnf => ?_)
  refine Calls.spliced_nil ⟨I3.kIn, ?_⟩
  show wpAny _ _ (call (.ref g) [.ref a, u1, .ref f]) _ _ _
  have rc : codeAny (model X.prog X.w) X.A (.call (.ref g) ⟨[.ref a, u1, .ref f], []⟩) (CR C8.CX0 X.stack X.prog X.w H3 s3 Q C8.E0) s3 := by
    refine run_ofS (N := Ng) (ps := ["self", "word", "work"]) (us := [.ref a, u1, .ref f]) (vs := [.ref a, y, .ref f]) lk hcg Sg hr I3.env0 (by simpa using hb s3 [.ref a, u1, .ref f] I3.kIn rfl) (.cons rfl (.cons ry (.cons rfl .nil))) rfl fun hr' => ?_
    refine ⟨_, hG X.A X.stack s3 H3 f _ hr' ?_, q2 f c' H3 M⟩
    have C3 : CellsAt (cloFrom X.env.cells scope.names []) fr (js.map (slotAt σ)) s3.heap H3 := cells_of I3 (Caps.made I3.ok hfree hfr hjs)
    exact Works.of_lam (k := k) hf M.fn hnf rfl C3 S (hbind _ _ _ _ _) (hr'.mono hk) fun A outer s H hr2 => hbody A outer s H f c' hr2
  refine wpAny_call (codeAny_mono rc fun r s4 hq => ?_)
  cases r with
  | error e => exact (show False from hq).elim
  | ok fl =>
    cases fl with
    | ret u => exact I3.after hq
    | next => exact False.elim hq
    | brk => exact False.elim hq
    | cont => exact False.elim hq
end
end K11

set_option Elab.async false
set_option linter.all false
set_option maxRecDepth 100000
set_option maxHeartbeats 4000000
/-! The end for a law whose def is run at the caller's own surroundings (callerA: no guard is held), with one table of code objects. -/
namespace K11
open PySem PySem.Spec PyProof.Rows L2 LamX
/-- the law's def, run at callerA -/
def RunLaw (P : Program) (w : World) (K : PySem.W.Frag) (mg : Str → Option Value) (fa t : Addr) (base : Heap) (ok : Hp → Addr → Prop) : Prop :=
  ∀ (H : Hp) (s : Shared) (a : Addr), Env0 P w K mg base callerA [] s H → H t = some (.tbl #[]) → (∀ b, H b ≠ none → b = a ∨ b = t) → ok H a →
    codeAny (model P w) callerA (.call (.ref fa) ⟨[.ref a], []⟩) (CR C8.CX0 [] P w H s (fun v _ => v = .bl true) (fun _ _ _ => False)) s
section
variable {P : Program} {w : World} {K : PySem.W.Frag} {mg mb : Str → Option Value} {fa a c t : Addr} {s₁ : Shared} {vs : List Value} {ns : List Int}
theorem law_run (KX : K.In s₁.heap) (hns : s₁.heap.Ns mainGlobals mg) (hb : s₁.heap.Ns builtinsNs mb) (hbb : ∀ x : Str, x ≠ "__name__" → mb x = bootBuiltins x) (hlim : s₁.heap.NoLimit) (hg : s₁.gens = #[])
    (hT : s₁.heap.get? t = some { cls := .none, data := .fields #[] }) (nT : K.lookup t = none) (C : PySem.W.CodeHd s₁.heap c t)
    (hbm : ∃ (bm : Addr) (ob : Obj), mg "__builtins__" = some (.ref bm) ∧ bm ≠ builtinsNs ∧ s₁.heap.get? bm = some ob ∧ ob.cls = .type "module" ∧ ob.dict = some builtinsNs ∧ ob.data = .plain)
    (ha : s₁.heap.get? a = some { cls := .type "list", data := .seq vs.toArray }) (hi : IntsAre vs ns) (hl : ns.length ≤ sizeLine)
    (F : ∀ base : Heap, K.In base → base.Ns mainGlobals mg → TabB base mg c t → RunLaw P w K mg fa t base fun H a => SqL K H a (ns.map V.int)) :
    codeAny (model P w) callerA (.call (.ref fa) ⟨[.ref a], []⟩) (fun r s' => r = .ok (.ret (.bool true)) ∧ OldK s₁.heap s'.heap ∧ s'.os = s₁.os ∧ AllBare s'.gens) s₁ := by
  have rv := vals_ints hi
  have lenV := hi.length
  have hat : a ≠ t := fun z => by
    rw [z, hT] at ha
    have z' : Data.fields #[] = Data.seq vs.toArray _ := congrArg Obj.data (Option.some.inj ha)
    cases z'
  have core : ∀ H : Hp, H t = some (.tbl #[]) → (∀ b, H b = none ∨ b = t ∨ ∃ o xs, H b = some (.frz o (.lst xs))) → SqL K H a (ns.map V.int) → HOk P w H s₁.heap → (∀ b, H b ≠ none → b = a ∨ b = t) → (H a ≠ none → K.lookup a = none) →
      codeAny (model P w) callerA (.call (.ref fa) ⟨[.ref a], []⟩) (fun r s' => r = .ok (.ret (.bool true)) ∧ OldK s₁.heap s'.heap ∧ s'.os = s₁.os ∧ AllBare s'.gens) s₁ := by
    intro H hH hO hS hok hA hK
    have base_of : ∀ {b : Addr} {o : Obj}, s₁.heap.get? b = some o → H b = none → (hidT s₁.heap H).get? b = some o := fun e n => hidT_get e n
    have free_of : ∀ {b : Addr} {o : Obj}, s₁.heap.get? b = some o → (∀ vs n, o.data ≠ .seq vs n) → o.data ≠ .fields #[] → H b = none := fun {b o} e h1 h2 => by
      cases q : H b with
      | none => rfl
      | some u =>
        rcases hA b (by rw [q]; simp) with e' | e'
        · rw [e', ha] at e
          cases e
          exact (h1 _ _ rfl).elim
        · rw [e', hT] at e
          cases e
          exact (h2 rfl).elim
    have nsK : ∀ {b : Addr} {m : Str → Option Value}, s₁.heap.Ns b m → (hidT s₁.heap H).Ns b m := fun {b m} ⟨o, es, ep, e, d, r⟩ => ⟨o, es, ep, base_of e (free_of e (fun vs n z => by
      rw [d] at z
      cases z) fun z => by
      rw [d] at z
      cases z), d, r⟩
    have hKb : K.In (hidT s₁.heap H) := fun b o e => base_of (KX b o e) (by
      cases q : H b with
      | none => rfl
      | some u =>
        rcases hA b (by rw [q]; simp) with e' | e'
        · rw [e'] at e q
          rw [hK (by rw [q]; simp)] at e
          cases e
        · rw [e', nT] at e
          cases e)
    have hM : L2.Mod K mg (hidT s₁.heap H) := ⟨hKb, nsK hns, ⟨mb, nsK hb, hbb⟩, let ⟨mc, h1, h2⟩ := hlim; ⟨mc, nsK h1, h2⟩⟩
    have TB : TabB (hidT s₁.heap H) mg c t := by
      refine ⟨?_, ?_, fun z => ?_⟩
      · obtain ⟨o, us, file, tf, flags, tg, inF, text, tt, e1, r1, r2, r3, r⟩ := C
        refine ⟨o, us, file, tf, flags, tg, inF, text, tt, base_of e1 (free_of e1 (fun vs n z => ?_) fun z => ?_), r1, r2, r3, r⟩
        · rw [r2] at z
          cases z
        · rw [r2] at z
          cases z
          simp at r3
      · obtain ⟨bm, ob, b1, b2, b3, b4, b5, b6⟩ := hbm
        refine ⟨bm, ob, b1, b2, fun q => ?_, fun q => ?_, base_of b3 (free_of b3 (fun vs n z => ?_) fun z => ?_), b4, b5, b6⟩
        · obtain ⟨o, es, ep, e, hd, _⟩ := hns
          rw [q, e] at b3
          cases b3
          rw [hd] at b6
          cases b6
        · rw [q, hT] at b3
          cases b3
          cases b6
        · rw [b6] at z
          cases z
        · rw [b6] at z
          cases z
      · obtain ⟨o, es, ep, e, hd, _⟩ := hns
        rw [z, hT] at e
        cases e
        cases hd
    have e0 : Env0 P w K mg (hidT s₁.heap H) callerA [] s₁ H := ⟨rfl, hM, fun b o e => of_hidT e, Nat.le_of_eq (hidT_size _ _), trivial, fun b hb => absurd (show b ∈ ([] : List Addr) from hb) (by simp), hok, .of_eq hg⟩
    refine codeAny_mono (F _ hKb (nsK hns) TB H s₁ a e0 hH hA hS) fun r s' h => ?_
    cases r with
    | error e => exact (show False from h).elim
    | ok fl =>
      cases fl with
      | next => exact False.elim h
      | brk => exact False.elim h
      | cont => exact False.elim h
      | ret u =>
        obtain ⟨v, H', os, bare, un, hok', r', q⟩ := h
        have q' : v = .bl true := q
        subst q'
        obtain rfl : u = Value.bool true := r'
        have key : ∀ b o, b ≠ t → s₁.heap.get? b = some o → s'.heap.get? b = some o := fun b o nb e => by
          cases q : H b with
          | none => exact un.keep b o e q (by intro z; exact absurd (show b ∈ ([] : List Addr) from z) (by simp)) (by simp)
          | some u =>
            rcases hO b with z | z | ⟨ob, xs, z⟩
            · rw [q] at z
              cases z
            · exact absurd z nb
            · have z2 := un.frzs b ob _ z
              obtain ⟨e1, _⟩ := hok b _ z
              obtain ⟨e2, _⟩ := hok' b _ z2
              rw [e] at e1
              cases e1
              exact e2
        obtain ⟨more, hmore⟩ : ∃ more : Array Value, s'.heap.get? t = some { cls := .none, data := .fields more } := by
          obtain ⟨more, z⟩ := un.tbls t #[] hH
          exact ⟨_, hok' t _ z⟩
        refine ⟨rfl, ⟨fun b o e => ?_, fun b o e => ?_⟩, os, bare⟩
        · by_cases hb : b = t
          · rw [hb, hT] at e
            cases e
            exact .inr (.inl ⟨by rw [hb]; exact (C.tab hT).isCodeTable, rfl, #[], more, rfl, by rw [Array.empty_append, hb]; exact hmore⟩)
          · exact .inl (key b o hb e)
        · by_cases hb : b = t
          · rw [hb]
            exact ⟨_, hmore⟩
          · exact ⟨o, key b o hb e⟩
  cases hk : K.lookup a with
  | some o =>
    have e := KX a o hk
    rw [ha] at e
    cases e
    refine core (fun b => if b = t then some (.tbl #[]) else none) (if_pos rfl) (fun b => ?_) (.inr ⟨_, vs.toArray, _, hk, rfl, rfl, rfl, by rw [List.size_toArray, lenV]; exact hl, by simpa using rv⟩) (fun b u z => ?_) (fun b z => ?_) fun z => absurd (show (if a = t then some (HO.tbl #[]) else none) = none from if_neg hat) z
    · by_cases hb : b = t
      · exact .inr (.inl hb)
      · exact .inl (if_neg hb)
    · by_cases hb : b = t
      · have z' := (if_pos hb).symm.trans z
        cases z'
        rw [hb]
        exact hT
      · have z' := (if_neg hb).symm.trans z
        cases z'
    · by_cases hb : b = t
      · exact .inr hb
      · exact absurd (if_neg hb) z
  | none =>
    refine core (fun b => if b = a then some (.frz { cls := .type "list", data := .seq vs.toArray } (.lst (ns.map V.int))) else if b = t then some (.tbl #[]) else none) ((if_neg (show ¬ t = a from fun z => hat z.symm)).trans (if_pos rfl)) (fun b => ?_)
      (.inl (.inr ⟨{ cls := .type "list", data := .seq vs.toArray }, if_pos rfl⟩)) (fun b u z => ?_) (fun b z => ?_) fun _ => hk
    · by_cases hb : b = a
      · exact .inr (.inr ⟨_, _, if_pos hb⟩)
      · by_cases hb2 : b = t
        · exact .inr (.inl hb2)
        · exact .inl ((if_neg hb).trans (if_neg hb2))
    · by_cases hb : b = a
      · have z' := (if_pos hb).symm.trans z
        cases z'
        rw [hb]
        exact ⟨ha, by rw [List.length_map]; exact hl, vs, _, rv, ha⟩
      · have z1 := (if_neg hb).symm.trans z
        by_cases hb2 : b = t
        · have z' := (if_pos hb2).symm.trans z1
          cases z'
          rw [hb2]
          exact hT
        · have z' := (if_neg hb2).symm.trans z1
          cases z'
    · by_cases hb : b = a
      · exact .inl hb
      · by_cases hb2 : b = t
        · exact .inr hb2
        · exact absurd ((if_neg hb).trans (if_neg hb2)) z
end
theorem walk_end {l : PySem.W.OpenLaw} {n : Nat} {q : Program} {loose : List Str} {XP : (Str → Option Value) → Heap → Prop} {YP : World → Heap → Prop} {d : DefRec}
    (hn : l.most = some n) (hn2 : n ≤ sizeLine) (hdf : d.params.defaults = [])
    (F : ∀ (w : World) (mg : Str → Option Value) (fa : Addr) (h : Heap), YP w h → h.Ns mainGlobals mg → mg d.name = some (.ref fa) → ∃ (K : PySem.W.Frag) (c t : Addr), K.In h ∧ h.get? t = some { cls := .none, data := .fields #[] } ∧ K.lookup t = none ∧ PySem.W.CodeHd h c t ∧
      ∀ (base : Heap) (ns : List Int), ns.length ≤ n → (∀ z ∈ ns, Builtin.Int.intBits z ≤ 1048576) → K.In base → base.Ns mainGlobals mg → TabB base mg c t → RunLaw l.prog w K mg fa t base fun H a => SqL K H a (ns.map V.int)) :
    PySem.W.WalkO q loose XP YP l.row.toRowW d [] (fun f vs => PySem.call f vs) := by
  refine Att.attach_callB hn hdf fun w s₀ s₁ mg mb fa o pm cd doc a vs ns G Y ho hd hcd hmg hobj hints hlen hbits hg => ?_
  obtain ⟨K, c, t, KX, hT, nT, C, hF⟩ := F w mg fa _ Y G.T.g hmg
  exact law_run KX G.T.g G.T.b G.T.builtins G.T.nolimit hg hT nT C G.T.bmain hobj hints (Nat.le_trans hlen hn2) fun base hK hN TB => hF base ns hlen hbits hK hN TB
end K11

set_option Elab.async false
set_option linter.all false
set_option maxRecDepth 100000
set_option maxHeartbeats 4000000
/-! {key: value for target in iter}: the new dict's keys are data (tuples, texts), each key once. -/
namespace K11
open PySem PySem.Spec PyProof.Rows L2
/-- D[key] = value on the abstract heap, the key not there yet -/
def mixPut (K : PySem.W.Frag) (w : World) (D : Addr) (y z : V) (H : Hp) (R : Hp → Prop) : Prop :=
  ∃ (xs : List MixV) (kd : PyData), MixAt K w H D xs ∧ MixD kd ∧ Dp K H y kd ∧ mixV xs (nkey kd) = none ∧ xs.length < sizeLine ∧ R (upd H D (mixO w D (xs ++ [(kd, y, z)])))
/-- the reading: D the new dict -/
def tDcM (K : PySem.W.Frag) (w : World) (wi : TI) (g : TG) (tk tv : TE) (vs : List Nat) : TE := fun σ H Q => wi σ H fun J H1 => ∀ D, H1 D = none → ∃ W : Nat → Nat → Hp → Prop, (∃ m, W 0 m (upd H1 D (mixO w D []))) ∧ ∀ i m H, W i m H →
  (J.stop i H ∧ Q (.ref D) H) ∨ (J.go i H ∧ ∃ Nx : Hp → Prop, (∀ H', Nx H' → ∃ m', m' < m ∧ W (i + 1) m' H') ∧
    ∀ x H', J.yld i H x H' → g x (wipe σ vs) H' fun σ2 H2 => wipe σ2 vs = wipe σ vs ∧ tk σ2 H2 fun y H3 => tv σ2 H3 fun z H4 => mixPut K w D y z H4 Nx)
section
variable {X : Cx}
theorem mix_dictSet {pins : List (Addr × Obj)} {σ : L2.St} {H : Hp} {s : Shared} {E : Value → Shared → Prop} {D : Addr} {y z : V} {u r : Value} {R : Hp → Prop} {Q : Unit → Shared → Prop} (hu : X.A.units + 64 < cLine) (I : Inv X pins σ H s) (m : mixPut X.K X.w D y z H R)
    (ry : RelV y u) (rz : RelV z r) (h : ∀ s' H', Inv X pins σ H' s' → R H' → Q () s') : wpAny (model X.prog X.w) X.A (dictSet D u r) Q E s := by
  obtain ⟨xs, kd, m, md, hd, hn, hl, q⟩ := m
  obtain ⟨hz, hsm, ys, rl, mo⟩ := mix_open I m
  have hno : nkey kd ∉ ys.map (·.1) := by
    rw [mix_keys rl]
    intro z
    obtain ⟨e, he, ek⟩ := List.mem_map.mp z
    unfold mixV at hn
    cases hf : xs.find? fun x => decide (nkey x.1 = nkey kd) with
    | none =>
      have y := List.find?_eq_none.mp hf e he
      simp [ek] at y
    | some e' =>
      rw [hf] at hn
      cases hn
  refine mix_set (by omega) (mixKey_of I hd md ry) mo hno (by rw [← Paired.length rl]; exact hz) fun h' mo' hs' => ?_
  obtain ⟨o', es, ep, h1, h2, h3, h4, _, h5⟩ := mo'
  refine h _ _ (I.write (x := D) (e := D) (o := mixO X.w D (xs ++ [(kd, y, z)])) (by rw [m.at_]; exact True.intro) (.inl rfl) (fun b q hb z => (hs'.2 b hb).trans z) ⟨o', h1⟩ ?_) q
  exact mixO_ok (by rw [List.length_append]; show xs.length + 1 ≤ sizeLine; omega) hsm (Paired.snoc' rl ⟨rfl, ry, rz⟩) h1 h2 h3 h4 h5
/-- what the blocks of a comprehension want of a part -/
abbrev AllBlk (X : Cx) (scope : Scope) (P : Cx → Prop) : Prop := ∀ (s : Shared) (H : Hp) (C : Addr) (cl : List (Str × Addr)) (fp : List Addr), P (X.blk s H scope (compEnvC scope cl C X.env) fp)
theorem pe_dcM {kx vx tg iter : Expr} {scope : Scope} {own : List (Str × Nat)} {pos : Pos} {wi : TI} {g : TG} {tk tv : TE} (hu : X.A.units + 64 < cLine) (hc : X.calm = true) (hN : X.N.Nodup) (hi : PI X tg iter wi) (ok : BlkOk X.N X.env.scope scope own)
    (hg : AllBlk X scope fun Y => PG Y tg g) (hk : AllBlk X scope fun Y => PE Y kx tk) (hv : AllBlk X scope fun Y => PE Y vx tv) (hs : ∀ x, foldedSetIterable iter X.env x = pure x := by intro _; rfl) :
    PE X (.DictComp kx vx [⟨tg, iter, [], 0⟩] scope pos) (tDcM X.K X.w wi g tk tv (own.map (·.2))) := by
  refine ⟨fun pins s σ H Q I h => ?_⟩
  rw [arm_eval_DictComp]
  have hfree : ∀ y ∈ scope.names, y.2 = .free → ∃ c, X.env.cells.lookup y.1 = some c := fun y hy e => (ok.free y hy e).elim (fun k => I.ok.has _ (.inl k)) fun k => I.ok.has _ (.inr k)
  refine wpAny_comprehension_free rfl hs (closure_ok hfree) ok.kind (fun y hy e => by rw [ok.uniq y hy, e]) (thn (hi.run pins s σ H _ I h) fun xv s1 hx => thn hx fun itv s2 h2 => ?_)
  obtain ⟨it, fp, tn, J, H2, e, I2, T, st2, f2, q⟩ := h2
  subst e
  refine wpAny_newObj_type (newEnv_comp ?_)
  generalize hD : s2.heap.objs.size = D
  obtain ⟨W, ⟨m0, w0⟩, turn⟩ := q D (I2.hok.fresh (Nat.le_of_eq hD))
  generalize hs3 : ({ s2 with heap := s2.heap.push { cls := .type "dict", data := .dict #[] } } : Shared) = s3
  have h3 : s3.heap = s2.heap.push { cls := .type "dict", data := .dict #[] } := by rw [← hs3]
  have I3 : Inv X pins σ (upd H2 D (mixO X.w D [])) s3 := by
    rw [← hs3]
    refine I2.laid (t' := s2.toks) (fun b o e => Heap.get?_push_of_some _ e) (Nat.le_of_eq hD) ?_
    rw [← hD]
    exact mixO_ok (ys := []) (Nat.zero_le _) (beq_eq_false_iff_ne.mpr (Ne.symm (Nat.ne_of_lt I2.big))) .nil (Heap.get?_push_size _ rfl) ⟨rfl, rfl, rfl⟩ rfl rfl List.nodup_nil
  have f3 : ∀ b ∈ fp, FpOk X pins (upd H2 D (mixO X.w D [])) b ∧ b < s3.heap.objs.size := fun b hb => by
    obtain ⟨o, e, _⟩ := T.obj _ _ st2 b hb
    have hlt := Heap.lt_size e
    refine ⟨⟨?_, (f2 b hb).2⟩, by rw [h3, Heap.size_push]; exact Nat.lt_succ_of_lt hlt⟩
    rw [upd_ne (by rw [← hD]; exact Nat.ne_of_lt hlt)]
    exact (f2 b hb).1
  have st3 : tn 0 s3.heap := T.keep _ _ _ st2 fun b _ o e => by rw [h3]; exact Heap.get?_push_of_some _ e
  have I4 := block_start I3 ok hN f3
  have pg := hg s3 (upd H2 D (mixO X.w D [])) s3.heap.objs.size (cellsFrom (s3.heap.objs.size + 1) scope.names (cloFrom X.env.cells scope.names [])) fp
  have pk := hk s3 (upd H2 D (mixO X.w D [])) s3.heap.objs.size (cellsFrom (s3.heap.objs.size + 1) scope.names (cloFrom X.env.cells scope.names [])) fp
  have pv := hv s3 (upd H2 D (mixO X.w D [])) s3.heap.objs.size (cellsFrom (s3.heap.objs.size + 1) scope.names (cloFrom X.env.cells scope.names [])) fp
  show codeAny _ _ (.compStart (.DictComp kx vx [⟨tg, iter, [], 0⟩] scope pos) 0 (.ref it) (.ref D) (compEnvC scope (cellsFrom (s3.heap.objs.size + 1) scope.names (cloFrom X.env.cells scope.names [])) s3.heap.objs.size X.env)) (compPost (model X.prog X.w) X.A X.xe none (EP X pins σ Q) (.ref D) s3.heap.objs.size) { s3 with heap := pushCells (s3.heap.push { cls := .type "dict", data := .dict #[] }) scope.names }
  have nfp : ∀ b ∈ fp, (upd H2 D (mixO X.w D [])) b = none := fun b hb => (f3 b hb).1.1
  generalize hce : compEnvC scope (cellsFrom (s3.heap.objs.size + 1) scope.names (cloFrom X.env.cells scope.names [])) s3.heap.objs.size X.env = ce at I4 pg pk pv ⊢
  have cL : ce.locals = s3.heap.objs.size := by
    subst hce
    rfl
  generalize hH3 : upd H2 D (mixO X.w D []) = H3 at I3 I4 pg pk pv w0 nfp f3
  generalize hs4 : ({ s3 with heap := pushCells (s3.heap.push { cls := .type "dict", data := .dict #[] }) scope.names } : Shared) = s4 at I4 ⊢
  have st4 : tn 0 s4.heap := T.keep _ _ _ st3 fun b _ o e => by
    rw [← hs4]
    exact pushCells_keeps _ _ _ _ (Heap.get?_push_of_some _ e)
  have stat : ∀ {σ' : L2.St} {H' : Hp} {s' : Shared}, Inv (X.blk s3 H3 scope ce fp) [] σ' H' s' → (∀ b ∈ fp, H' b = none) → ∀ b ∈ fp, FpOk (X.blk s3 H3 scope ce fp) [] H' b := fun {σ' H' s'} I' hn b hb =>
    ⟨hn b hb, (I'.ok.exf b hb).1, I'.ok.exfs b hb, .inl hb, fun x c e => (I'.ok.exf b hb).2 x c e, fun p hp => absurd (show p ∈ ([] : List (Addr × Obj)) ++ [] from hp) (by simp)⟩
  have loop : codeAny (model X.prog X.w) X.A (.compLoop (.DictComp kx vx [⟨tg, iter, [], 0⟩] scope pos) 0 (.ref it) (.ref D) ce) (compPost (model X.prog X.w) X.A X.xe none (EP X pins σ Q) (.ref D) s3.heap.objs.size) s4 := by
    refine compLoop_anyD (fun n s' => ∃ i H', Inv (X.blk s3 H3 scope ce fp) [] (wipe σ (own.map (·.2))) H' s' ∧ tn i s'.heap ∧ (∀ b ∈ fp, H' b = none) ∧ W i n H') ?_ m0 ⟨0, H3, I4, st4, nfp, w0⟩
    rintro n s5 ⟨i, H5, I5, st5, n5, w5⟩
    rcases turn i n H5 w5 with ⟨stop, qq⟩ | ⟨go, Nx, hNx, step⟩
    · refine thnF (T.done (X.blk s3 H3 scope ce fp) rfl rfl rfl hc i [] s5 _ H5 (fun _ _ => False) I5 (stat I5 n5) st5 stop) fun r s6 ⟨hr, I6⟩ => ?_
      subst hr
      have I7 : Inv X pins σ H5 s6 := I3.call' (ch := fp) I6.os I6.base I6.hok I6.bare fun b hb => ⟨(f3 b hb).1.2.2.2.1, (f3 b hb).1.2.1, (f3 b hb).1.2.2.2.2.1, (f3 b hb).1.2.2.2.2.2⟩
      have nC : H5 s3.heap.objs.size = none := by
        have z : H5 ce.locals = none := I6.free
        rw [cL] at z
        exact z
      obtain ⟨m, hn, _⟩ := I6.loc
      have hn : s6.heap.Ns ce.locals m := hn
      rw [cL] at hn
      obtain ⟨g0, g1, g2, g3, g4, g5⟩ := I3.fpOk (Nat.le_refl _) nC
      exact ⟨m, hn, fun h'' sb => ⟨.ref D, H5, I7.turned (t' := s6.toks) (fun b o hb e => (sb.2 b hb).trans e) g0 g1 g3 g4 g5, rfl, qq⟩⟩
    · refine thnF (T.item (X.blk s3 H3 scope ce fp) rfl rfl rfl hc i [] s5 _ H5 (fun _ _ => False) I5 (stat I5 n5) st5 go) fun r s6 ⟨u, hr, h6⟩ => ?_
      subst hr
      refine thnF h6 fun _ s7 ⟨x, H7, I7, r7, y7, st7, n7⟩ => ?_
      have I7' := I7.pinned (stat I7 n7) (T.obj _ _ st7)
      refine thnF (pg.run _ s7 _ H7 x u _ I7' r7 (step x H7 y7)) fun _ s8 ⟨σ8, H8, I8, hw8, q8⟩ => ?_
      have fin : ∀ {s' : Shared} {H' : Hp}, Inv (X.blk s3 H3 scope ce fp) ([] ++ pinsAt fp s7.heap) σ8 H' s' → Nx H' → ∃ m, m < n ∧ ∃ i H', Inv (X.blk s3 H3 scope ce fp) [] (wipe σ (own.map (·.2))) H' s' ∧ tn i s'.heap ∧ (∀ b ∈ fp, H' b = none) ∧ W i m H' := fun {s' H'} I' nx => by
        obtain ⟨m', hm, w'⟩ := hNx H' nx
        have pin' : ∀ b ∈ fp, ∀ o, s7.heap.get? b = some o → s'.heap.get? b = some o ∧ H' b = none := fun b hb o e =>
          let z := I'.pin (b, o) (List.mem_append_right _ (List.mem_append_right _ (mem_pinsAt hb e)))
          ⟨z.1, z.2.1⟩
        have hl : (wipe σ (own.map (·.2))).length = σ8.length := by rw [← hw8, wipe_length]
        refine ⟨m', hm, i + 1, H', (I'.unpinned (pins := [])).weak hl (fun j v e => ?_), T.keep _ _ _ st7 fun b hb o e => (pin' b hb o e).1, fun b hb => ?_, w'⟩
        · rw [← hw8] at e
          exact (wipe_some e).1
        · obtain ⟨o, e, _⟩ := T.obj _ _ st7 b hb
          exact (pin' b hb o e).2
      refine wpAny_pure ?_
      rw [if_pos rfl]
      refine thnF (pk.run _ s8 σ8 H8 _ I8 q8) fun z s10 ⟨yk, H10, I10, r10, q10⟩ => ?_
      refine thnF (pv.run _ s10 σ8 H10 _ I10 q10) fun z2 s11 ⟨yv, H11, I11, r11, mp⟩ => ?_
      exact mix_dictSet (X := X.blk s3 H3 scope ce fp) hu I11 mp r10 r11 fun s12 H12 I12 nx => fin I12 nx
  exact codeAny_compStart_dict loop (T.self X.A 0 _ _ _ st4 loop)
end
end K11

set_option Elab.async false
set_option linter.all false
set_option maxRecDepth 100000
set_option maxHeartbeats 4000000
/-! sorted: of a list of tuples of whole numbers (any number of them), of a dict whose keys are such tuples. -/
namespace K11
open PySem PySem.Spec PyProof.Rows L2
section
variable {prog : Program} {w : World} {A : Around} {E : Value → Shared → Prop} {s : Shared}
abbrev noStr : Nat → Bool := fun _ => false
/-- the list is collected, then sorted -/
theorem sorted_from {r : Addr} {fsOf : Heap → List Value → Prop} {Q : Value → Shared → Prop}
    (hc : ∀ (R : List Value → Shared → Prop), (∀ (h' : Heap) (tk : Nat) (vs : List Value), (∀ b o, s.heap.get? b = some o → h'.get? b = some o) → fsOf h' vs → R vs { s with heap := h', toks := tk }) → wpAny (model prog w) A.in1 (collect (.ref r)) R E s)
    (hf : ∀ h' vs, fsOf h' vs → (∃ fs, TupsOf h' noStr vs fs) ∧ (∀ v ∈ vs, ∃ l, G.tupKeyC h' noStr v = some l) ∧ vs.length ≤ sizeLine)
    (h : ∀ (h' : Heap) (tk : Nat) (vs : List Value) (out : List Value) (h2 : Heap) (p : Addr) (ep : Nat), (∀ b o, s.heap.get? b = some o → h'.get? b = some o) → fsOf h' vs → out.Perm vs → (∀ b o, h'.get? b = some o → h2.get? b = some o) → h'.objs.size ≤ p → h2.get? p = some (seqObj "list" out.toArray ep) →
      Q (.ref p) { s with heap := h2, toks := tk }) :
    wpAny (model prog w) A (call (.builtin "sorted") [.ref r]) Q E s := by
  refine Calls.call_function_entry kind_sorted plain_sorted entry_sorted (args_sorted1 _) ?_
  unfold Builtin.«sorted»
  refine wpAny_bind (m := checkCount "sorted" 1 1 _) (wpAny_pure ?_)
  refine wpAny_bind (hc _ fun h' tk vs kp hfs => ?_)
  obtain ⟨⟨fs, ht⟩, hk, hL⟩ := hf h' vs hfs
  refine wpAny_bind (wpAny_newList ?_ (by rw [sizeLine_eq] at hL ⊢; omega))
  show wpAny _ _ _ _ _ { s with heap := h'.push (seqObj "list" vs.toArray 0), toks := tk }
  have hoL : (h'.push (seqObj "list" vs.toArray 0)).get? h'.objs.size = some (seqObj "list" vs.toArray 0) := Heap.get?_push_size _ rfl
  have k0 : G.KeepsTups h' (h'.push (seqObj "list" vs.toArray 0)) := G.KeepsTups.push _ _
  have hk2 : ∀ v, v ∈ vs → ∃ l, G.tupKeyC (h'.push (seqObj "list" vs.toArray 0)) noStr v = some l := fun v hv => by
    obtain ⟨l, e⟩ := hk v hv
    refine ⟨l, ?_⟩
    obtain ⟨a, o, xs, n, rfl, ho, hcl, hd, hi⟩ := G.tupKeyC_some e
    have ho2 := k0 a o ho hcl
    simp only [G.tupKeyC, G.isTupObj, tupKey, ho2, hcl, hd]
    simpa using hi
  refine wpAny_bind (wpAny_holding (wpAny_call_entry slot_list_sort ⟨_, hoL, rfl⟩ entry_list_sort (G.list_sort_tups (s := { s with heap := h'.push (seqObj "list" vs.toArray 0), toks := tk }) hoL (G.TupsOf.keep k0 ht) hk2 hL fun st' a1 _ _ => ⟨_, rfl, ?_⟩) (args_list_sort _)))
  have hlt : h'.objs.size < (h'.push (seqObj "list" vs.toArray 0)).objs.size := by
    rw [size_push']
    exact Nat.lt_succ_self _
  have hold : ∀ b o, h'.get? b = some o → (sortedHeap (h'.push (seqObj "list" vs.toArray 0)) h'.objs.size vs ((arrOf st').map (·.2))).get? b = some o := fun b o e => by
    have hb := Heap.lt_size e
    rw [sortedHeap_old (Nat.ne_of_lt hb) (Nat.lt_trans hb hlt)]
    exact Heap.get?_push_of_some _ e
  obtain ⟨ep, hat⟩ := sortedHeap_at (n := 0) (vs := vs) (out := (arrOf st').map (·.2)) hoL
  have hp : ((arrOf st').map (·.2)).toList.Perm vs := by
    have q := (Array.perm_iff_toList_perm.mp a1).map Prod.snd
    rw [pairsOf_toList] at q
    rw [Array.toList_map]
    have e : (vs.zip vs).map Prod.snd = vs := by rw [List.map_snd_zip (Nat.le_refl _)]
    rw [e] at q
    exact q
  exact wpAny_pure ⟨_, rfl, h h' tk vs _ _ _ ep kp hfs hp hold (Nat.le_refl _) (by rw [Array.toArray_toList]; exact hat)⟩
theorem tup_obj {h : Heap} {t : Addr} {n : Int} {ns : List Int} {its : List Value} (hI : IntsAre its (n :: ns)) (ht : IsTup h t its.toArray) : (∃ f, TupOf h noStr (.ref t) f) ∧ ∃ l, G.tupKeyC h noStr (.ref t) = some l := by
  obtain ⟨⟨cls, dd, dt, sl⟩, ho, hc, m, hd⟩ := ht
  simp only at hc hd
  subst hc hd
  cases hI with
  | @cons _ tk _ us r =>
    refine ⟨⟨.int n tk, t, _, _, m, rfl, ho, rfl, rfl, by simp, fun _ => ⟨n, tk, rfl⟩, fun e => by cases e⟩, ?_⟩
    refine ⟨(n :: ns).map Sum.inl, ?_⟩
    simp only [G.tupKeyC, G.isTupObj, tupKey, ho]
    simpa using tupItems_ints 0 (IntsAre.cons n tk r)
theorem tups_all {h : Heap} : ∀ {us : List Value}, (∀ u ∈ us, (∃ f, TupOf h noStr u f) ∧ ∃ l, G.tupKeyC h noStr u = some l) → (∃ fs, TupsOf h noStr us fs) ∧ ∀ v ∈ us, ∃ l, G.tupKeyC h noStr v = some l
  | [], _ => ⟨⟨[], .nil⟩, fun v hv => by cases hv⟩
  | u :: us, h => by
    obtain ⟨⟨f, h1⟩, h2⟩ := h u List.mem_cons_self
    obtain ⟨⟨fs, h3⟩, h4⟩ := tups_all fun v hv => h v (List.mem_cons_of_mem _ hv)
    refine ⟨⟨f :: fs, .cons h1 h3⟩, fun v hv => ?_⟩
    rcases List.mem_cons.mp hv with e | hv
    · rw [e]
      exact h2
    · exact h4 v hv
end
section
variable {X : Cx} {pins : List (Addr × Obj)} {σ : L2.St} {H : Hp} {s : Shared}
/-- a tuple of whole numbers, not empty, tracked or written -/
def IntT' (K : PySem.W.Frag) (H : Hp) (x : V) : Prop := ∃ (a : Addr) (n : Int) (ns : List Int), x = .ref a ∧ SqT K H a ((n :: ns).map V.int)
theorem intT_raw (I : Inv X pins σ H s) {x : V} {u : Value} (h : IntT' X.K H x) (r : RelV x u) : (∃ f, TupOf s.heap noStr u f) ∧ ∃ l, G.tupKeyC s.heap noStr u = some l := by
  obtain ⟨t, n, ns, rfl, ht⟩ := h
  obtain rfl : u = Value.ref t := r
  obtain ⟨its, rv, hT, _⟩ := I.tuple ht
  exact tup_obj rv.ints hT
theorem intT_all (I : Inv X pins σ H s) : ∀ {xs : List V} {us : List Value}, Vals xs us → (∀ x ∈ xs, IntT' X.K H x) → ∀ u ∈ us, (∃ f, TupOf s.heap noStr u f) ∧ ∃ l, G.tupKeyC s.heap noStr u = some l
  | _, _, .nil, _ => fun u hu => by cases hu
  | x :: xs, _ :: us, .cons r t, h => fun u hu => by
    rcases List.mem_cons.mp hu with e | hu
    · rw [e]
      exact intT_raw I (h x List.mem_cons_self) r
    · exact intT_all I t (fun y hy => h y (List.mem_cons_of_mem _ hy)) u hu
/-- a tracked object is there -/
theorem obj_here {P : Program} {w : World} {H : Hp} {h : Heap} {a : Addr} {o : HO} (x : ObjOk P w H h a o) : ∃ ob, h.get? a = some ob := by
  cases o with
  | lst xs =>
    obtain ⟨_, _, _, _, e⟩ := x
    exact ⟨_, e⟩
  | tup xs =>
    obtain ⟨_, _, _, p⟩ := x
    obtain ⟨o, e, _⟩ := p
    exact ⟨o, e⟩
  | dK kvs =>
    obtain ⟨_, _, _, _, o, _, _, e, _⟩ := x
    exact ⟨o, e⟩
  | dT kvs =>
    obtain ⟨_, _, _, _, o, _, _, e, _⟩ := x
    exact ⟨o, e⟩
  | set S n =>
    obtain ⟨o, _, _, _, e, _⟩ := x
    exact ⟨o, e⟩
  | ins C dx fs =>
    obtain ⟨_, _, _, e, _⟩ := x
    exact ⟨_, e⟩
  | own y => exact x
  | xd fs =>
    obtain ⟨_, ⟨o, _, _, e, _⟩, _⟩ := x
    exact ⟨o, e⟩
  | rng lo hi =>
    obtain ⟨_, _, _, e⟩ := x
    exact ⟨_, e⟩
  | frz ob u =>
    obtain ⟨e, _⟩ := x
    exact ⟨_, e⟩
  | tbl ps => exact ⟨_, x⟩
  | met f y => exact ⟨_, x⟩
  | ext φ =>
    obtain ⟨_, e, _⟩ := x
    exact e
/-- a new object is laid at a place that was free -/
theorem laid_free {a : Addr} {o : HO} {h' : Heap} {t' : Nat} (I : Inv X pins σ H s) (k : ∀ b u, s.heap.get? b = some u → h'.get? b = some u) (hp : s.heap.get? a = none) (new : ObjOk X.prog X.w (upd H a o) h' a o) :
    H a = none ∧ Inv X pins σ (upd H a o) { s with heap := h', toks := t' } := by
  have hn : H a = none := by
    cases z : H a with
    | none => rfl
    | some u =>
      obtain ⟨ob, e⟩ := obj_here (I.hok a u z)
      rw [hp] at e
      cases e
  refine ⟨hn, I.un (t' := t') ⟨fun b u q _ _ _ => k b u q, fun b u q _ _ _ => ⟨u.slots, k b u q⟩, fun b u q n _ => ?_, fun b u q _ => ⟨u, k b u q⟩, fun b xs q => ?_, fun b u xs q => ?_, fun b ps q => ⟨#[], ?_⟩⟩ fun b u e => ?_⟩
  · rw [upd_ne fun z => by
      rw [z, hp] at q
      cases q]
    exact n
  · rw [upd_ne (ne_of_none q hn)]
    exact q
  · rw [upd_ne (ne_of_none q hn)]
    exact q
  · rw [upd_ne (ne_of_none q hn), q]
    simp
  · by_cases hb : b = a
    · subst hb
      rw [upd_same] at e
      cases e
      exact new
    · rw [upd_ne hb] at e
      exact (I.hok b u e).stay (fun c v _ q => k c v q) (fun c q => by
        rw [upd_ne (ne_of_none q hn)]
        exact q) fun c xs q => by
        rw [upd_ne (ne_of_none q hn)]
        exact q
/-- sorted(xs), xs a list of such tuples: a new list of the same -/
def rSortL (K : PySem.W.Frag) : List V → Hp → VK → Prop := fun vs H Q => ∃ (a : Addr) (xs : List V), vs = [V.ref a] ∧ SqL K H a xs ∧ (∀ x ∈ xs, IntT' K H x) ∧ ∀ (ys : List V) (p : Addr), ys.Perm xs → H p = none → Q (.ref p) (upd H p (.lst ys))
theorem sort_end (I : Inv X pins σ H s) {xs : List V} {us out : List Value} {h' h2 : Heap} {tk ep : Nat} {p : Addr} {Q : VK} (rv : Vals xs us) (hx : ∀ x ∈ xs, ∃ a, x = V.ref a) (hz : xs.length ≤ sizeLine) (kp : ∀ b o, s.heap.get? b = some o → h'.get? b = some o) (hp : out.Perm us)
    (kp2 : ∀ b o, h'.get? b = some o → h2.get? b = some o) (hle : h'.objs.size ≤ p) (hat : h2.get? p = some (seqObj "list" out.toArray ep)) (q : ∀ (ys : List V) (p : Addr), ys.Perm xs → H p = none → Q (.ref p) (upd H p (.lst ys))) :
    ∃ v H', Inv X pins σ H' { s with heap := h2, toks := tk } ∧ RelV v (.ref p) ∧ Q v H' := by
  obtain ⟨e1, e2⟩ := bkV_refs rv hx
  have h3 : ∀ u ∈ out, ∃ a, u = Value.ref a := fun u hu => e2 u (hp.mem_iff.mp hu)
  have hpm : (out.map bkV).Perm xs := by
    rw [e1]
    exact hp.map bkV
  have hlen : (out.map bkV).length ≤ sizeLine := by
    rw [hpm.length_eq]
    exact hz
  have hfree : s.heap.get? p = none := by
    cases z : s.heap.get? p with
    | none => rfl
    | some u => exact absurd (Heap.lt_size (kp p u z)) (Nat.not_lt.mpr hle)
  obtain ⟨hn, J⟩ := laid_free (t' := tk) (o := .lst (out.map bkV)) I (fun b o e => kp2 b o (kp b o e)) hfree ⟨hlen, out, ep, bkV_vals h3, hat⟩
  exact ⟨.ref p, _, J, rfl, q _ _ hpm hn⟩
theorem call_sortL : CallR X (.builtin "sorted") (rSortL X.K) := by
  intro pins s σ H vs us Q I r h
  obtain ⟨a, xs, rfl, hs, hx, q⟩ := h
  obtain ⟨its, rv, hl, hz⟩ := I.list hs
  rw [Vals.ref1 r]
  obtain ⟨t1, t2⟩ := tups_all (intT_all I rv hx)
  refine sorted_from (fsOf := fun h' vs => vs = its ∧ G.KeepsTups s.heap h') (fun R hR => ?_) (fun h' vs hf => ?_) fun h' tk vs out h2 p ep kp hf hp kp2 hle hat => ?_
  · have hnew : (s.heap.push (seqObj "list" #[] 0)).get? s.heap.objs.size = some (seqObj "list" #[] 0) := Heap.get?_push_size _ rfl
    refine collect_list hl.isList (hR _ s.toks _ (fun b o e => ?_) ⟨rfl, (G.KeepsTups.push _ _).trans (G.KeepsTups.update _ hnew G.not_tuple_list)⟩) (by rw [← rv.length]; exact hz)
    rw [Heap.get?_update_ne _ _ _ _ (Nat.ne_of_lt (Heap.lt_size e))]
    exact Heap.get?_push_of_some _ e
  · obtain ⟨rfl, kt⟩ := hf
    obtain ⟨fs, t1⟩ := t1
    refine ⟨⟨fs, G.TupsOf.keep kt t1⟩, fun v hv => ?_, by rw [← rv.length]; exact hz⟩
    obtain ⟨l, e⟩ := t2 v hv
    refine ⟨l, ?_⟩
    obtain ⟨a, o, xs, n, rfl, ho, hcl, hd, hi⟩ := G.tupKeyC_some e
    have ho2 := kt a o ho hcl
    simp only [G.tupKeyC, G.isTupObj, tupKey, ho2, hcl, hd]
    simpa using hi
  · obtain ⟨rfl, _⟩ := hf
    exact sort_end I rv (fun x m => by
      obtain ⟨t, _, _, e, _⟩ := hx x m
      exact ⟨t, e⟩) hz kp hp kp2 hle hat q
/-- sorted(d), d a dict with such keys: a new list of them, in some order -/
def rSortD (K : PySem.W.Frag) (w : World) : List V → Hp → VK → Prop := fun vs H Q => ∃ (d : Addr) (xs : List MixV), vs = [V.ref d] ∧ MixAt K w H d xs ∧ (∀ e ∈ xs, IntT' K H e.2.1) ∧ ∀ (ys : List V) (p : Addr), ys.Perm (xs.map fun e => e.2.1) → H p = none → Q (.ref p) (upd H p (.lst ys))
theorem mix_vals : ∀ {xs : List MixV} {ys : List MixE}, Paired MixRel xs ys → Vals (xs.map fun e => e.2.1) (ys.map fun e => e.2.1)
  | _, _, .nil => .nil
  | _, _, .cons h t => .cons h.2.1 (mix_vals t)
theorem call_sortD (hc : X.calm = true) : CallR X (.builtin "sorted") (rSortD X.K X.w) := by
  intro pins s σ H vs us Q I r h
  obtain ⟨d, xs, rfl, m, hx, q⟩ := h
  obtain ⟨hz, hsm, ys, rl, mo⟩ := mix_open I m
  obtain ⟨o, es, ep, ho, hxd, hdt, he, his, hn⟩ := mo
  rw [Vals.ref1 r]
  have rv := mix_vals rl
  have hlx : (xs.map fun e => e.2.1).length ≤ sizeLine := by
    rw [List.length_map]
    exact hz
  have hxs : ∀ x ∈ xs.map fun e => e.2.1, IntT' X.K H x := fun x hx' => by
    obtain ⟨e, he', rfl⟩ := List.mem_map.mp hx'
    exact hx e he'
  obtain ⟨t1, t2⟩ := tups_all (intT_all I rv hxs)
  have hlen := Paired.length rl
  refine sorted_from (fsOf := fun h' vs => vs = (ys.map fun e => e.2.1) ∧ ∀ b o, s.heap.get? b = some o → h'.get? b = some o) (fun R hR => ?_) (fun h' vs hf => ?_) fun h' tk vs out h2 p ep' kp hf hp kp2 hle hat => ?_
  · refine PySem.W.kdu_collect (kdl_raw hsm hxd hdt) (I.ok.hd hc) ho (by rw [mix_size he]; omega) fun h' tk acc kp it => ?_
    refine hR h' tk _ kp ⟨?_, kp⟩
    have hl : acc.toList.length = ys.length := by
      rw [Array.length_toList, it.1]
      exact mix_size he
    apply List.ext_getElem?
    intro j
    rw [List.getElem?_map]
    cases hj : acc.toList[j]? with
    | none =>
      have h1 := List.getElem?_eq_none_iff.mp hj
      rw [List.getElem?_eq_none (by omega)] <;> rfl
    | some v =>
      obtain ⟨en, hen, hv⟩ := it.2 j v (by rw [← Array.getElem?_toList]; exact hj)
      have qe := mix_at he j
      rw [hen] at qe
      cases hb : ys[j]? with
      | none =>
        rw [hb] at qe
        cases qe
      | some b =>
        rw [hb] at qe
        have e2 : en = mixEnt X.w b := Option.some.inj qe
        rw [hv, e2] <;> rfl
  · obtain ⟨rfl, kt⟩ := hf
    have kt' : G.KeepsTups s.heap h' := fun b o e _ => kt b o e
    obtain ⟨fs, t1⟩ := t1
    refine ⟨⟨fs, G.TupsOf.keep kt' t1⟩, fun v hv => ?_, by rw [← rv.length]; exact hlx⟩
    obtain ⟨l, e⟩ := t2 v hv
    refine ⟨l, ?_⟩
    obtain ⟨a, o, xs, n, rfl, ho, hcl, hd, hi⟩ := G.tupKeyC_some e
    have ho2 := kt' a o ho hcl
    simp only [G.tupKeyC, G.isTupObj, tupKey, ho2, hcl, hd]
    simpa using hi
  · obtain ⟨rfl, _⟩ := hf
    exact sort_end I rv (fun x m => by
      obtain ⟨t, _, _, e, _⟩ := hxs x m
      exact ⟨t, e⟩) hlx kp hp kp2 hle hat q
end
end K11

set_option Elab.async false
set_option linter.all false
set_option maxRecDepth 100000
set_option maxHeartbeats 4000000
/-! What the top leaves, by name; the promise of a def of the program. Printed by gen_top.py. -/
namespace K11
open PySem PySem.Spec PyProof.Rows L2
/-- the context of every proof -/
structure Top (P : Program) (w : World) (K : PySem.W.Frag) (mg : Str → Option Value) (base : Heap) : Prop where
  h0 : ∃ h, K.In h ∧ h.Ns mainGlobals mg ∧ SaysY w h K
  tab : LamX.TabB base mg (He.cT K ("seen", none)).1 (He.cT K ("seen", none)).2
  file : ((P.main.file : Str) == ("/claim/cut.py" : Str)) = true
  top_ : (P.main.scope.names.lookup ("super" : Str)).isSome = false
section
variable {P : Program} {w : World} {K : PySem.W.Frag} {mg : Str → Option Value} {base : Heap}
theorem Top.fact (T : Top P w K mg base) (i : Nat) {f : He.Fa} (h : fa[i]? = some f) : f.ok K = true := by
  obtain ⟨_, _, _, c⟩ := T.h0
  exact c.x.t.d.fact i h
theorem Top.free_ (T : Top P w K mg base) (i : Nat) {x : Str} (h : fa[i]? = some (.free x)) : mg x = none := by
  obtain ⟨_, X, G, _⟩ := T.h0
  exact He.free_ok X G (T.fact i h)
theorem Top.glo_ (T : Top P w K mg base) (i : Nat) {x : Str} (h : fa[i]? = some (.glo x)) : mg x = some (.ref (He.ga K x)) := by
  obtain ⟨_, X, G, _⟩ := T.h0
  exact He.glo_ok X G (T.fact i h)
/-- the promise of the def d, named x -/
structure Cal (P : Program) (w : World) (K : PySem.W.Frag) (mg : Str → Option Value) (base : Heap) (d : He.DefD) (x : Str) (k : Nat) (ps : List Str) (sp : Sp) : Prop where
  ex : ∃ fd, FunD K d.name d.qual d.params d.body d.scope [] [] (He.ga K x) fd ∧ FnOk P w K mg base (L2.CX P w) k (He.ga K x) fd ps sp ∧ L2.Binds K fd ps []
  mg_ : mg x = some (.ref (He.ga K x))
/-- .. of the method m of the class C -/
structure CalM (P : Program) (w : World) (K : PySem.W.Frag) (mg : Str → Option Value) (base : Heap) (d : He.DefD) (C m : Str) (k : Nat) (ps : List Str) (sp : Sp) : Prop where
  ex : ∃ fd, FunD K d.name d.qual d.params d.body d.scope [] [] (He.ma K (He.ga K C) m) fd ∧ FnOk P w K mg base (L2.CX P w) k (He.ma K (He.ga K C) m) fd ps sp ∧ L2.Binds K fd ps []
/-- how the values are bound: nothing but positional ones -/
def BindN (d : He.DefD) (ps : List Str) : Prop := ∀ (kV doc pm : Value) (an : Option Addr) (cdv ct : Value) (us : List Value), us.length = ps.length → bindArgs (PySem.W.fnOf d.name d.qual d.params d.body d.scope .none kV doc pm an cdv ct) ⟨us, []⟩ = pure (ps.zip us)
/-- the body keeps the promise -/
def Keeps (P : Program) (w : World) (K : PySem.W.Frag) (mg : Str → Option Value) (base : Heap) (d : He.DefD) (N : List Str) (k : Nat) (sp : Sp) : Prop :=
  ∀ (f : Addr) (cdv : Value) (A : Around) (outer : List Env) (s : Shared) (H : Hp) (vs : List V) (Q : VK) (E : XK), Room k (A.deeper (envOfC d.qual d.scope s.heap.objs.size f cdv)) → sp vs H Q E →
    ∃ t, PSs (cxOf (L2.CX P w) P w K mg base N d.qual d.scope f cdv A outer s H E) d.body t ∧ t { nx := fun _ H' => Q .non H', rt := Q } (L2.start N vs) H
theorem Top.cal (T : Top P w K mg base) {d : He.DefD} {x : Str} {N ps : List Str} {k : Nat} {sp : Sp} (i j : Nat) (hi : fn[i]? = some d) (hj : fa[j]? = some (.glo x)) (hat : d.at_ = (x, none)) (h1 : d.dfl = []) (h2 : d.kwd = []) (S : FnScope N ps d.scope) (hb : BindN d ps)
    (len : ∀ vs H Q E, sp vs H Q E → vs.length = ps.length) (body : Keeps P w K mg base d N k sp) : Cal P w K mg base d x (k + 1) ps sp := by
  refine ⟨?_, T.glo_ j hj⟩
  obtain ⟨_, _, _, c⟩ := T.h0
  obtain ⟨fd, F⟩ := c.x.t.d.def_ i hi
  have e1 : d.dvs K = [] := by
    unfold He.DefD.dvs
    rw [h1] <;> rfl
  have e2 : d.kws K = [] := by
    unfold He.DefD.kws
    rw [h2] <;> rfl
  have e3 : He.fAd K d.at_ = He.ga K x := by
    rw [hat] <;> rfl
  rw [e1, e2, e3] at F
  exact ⟨fd, F, F.ok S len fun cdv A outer s H vs Q E hr h => body _ cdv A outer s H vs Q E hr h, F.bindsN hb⟩
theorem Top.calM (T : Top P w K mg base) {d : He.DefD} {C m : Str} {N ps : List Str} {k : Nat} {sp : Sp} (i : Nat) (hi : fn[i]? = some d) (hat : d.at_ = (C, some m)) (h1 : d.dfl = []) (h2 : d.kwd = []) (S : FnScope N ps d.scope) (hb : BindN d ps)
    (len : ∀ vs H Q E, sp vs H Q E → vs.length = ps.length) (body : Keeps P w K mg base d N k sp) : CalM P w K mg base d C m (k + 1) ps sp := by
  refine ⟨?_⟩
  obtain ⟨_, _, _, c⟩ := T.h0
  obtain ⟨fd, F⟩ := c.x.t.d.def_ i hi
  have e1 : d.dvs K = [] := by
    unfold He.DefD.dvs
    rw [h1] <;> rfl
  have e2 : d.kws K = [] := by
    unfold He.DefD.kws
    rw [h2] <;> rfl
  have e3 : He.fAd K d.at_ = He.ma K (He.ga K C) m := by
    rw [hat] <;> rfl
  rw [e1, e2, e3] at F
  exact ⟨fd, F, F.ok S len fun cdv A outer s H vs Q E hr h => body _ cdv A outer s H vs Q E hr h, F.bindsN hb⟩
theorem Cal.mono {d : He.DefD} {x : Str} {j k : Nat} {ps : List Str} {sp : Sp} (c : Cal P w K mg base d x j ps sp) (h : j ≤ k) : Cal P w K mg base d x k ps sp := by
  obtain ⟨⟨fd, F, G, b⟩, m⟩ := c
  exact ⟨⟨fd, F, G.mono h, b⟩, m⟩
end
section
variable {X : Cx} {d : He.DefD} {x : Str} {j k : Nat} {ps : List Str} {sp : Sp} {E : XK} {p pos apos : Pos} {e o : Expr} {es : List Expr} {t : TA} {ta : TE}
/-- f(..), nothing is raised -/
theorem pe_cal (C : Cal X.prog X.w X.K X.mg X.base d x k ps sp) (hr : Room j X.A) (hk : k ≤ j) (hg : Gl X x) (ha : PA X (e :: es) t) (hdb : (x == ("__debug__" : Str)) = false := by decide) (he : starEach (e :: es) X.env = (false, eval e X.env) :: starEach es X.env := by rfl) (hpl : (backTo pos (starEach es X.env)).any (·.1) = false := by rfl) :
    PE X (.Call (.Name x p) (e :: es) [] pos) (tCall sp [] C8.E0 t) := by
  obtain ⟨⟨fd, F, G, b⟩, m⟩ := C
  exact pe_call G (hr.mono hk) hg m F.kp b .nil passL ha hdb he hpl
/-- f(..), what it raises is let out -/
theorem pe_calE (C : Cal X.prog X.w X.K X.mg X.base d x k ps sp) (hr : Room j X.A) (hk : k ≤ j) (hx : Passes (L2.CX X.prog X.w) X E) (hg : Gl X x) (ha : PA X (e :: es) t) (hdb : (x == ("__debug__" : Str)) = false := by decide) (he : starEach (e :: es) X.env = (false, eval e X.env) :: starEach es X.env := by rfl) (hpl : (backTo pos (starEach es X.env)).any (·.1) = false := by rfl) :
    PE X (.Call (.Name x p) (e :: es) [] pos) (tCall sp [] E t) := by
  obtain ⟨⟨fd, F, G, b⟩, m⟩ := C
  exact pe_call G (hr.mono hk) hg m F.kp b .nil hx ha hdb he hpl
/-- o.m(..) -/
theorem pe_calM {C m : Str} {pl : Sem Bool} (c : CalM X.prog X.w X.K X.mg X.base d C m k ps sp) (hr : Room j X.A) (hk : k ≤ j) (cl : Cls X.K (He.ga X.K C)) (hm : Meth X.K (He.ga X.K C) m (He.ma X.K (He.ga X.K C) m)) (he : PE X o ta) (ha : PA X (e :: es) t)
    (hst : starEach (e :: es) X.env = (false, eval e X.env) :: starEach es X.env := by rfl) (hpl : (backTo pos (starEach es X.env)).any (·.1) = false := by rfl)
    (ht : eval (.Call (.Attribute o m apos) (e :: es) [] pos) X.env = (do
      let ov ← eval o X.env
      standAt apos.atName
      let (f, first) ← holding [ov] (getMethod ov m pl)
      callWith pos f first (backTo pos (starEach (e :: es) X.env)) (backToKw pos (keywordEach [] X.env))) := by rfl) :
    PE X (.Call (.Attribute o m apos) (e :: es) [] pos) (tMeth (He.ga X.K C) m sp [] C8.E0 ta t) := by
  obtain ⟨⟨fd, F, G, b⟩⟩ := c
  exact pe_meth he cl hm G (hr.mono hk) b .nil passL ha hst hpl ht
/-- C(..) -/
theorem pe_calC {C : Str} (c : CalM X.prog X.w X.K X.mg X.base d C "__init__" k ps sp) (hr : Room (j + 1) X.A) (hk : k ≤ j) (M : Mk X.K (He.ga X.K C) (He.ma X.K (He.ga X.K C) "__init__")) (hm : X.mg C = some (.ref (He.ga X.K C))) (hg : Gl X C) (ha : PA X (e :: es) t)
    (hdb : (C == ("__debug__" : Str)) = false := by decide) (he : starEach (e :: es) X.env = (false, eval e X.env) :: starEach es X.env := by rfl) (hpl : (backTo pos (starEach es X.env)).any (·.1) = false := by rfl) :
    PE X (.Call (.Name C p) (e :: es) [] pos) (tMake (He.ga X.K C) sp [] C8.E0 t) := by
  obtain ⟨⟨fd, F, G, b⟩⟩ := c
  exact pe_make M (G.mono hk) hr hg hm b .nil passL ha hdb he hpl
end
section
variable {P : Program} {w : World} {K : PySem.W.Frag} {mg : Str → Option Value} {base : Heap}
theorem Top.g_Machine (T : Top P w K mg base) : mg "Machine" = some (.ref (He.ga K "Machine")) := T.glo_ 52 rfl
theorem Top.g_Blind (T : Top P w K mg base) : mg "Blind" = some (.ref (He.ga K "Blind")) := T.glo_ 53 rfl
theorem Top.g_InvalidRow (T : Top P w K mg base) : mg "InvalidRow" = some (.ref (He.ga K "InvalidRow")) := T.glo_ 54 rfl
theorem Top.n_isinstance (T : Top P w K mg base) : mg "isinstance" = none := T.free_ 56 rfl
theorem Top.n_int (T : Top P w K mg base) : mg "int" = none := T.free_ 57 rfl
theorem Top.n_bool (T : Top P w K mg base) : mg "bool" = none := T.free_ 58 rfl
theorem Top.n_list (T : Top P w K mg base) : mg "list" = none := T.free_ 59 rfl
theorem Top.n_tuple (T : Top P w K mg base) : mg "tuple" = none := T.free_ 60 rfl
theorem Top.n_range (T : Top P w K mg base) : mg "range" = none := T.free_ 61 rfl
theorem Top.n_all (T : Top P w K mg base) : mg "all" = none := T.free_ 62 rfl
theorem Top.n_enumerate (T : Top P w K mg base) : mg "enumerate" = none := T.free_ 63 rfl
theorem Top.n_len (T : Top P w K mg base) : mg "len" = none := T.free_ 64 rfl
theorem Top.n_sorted (T : Top P w K mg base) : mg "sorted" = none := T.free_ 65 rfl
theorem Top.n_set (T : Top P w K mg base) : mg "set" = none := T.free_ 66 rfl
theorem Top.n_min (T : Top P w K mg base) : mg "min" = none := T.free_ 67 rfl
theorem Top.n_max (T : Top P w K mg base) : mg "max" = none := T.free_ 68 rfl
theorem Top.n_abs (T : Top P w K mg base) : mg "abs" = none := T.free_ 69 rfl
theorem Top.n_repr (T : Top P w K mg base) : mg "repr" = none := T.free_ 70 rfl
theorem Top.n_super (T : Top P w K mg base) : mg "super" = none := T.free_ 71 rfl
theorem Top.n_ValueError (T : Top P w K mg base) : mg "ValueError" = none := T.free_ 72 rfl
theorem Top.cls_ (T : Top P w K mg base) : Cls K (He.ga K "Machine") := He.cls_ok (T.fact 73 rfl)
theorem Top.no_commands (T : Top P w K mg base) : NoAttr K (He.ga K "Machine") "commands" := He.noat_ok (T.fact 74 rfl)
theorem Top.no_states (T : Top P w K mg base) : NoAttr K (He.ga K "Machine") "states" := He.noat_ok (T.fact 75 rfl)
theorem Top.no_steps (T : Top P w K mg base) : NoAttr K (He.ga K "Machine") "steps" := He.noat_ok (T.fact 76 rfl)
theorem Top.no_found (T : Top P w K mg base) : NoAttr K (He.ga K "Machine") "_found" := He.noat_ok (T.fact 77 rfl)
theorem Top.me_found (T : Top P w K mg base) : Meth K (He.ga K "Machine") "found" (He.ma K (He.ga K "Machine") "found") := He.meth_ok (T.fact 78 rfl)
theorem Top.me_does (T : Top P w K mg base) : Meth K (He.ga K "Machine") "does" (He.ma K (He.ga K "Machine") "does") := He.meth_ok (T.fact 79 rfl)
theorem Top.mk_ (T : Top P w K mg base) : Mk K (He.ga K "Machine") (He.ma K (He.ga K "Machine") "__init__") := He.mkr_ok (T.fact 80 rfl)
theorem Top.x_Blind_Blind (T : Top P w K mg base) : PySem.W.exmOne K (.ref (He.ga K "Blind")) (.ref (He.ga K "Blind")) = some true := He.exm_ok (T.fact 81 rfl)
theorem Top.x_InvalidRow_Blind (T : Top P w K mg base) : PySem.W.exmOne K (.ref (He.ga K "InvalidRow")) (.ref (He.ga K "Blind")) = some false := He.exm_ok (T.fact 82 rfl)
theorem Top.x_InvalidRow_InvalidRow (T : Top P w K mg base) : PySem.W.exmOne K (.ref (He.ga K "InvalidRow")) (.ref (He.ga K "InvalidRow")) = some true := He.exm_ok (T.fact 83 rfl)
end
end K11

set_option Elab.async false
set_option linter.all false
set_option maxRecDepth 100000
set_option maxHeartbeats 4000000
/-! How readings are answered: loops and comprehensions over what is frozen, new objects, any value's class. -/
namespace K11
open PySem PySem.Spec PyProof.Rows L2
section
variable {K : PySem.W.Frag} {S : List Addr} {F H F1 H1 : Hp} {Q : VK}
/-- the heap, seen at S alone -/
def rs (S : List Addr) (H : Hp) : Hp := fun a => if a ∈ S then H a else none
theorem rs_upd {D : Addr} {o : HO} (h : D ∉ S) : rs S (upd H D o) = rs S H := by
  funext a
  unfold rs
  by_cases ha : a ∈ S
  · rw [if_pos ha, if_pos ha, upd_ne fun z => h (by rw [← z]; exact ha)]
  · rw [if_neg ha, if_neg ha]
theorem rs_in {a : Addr} (h : a ∈ S) : rs S H a = H a := if_pos h
theorem Mu.rs {l : Addr} {o : HO} (m : Mu F H l o) (h : l ∈ S) : Mu F (rs S H) l o := ⟨by rw [rs_in h]; exact m.at_, m.fr⟩
theorem Mu.unrs {l : Addr} {o : HO} (m : Mu F (K11.rs S H) l o) : Mu F H l o := by
  refine ⟨?_, m.fr⟩
  have e := m.at_
  unfold K11.rs at e
  by_cases h : l ∈ S
  · rw [if_pos h] at e
    exact e
  · rw [if_neg h] at e
    cases e
theorem MuL.rs {l : Addr} {ds : List PyData} (m : MuL K F H l ds) (h : l ∈ S) : MuL K F (K11.rs S H) l ds := by
  obtain ⟨xs, a, b⟩ := m.ex
  exact ⟨xs, a.rs h, b⟩
theorem MuL.unrs {l : Addr} {ds : List PyData} (m : MuL K F (K11.rs S H) l ds) : MuL K F H l ds := by
  obtain ⟨xs, a, b⟩ := m.ex
  exact ⟨xs, a.unrs, b⟩
/-! ### what is walked -/
structure Src (F : Hp) (J : It) (n : Nat) (item : Nat → V → Prop) : Prop where
  go : ∀ i H, Same F H → i < n → J.go i H
  stop : ∀ i H, Same F H → n ≤ i → J.stop i H
  yld : ∀ i H x H', Same F H → J.yld i H x H' → H' = H ∧ item i x
theorem src_l {a : Addr} {xs : List V} (h : SqL K F a xs) : Src F (Itl K a) xs.length fun i x => xs[i]? = some x :=
  ⟨fun i H e hi => ⟨xs, xs[i], same_l e h, by simp [hi]⟩, fun i H e hi => ⟨xs, same_l e h, hi⟩, fun i H x H' e ⟨y1, y2⟩ => ⟨y1, y2 xs (same_l e h)⟩⟩
theorem src_t {a : Addr} {xs : List V} (h : SqT K F a xs) : Src F (Itt K a) xs.length fun i x => xs[i]? = some x :=
  ⟨fun i H e hi => ⟨xs, xs[i], same_t e h, by simp [hi]⟩, fun i H e hi => ⟨xs, same_t e h, hi⟩, fun i H x H' e ⟨y1, y2⟩ => ⟨y1, y2 xs (same_t e h)⟩⟩
theorem src_r {lo : Int} {n : Nat} : Src F (Itr lo n) n fun i x => x = .int (lo + i) := ⟨fun i H _ hi => hi, fun i H _ hi => hi, fun i H x H' _ y => y⟩
theorem Src.up {J : It} {n : Nat} {item : Nat → V → Prop} (s : Src F J n item) (e : Same F F1) : Src F1 J n item := ⟨fun i H h => s.go i H (e.trans h), fun i H h => s.stop i H (e.trans h), fun i H x H' h => s.yld i H x H' (e.trans h)⟩
/-- a comprehension: the list that grows; P i acc F H: what the first i turns have given (H seen at S alone) -/
theorem lc_do {J : It} {n : Nat} {item : Nat → V → Prop} {g : TG} {tt : TT} {te : TE} {vs : List Nat} {σ : L2.St} {Qd : Addr → Hp → Prop} (src : Src F J n item) (hF : Same F H) (hS : ∀ a ∈ S, H a ≠ none) (hn : n ≤ sizeLine) (P : Nat → List V → Hp → Hp → Prop)
    (h0 : P 0 [] F (rs S H))
    (hs : ∀ i x acc F1 H1, i < n → item i x → Stp S F H F1 H1 → P i acc F1 (rs S H1) → ∀ (Y : VK) (N : Hp → Prop), (∀ y F4 H4, Stp S F1 H1 F4 H4 → P (i + 1) (acc ++ [y]) F4 (rs S H4) → Y y H4) → (∀ F4 H4, Stp S F1 H1 F4 H4 → P (i + 1) acc F4 (rs S H4) → N H4) →
      g x (wipe σ vs) H1 fun σ2 H2 => wipe σ2 vs = wipe σ vs ∧ tt σ2 H2 fun b H3 => if b = true then te σ2 H3 Y else N H3)
    (hd : ∀ D acc F1 H1, Stp S F H F1 H1 → H D = none → Mu F1 H1 D (.lst acc) → acc.length ≤ n → P n acc F1 (rs S H1) → Qd D H1) :
    ∀ D, H D = none → ∃ W : Nat → Nat → Hp → Prop, (∃ m, W 0 m (upd H D (.lst []))) ∧ ∀ i m H, W i m H →
      (J.stop i H ∧ Qd D H) ∨ (J.go i H ∧ ∃ Nx : Hp → Prop, (∀ H', Nx H' → ∃ m', m' < m ∧ W (i + 1) m' H') ∧ ∀ x H', J.yld i H x H' → g x (wipe σ vs) H' fun σ2 H2 => wipe σ2 vs = wipe σ vs ∧ tt σ2 H2 fun b H3 =>
        if b = true then te σ2 H3 fun y H4 => ∃ acc, H4 D = some (.lst acc) ∧ acc.length < sizeLine ∧ Nx (upd H4 D (.lst (acc ++ [y]))) else Nx H3) := by
  intro D hD
  have hDS : D ∉ S := fun z => hS D z hD
  refine ⟨fun i m H' => m = n - i ∧ i ≤ n ∧ ∃ acc F', Stp S F H F' H' ∧ Mu F' H' D (.lst acc) ∧ acc.length ≤ i ∧ P i acc F' (rs S H'), ⟨n, by simp, Nat.zero_le _, [], F, Stp.newM hF hD, Mu.new hF hD, Nat.le_refl _, by rw [rs_upd hDS]; exact h0⟩, ?_⟩
  rintro i m H' ⟨rfl, hi, acc, F', st, mu, hl, p⟩
  by_cases hlt : i < n
  · refine .inr ⟨src.go i H' (st.ff.trans st.fh) hlt, fun H'' => i + 1 ≤ n ∧ ∃ acc F', Stp S F H F' H'' ∧ Mu F' H'' D (.lst acc) ∧ acc.length ≤ i + 1 ∧ P (i + 1) acc F' (rs S H''), fun H'' ⟨a, b⟩ => ⟨n - (i + 1), by omega, rfl, a, b⟩, fun x H1 hy => ?_⟩
    obtain ⟨rfl, hx⟩ := src.yld i H' x H1 (st.ff.trans st.fh) hy
    refine hs i x acc F' H1 hlt hx st p _ _ (fun y F4 H4 st4 p4 => ?_) fun F4 H4 st4 p4 => ⟨hlt, acc, F4, st.trans st4, st4.mu mu hDS, by omega, p4⟩
    have mu4 := st4.mu mu hDS
    refine ⟨acc, mu4.at_, by omega, hlt, acc ++ [y], F4, (st.trans st4).write (.inl hD) mu4, mu4.wrote, by rw [List.length_append]; show acc.length + 1 ≤ i + 1; omega, ?_⟩
    rw [rs_upd hDS]
    exact p4
  · have e : i = n := by omega
    subst e
    exact .inl ⟨src.stop i H' (st.ff.trans st.fh) (Nat.le_refl _), hd D acc F' H' st hD mu hl p⟩
/-- no test -/
theorem lc_yes {te : TE} {σ2 : L2.St} {H2 : Hp} {Y : VK} {N : Hp → Prop} (h : te σ2 H2 Y) : tYes σ2 H2 fun b H3 => if b = true then te σ2 H3 Y else N H3 := by
  show (if true = true then te σ2 H2 Y else N H2)
  rw [if_pos rfl]
  exact h
/-- a for loop -/
theorem for_do {J : It} {n : Nat} {item : Nat → V → Prop} {g : TG} {tb : TS} {D : Ends} {σ : L2.St} (src : Src F J n item) (Pv : Nat → L2.St → Hp → Prop) (hF : ∀ i σ H, Pv i σ H → Same F H) (h0 : Pv 0 σ H)
    (hs : ∀ i x σ H, i < n → item i x → Pv i σ H → g x σ H fun σ2 H2 => tb { D with nx := Pv (i + 1), ct := Pv (i + 1), bk := D.nx } σ2 H2) (hd : ∀ σ H, Pv n σ H → D.nx σ H) :
    ∃ W : Nat → Nat → L2.St → Hp → Prop, (∃ m, W 0 m σ H) ∧ ∀ i m σ H, W i m σ H →
      (J.stop i H ∧ D.nx σ H) ∨ (J.go i H ∧ ∃ N : L2.St → Hp → Prop, (∀ σ' H', N σ' H' → ∃ m', m' < m ∧ W (i + 1) m' σ' H') ∧ ∀ x H', J.yld i H x H' → g x σ H' fun σ2 H2 => tb { D with nx := N, ct := N, bk := D.nx } σ2 H2) := by
  refine ⟨fun i m σ H => m = n - i ∧ i ≤ n ∧ Pv i σ H, ⟨n, by simp, Nat.zero_le _, h0⟩, ?_⟩
  rintro i m σ H ⟨rfl, hi, p⟩
  by_cases hlt : i < n
  · refine .inr ⟨src.go i H (hF i σ H p) hlt, Pv (i + 1), fun σ' H' p' => ⟨n - (i + 1), by omega, rfl, hlt, p'⟩, fun x H' y => ?_⟩
    obtain ⟨rfl, hx⟩ := src.yld i H x H' (hF i σ H p) y
    exact hs i x σ H' hlt hx p
  · have e : i = n := by omega
    subst e
    exact .inl ⟨src.stop i H (hF i σ H p) (Nat.le_refl _), hd σ H p⟩
/-! ### new objects -/
theorem Stp.tup {xs : List V} {p : Addr} (s : Stp S F H F1 H1) (hp : H1 p = none) : Stp S F H (upd F1 p (.tup xs)) (upd H1 p (.tup xs)) := s.trans (Stp.new s.fh hp)
theorem Stp.lst {xs : List V} {p : Addr} (s : Stp S F H F1 H1) (hp : H1 p = none) : Stp S F H (upd F1 p (.lst xs)) (upd H1 p (.lst xs)) := s.trans (Stp.new s.fh hp)
theorem Stp.mlst {xs : List V} {p : Addr} (s : Stp S F H F1 H1) (hp : H1 p = none) : Stp S F H F1 (upd H1 p (.lst xs)) := s.trans (Stp.newM s.fh hp)
theorem same_new {p : Addr} {o : HO} (e : Same F H) (hp : H p = none) : Same F (upd F p o) := fun x u z => by
  rw [upd_ne (ne_of_none z (fr_none e hp))]
  exact z
theorem dp_tup {xs : List V} {ds : List PyData} {p : Addr} (e : Same F H) (hp : H p = none) (h : DpAll K F xs ds) : Dp K (upd F p (.tup xs)) (.ref p) (.tuple ds) := .tup (.inl (.inl upd_same)) (h.up (same_new e hp))
theorem dp_lst {xs : List V} {ds : List PyData} {p : Addr} (e : Same F H) (hp : H p = none) (h : DpAll K F xs ds) : Dp K (upd F p (.lst xs)) (.ref p) (.list ds) := .lst (.inl (.inl upd_same)) (h.up (same_new e hp))
theorem muL_new {xs : List V} {ds : List PyData} {p : Addr} (e : Same F H) (hp : H p = none) (h : DpAll K F xs ds) : MuL K F (upd H p (.lst xs)) p ds := ⟨xs, Mu.new e hp, h⟩
/-- a list that was being made becomes data -/
theorem frz_l {l : Addr} {xs : List V} {ds : List PyData} (s : Stp S F H F1 H1) (h0 : H l = none) (m : Mu F1 H1 l (.lst xs)) (h : DpAll K F1 xs ds) : Stp S F H (upd F1 l (.lst xs)) H1 ∧ Same F1 (upd F1 l (.lst xs)) ∧ Dp K (upd F1 l (.lst xs)) (.ref l) (.list ds) := by
  have e : Same F1 (upd F1 l (.lst xs)) := fun x u z => by
    rw [upd_ne (ne_of_none z m.fr)]
    exact z
  exact ⟨s.freeze h0 m, e, .lst (.inl (.inl upd_same)) (h.up e)⟩
end
/-! ### any value -/
/-- data, or an empty dict -/
inductive Any (K : PySem.W.Frag) (F : Hp) : V → PyData → Prop
  | d {v : V} {d : PyData} (h : Dp K F v d) : Any K F v d
  | e {a : Addr} (h : F a = some (.dK [])) : Any K F (.ref a) (.dict [])
theorem Any.up {K : PySem.W.Frag} {F H : Hp} {v : V} {d : PyData} (h : Any K F v d) (e : Same F H) : Any K H v d := by
  cases h with
  | d h => exact .d (h.up e)
  | e h => exact .e (e _ _ h)
def tyN : PyData → String
  | .none => "NoneType"
  | .bool _ => "bool"
  | .int _ => "int"
  | .str _ => "str"
  | .list _ => "list"
  | .tuple _ => "tuple"
  | .dict _ => "dict"
theorem tyx_l {K : PySem.W.Frag} {H : Hp} {a : Addr} {xs : List V} (h : SqL K H a xs) : TyX K H (.ref a) (.type "list") := by
  rcases h with (h | ⟨o, h⟩) | ⟨o, vs, n, h1, h2, h3, _⟩
  · exact .base (.lst h)
  · exact .base (.frz h)
  · exact .kList h1 h2
theorem tyx_t {K : PySem.W.Frag} {H : Hp} {a : Addr} {xs : List V} (h : SqT K H a xs) : TyX K H (.ref a) (.type "tuple") := by
  rcases h with (h | ⟨o, h⟩) | ⟨o, vs, n, h1, h2, h3, _⟩
  · exact .base (.tup h)
  · exact .fTuple h
  · exact .kTuple h1 h2
theorem Any.ty {K : PySem.W.Frag} {H : Hp} {v : V} {d : PyData} (h : Any K H v d) : TyX K H v (.type (tyN d)) := by
  cases h with
  | e h => exact .base (.dK h)
  | d h =>
    cases h with
    | non => exact .base .non
    | bl b => exact .base (.bl b)
    | int i => exact .base (.int i)
    | str x => exact .base (.str x)
    | lst hs _ => exact tyx_l hs
    | tup hs _ => exact tyx_t hs
/-- isinstance(d, T) -/
def isTy (d : PyData) (T : String) : Bool := (kitB (tyN d) T).getD false
def goodT (T : String) : Bool := T = "int" ∨ T = "bool" ∨ T = "list" ∨ T = "tuple"
theorem kit_good {d : PyData} {T : String} (h : goodT T = true) : kitB (tyN d) T = some (isTy d T) := by
  have key : ∀ (a : String), (a = "NoneType" ∨ a = "bool" ∨ a = "int" ∨ a = "str" ∨ a = "list" ∨ a = "tuple" ∨ a = "dict") → kitB a T = some ((kitB a T).getD false) := fun a ha => by
    unfold goodT at h
    simp only [decide_eq_true_eq] at h
    rcases h with rfl | rfl | rfl | rfl <;> rcases ha with rfl | rfl | rfl | rfl | rfl | rfl | rfl <;> decide +kernel
  refine key (tyN d) ?_
  cases d <;> simp [tyN]
theorem isTy_int (d : PyData) : isTy d "int" = match d with | .int _ => true | .bool _ => true | _ => false := by
  cases d <;> kernel_rfl
theorem isTy_bool (d : PyData) : isTy d "bool" = match d with | .bool _ => true | _ => false := by
  cases d <;> kernel_rfl
theorem isTy_list (d : PyData) : isTy d "list" = match d with | .list _ => true | _ => false := by
  cases d <;> kernel_rfl
theorem isTy_tuple (d : PyData) : isTy d "tuple" = match d with | .tuple _ => true | _ => false := by
  cases d <;> kernel_rfl
/-- isinstance(x, T) -/
def rIsA (K : PySem.W.Frag) : List V → Hp → VK → Prop := fun xs H Q => ∃ (x : V) (d : PyData) (T : String), xs = [x, .ty T] ∧ goodT T = true ∧ Any K H x d ∧ Q (.bl (isTy d T)) H
/-- isinstance(x, (T, U)) -/
def rIsA2 (K : PySem.W.Frag) : List V → Hp → VK → Prop := fun xs H Q => ∃ (x : V) (d : PyData) (p : Addr) (T U : String), xs = [x, .ref p] ∧ H p = some (.tup [.ty T, .ty U]) ∧ goodT T = true ∧ goodT U = true ∧ Any K H x d ∧ Q (.bl (isTy d T || isTy d U)) H
section
variable {X : Cx}
theorem call_isA : CallR X (.builtin "isinstance") (rIsA X.K) := by
  intro pins s σ H xs us Q I r h
  obtain ⟨x, d, T, rfl, hT, hx, q⟩ := h
  exact call_isi pins s σ H _ us Q I r ⟨x, .ty T, _, _, isTy d T, rfl, .ty T, hx.ty, kit_ty (kit_good hT), q⟩
theorem call_isA2 : CallR X (.builtin "isinstance") (rIsA2 X.K) := by
  intro pins s σ H xs us Q I r h
  obtain ⟨x, d, p, T, U, rfl, hp, hT, hU, hx, q⟩ := h
  refine call_isiT pins s σ H _ us Q I r ⟨x, p, [.ty T, .ty U], _, [.type T, .type U], isTy d T || isTy d U, rfl, hp, .cons (.ty T) (.cons (.ty U) .nil), hx.ty, ?_, q⟩
  refine kitAny_cons (kit_ty (kit_good hT)) (fun e => ?_) fun e => by rw [e]; rfl
  rw [e]
  refine kitAny_cons (kit_ty (kit_good hU)) (fun e2 => ?_) fun e2 => by rw [e2]; rfl
  rw [e2]
  rfl
end
end K11

set_option Elab.async false
set_option linter.all false
set_option maxRecDepth 100000
set_option maxHeartbeats 4000000
/-! The built-ins by name. -/
namespace K11
open PySem PySem.Spec PyProof.Rows L2
theorem bt_isinstance : bootBuiltins "isinstance" = some (.builtin "isinstance") := by kernel_rfl
theorem bt_len : bootBuiltins "len" = some (.builtin "len") := by kernel_rfl
theorem bt_abs : bootBuiltins "abs" = some (.builtin "abs") := by kernel_rfl
theorem bt_max : bootBuiltins "max" = some (.builtin "max") := by kernel_rfl
theorem bt_min : bootBuiltins "min" = some (.builtin "min") := by kernel_rfl
theorem bt_all : bootBuiltins "all" = some (.builtin "all") := by kernel_rfl
theorem bt_repr : bootBuiltins "repr" = some (.builtin "repr") := by kernel_rfl
theorem bt_sorted : bootBuiltins "sorted" = some (.builtin "sorted") := by kernel_rfl
theorem bt_int : bootBuiltins "int" = some (.type "int") := by kernel_rfl
theorem bt_bool : bootBuiltins "bool" = some (.type "bool") := by kernel_rfl
theorem bt_list : bootBuiltins "list" = some (.type "list") := by kernel_rfl
theorem bt_tuple : bootBuiltins "tuple" = some (.type "tuple") := by kernel_rfl
theorem bt_set : bootBuiltins "set" = some (.type "set") := by kernel_rfl
theorem bt_enumerate : bootBuiltins "enumerate" = some (.type "enumerate") := by kernel_rfl
theorem bt_range : bootBuiltins "range" = some (.type "range") := by kernel_rfl
end K11

set_option Elab.async false
set_option linter.all false
set_option maxRecDepth 100000
set_option maxHeartbeats 4000000
/-! Rules of our own, second part: a tuple whose object is known (its index method), enumerate of a tuple, len(set(tuple)), sorted(tuple of whole numbers). -/
namespace K11
open PySem PySem.Spec PyProof.Rows L2
/-! ### a tuple whose object is known -/
def PT (F : Hp) (a : Addr) (xs : List V) : Prop := ∃ o : Obj, F a = some (.frz o (.tup xs)) ∧ o.dict = none ∧ o.cls = .type "tuple"
theorem PT.t {K : PySem.W.Frag} {F : Hp} {a : Addr} {xs : List V} (h : PT F a xs) : SqT K F a xs := by
  obtain ⟨o, e, _⟩ := h
  exact .inl (.inr ⟨o, e⟩)
theorem PT.up {F H : Hp} {a : Addr} {xs : List V} (h : PT F a xs) (e : Same F H) : PT H a xs := by
  obtain ⟨o, q, r⟩ := h
  exact ⟨o, e _ _ q, r⟩
section
variable {X : Cx}
/-- tuple(a list): its object is known -/
def rTupF (K : PySem.W.Frag) : List V → Hp → VK → Prop := fun xs H Q => ∃ (p : Addr) (ys : List V), xs = [.ref p] ∧ SqL K H p ys ∧ ∀ (l : Addr) (o : Obj), H l = none → o.dict = none → o.cls = .type "tuple" → Q (.ref l) (upd H l (.frz o (.tup ys)))
theorem call_tupF : CallR X (.type "tuple") (rTupF X.K) := by
  intro pins s σ H xs us Q I r h
  obtain ⟨p, ys, rfl, hq, q⟩ := h
  obtain ⟨u, rfl, rx⟩ := vals1 r
  cases rx
  obtain ⟨its, r', pl, hz⟩ := I.list hq
  have hlen := r'.length
  refine call_tuple_list pl.isList (fun h' kp => ?_) (by simp only [List.size_toArray] <;> omega)
  have I1 : Inv X pins σ H { s with heap := h' } := I.kept (t' := s.toks) kp
  have hat : (h'.push { cls := .type "tuple", data := .seq its.toArray }).get? h'.objs.size = some { cls := .type "tuple", data := .seq its.toArray } := Heap.get?_push_size _ rfl
  have I2 : Inv X pins σ (upd H h'.objs.size (.frz { cls := .type "tuple", data := .seq its.toArray } (.tup ys))) { s with heap := h'.push { cls := .type "tuple", data := .seq its.toArray } } :=
    I1.laid (t' := s.toks) (fun b o e => Heap.get?_push_of_some _ e) (Nat.le_refl _) (show ObjOk X.prog X.w _ _ _ (.frz { cls := .type "tuple", data := .seq its.toArray } (.tup ys)) from ⟨hat, hz, its, r', IsTup.new _ _⟩)
  exact ⟨.ref h'.objs.size, _, I2, rfl, q _ _ (I1.hok.fresh (Nat.le_refl _)) rfl rfl⟩
/-- t.index(e) of such a tuple -/
def tIdxT (K : PySem.W.Frag) (to : TE) (ta : TA) : TE := fun σ H Q => to σ H fun x H1 => (∃ a xs, x = .ref a ∧ PT H1 a xs) ∧ ta σ H1 fun vs H2 => rIndexT K x vs H2 Q
theorem pe_idxT {o e : Expr} {es : List Expr} {to : TE} {t : TA} {apos cpos : Pos} (ho : PE X o to) (ha : PA X (e :: es) t)
    (hbase : attributeBase o "index" X.env (eval o X.env) = eval o X.env := by rfl)
    (hfew : ((backTo cpos (starEach (e :: es) X.env)).all (fun x => !x.1) && (backToKw cpos (keywordEach [] X.env)).all (fun x => x.1.isSome)
      && decide ((e :: es).length + ([] : List Keyword).length + (if ([] : List Keyword).isEmpty then 0 else 1) < 30)) = true := by rfl)
    (hline : (apos.endLine == cpos.line) = true := by rfl) (hs : starEach (e :: es) X.env = (false, eval e X.env) :: starEach es X.env := by rfl) (hplain : (backTo cpos (starEach es X.env)).any (·.1) = false := by rfl) :
    PE X (.Call (.Attribute o "index" apos) (e :: es) [] cpos) (tIdxT X.K to t) := by
  refine ⟨fun pins s σ H Q I h => ?_⟩
  refine wpAny_Call_method_late hbase hfew hline rfl (thn (ho.run pins s σ H _ I h) fun v s1 ⟨x, H1, I1, r1, ty, q1⟩ => ?_)
  obtain ⟨a, xs, ex, ob, hob, hdc, hcl⟩ := ty
  subst ex
  obtain rfl : v = Value.ref a := r1
  obtain ⟨hat, _⟩ := (show ObjOk X.prog X.w H1 s1.heap a (.frz ob (.tup xs)) from I1.hok a _ hob)
  refine ⟨"tuple", "tuple.index", PySem.F.plainAttrs_tuple, PySem.F.slot_tuple_index, PySem.F.type_tuple_index, ⟨ob, hat, hcl⟩, fun b eb => by
    cases eb
    exact ⟨ob, hat, hdc⟩, ?_⟩
  have hA := ha.run cpos pins s1 σ H1 _ I1 q1
  rw [hs] at hA ⊢
  refine Calls.callWith_builtin (by show (false || (backTo cpos (starEach es X.env)).any (·.1)) = false; rw [hplain] <;> rfl) (Calls.evalArgs_plain ?_)
  exact thn hA fun us s2 ⟨vs, H2, I2, r2, q2⟩ => mt_indexT pins s2 σ H2 (.ref a) vs (.ref a) us Q I2 rfl r2 q2
/-! ### len(set(t)), t a tuple of whole numbers -/
def tLenSetT (K : PySem.W.Frag) (ta : TE) : TE := fun σ H Q => ta σ H fun x H1 => ∃ (l : Addr) (ns : List Int), x = .ref l ∧ SqT K H1 l (ns.map V.int) ∧ ns.length ≤ 1000 ∧ ∀ m : List Int, m.Nodup → (∀ k, k ∈ m ↔ k ∈ ns) → Q (.int (m.length : Nat)) H1
theorem pe_lenSetT {a : Expr} {ta : TE} {p p2 q pos : Pos} (hg : Gl X "len") (hm : X.mg "len" = none) (hg2 : Gl X "set") (hm2 : X.mg "set" = none) (ha : PE X a ta) (hc : X.calm = true := by rfl)
    (na : starEach [a] X.env = (false, eval a X.env) :: starEach [] X.env := by rfl) : PE X (.Call (.Name "len" p) [.Call (.Name "set" p2) [a] [] q] [] pos) (tLenSetT X.K ta) := by
  refine ⟨fun pins s σ H Q I h => ?_⟩
  refine Call_ (ld_blt I hg hm boot_len ?_)
  refine PyProof.Rows.callWith_builtin1 (PyProof.Rows.args_cons ?_ rfl) rfl rfl
  refine Call_ (ld_blt I hg2 hm2 PyProof.Rows.boot_set ?_)
  refine PyProof.Rows.callWith_type1 (PyProof.Rows.args_cons (thn (ha.run pins s σ H _ I h) fun v s1 ⟨x, H1, I1, r1, q1⟩ => PyProof.Rows.args_nil ?_) na) na rfl
  obtain ⟨l, ns, rfl, hq, hl, q1⟩ := q1
  cases r1
  obtain ⟨its, r, pt, hz⟩ := I1.tuple hq
  have hi : IntsAre its.toArray.toList ns := by simpa using r.ints
  refine call_set_tupI ns (I1.ok.hd hc) (show s1.heap.IsTuple l its.toArray from pt) hi (by unfold scanBound; omega) fun h' tk c R1 hcn k => ?_
  refine PyProof.Rows.args_nil ?_
  obtain ⟨o, es, ep, t, ho, hex, hdt, g, nd, hm2, hb, hf, hn, hr, hl2⟩ := R1
  have I2 : Inv X pins σ H1 { s1 with heap := h', toks := tk } := I1.kept k
  have hlen : (es.toList.map keyOf).length = es.size := by
    rw [List.length_map, Array.length_toList]
  have h63 : (es.size : Int) < 2 ^ 63 := by
    have : es.size ≤ 1000 := by omega
    omega
  refine call_len_set (s := { s1 with heap := h', toks := tk }) ho hex hdt hf h63 ⟨.int (((es.toList.map keyOf).length : Nat) : Int), H1, I2.tok _, ⟨tk + 1, by rw [hlen]⟩, q1 _ nd fun j => ?_⟩
  have z := hm2 j
  simpa using z.symm
/-! ### sorted(t), t a tuple of whole numbers -/
theorem collect_tup {prog : Program} {w : World} {A : Around} {E : Value → Shared → Prop} {s : Shared} {l : Addr} {vs : List Value} {Q : List Value → Shared → Prop} (hl : s.heap.IsTuple l vs.toArray)
    (h : Q vs { s with heap := (s.heap.push (seqObj "list" #[] 0)).update s.heap.objs.size (Obj.mapSeq (· ++ vs.toArray)) }) (hsz : vs.length ≤ sizeLine) : wpAny (model prog w) A (collect (.ref l)) Q E s := by
  obtain ⟨o, ho, hc, n, hd⟩ := id hl
  unfold collect
  refine wpAny_bind (wpAny_runValue (codeAny_builtin entry_proto_collect' ?_))
  show wpAny _ _ (do again (.builtin "list.__iadd__" ⟨[← newList [], .ref l], []⟩)) _ _ s
  refine wpAny_bind (wpAny_newList (wpAny_pure ⟨Code.quiet_builtin _ (by decide +kernel), codeAny_builtin entry_list_iadd' ?_⟩))
  show wpAny _ _ (Builtin.List.listExtendWith (.ref s.heap.objs.size) (.ref l) (.ref s.heap.objs.size)) _ _ { s with heap := s.heap.push (seqObj "list" #[] 0) }
  unfold Builtin.List.listExtendWith
  have ho' : (s.heap.push (seqObj "list" #[] 0)).get? l = some o := Heap.get?_push_of_some _ ho
  refine wpAny_bind (wpAny_typeOf (T := "tuple") ⟨o, ho', hc⟩ ?_)
  have ht : (Value.type "tuple" == Value.type "tuple") = true := by rfl
  rw [if_pos (by rw [ht]; simp)]
  refine wpAny_bind (listItems_at ho' hd ?_)
  refine wpAny_bind (listItems_at (xs := #[]) (n := 0) (Heap.get?_push_size _ rfl) rfl ?_)
  rw [if_neg (by simp)]
  refine wpAny_bind (listUpdate_at (xs := #[]) (n := 0) (Heap.get?_push_size _ rfl) rfl ?_ (Nat.zero_le _) (by show (#[] ++ vs.toArray).size ≤ sizeLine + 1; simp only [Array.size_append, List.size_toArray, List.length_nil]; omega))
  refine wpAny_pure ?_
  show wpAny (model prog w) A (do
      let o ← load s.heap.objs.size
      match o.data with
      | .seq xs _ => pure xs.toList
      | _ => unsupported "internal:collect") Q E { s with heap := (s.heap.push (seqObj "list" #[] 0)).update s.heap.objs.size (Obj.mapSeq (· ++ vs.toArray)) }
  refine wpAny_bind (wpAny_load (get?_update_seq (Heap.get?_push_size _ rfl) _) ?_)
  show wpAny _ _ (pure ((#[] : Array Value) ++ vs.toArray).toList) Q E _
  rw [show ((#[] : Array Value) ++ vs.toArray).toList = vs by simp]
  exact wpAny_pure h
def rSortTI (K : PySem.W.Frag) : List V → Hp → VK → Prop := fun vs H Q => ∃ (a : Addr) (ns : List Int), vs = [V.ref a] ∧ SqT K H a (ns.map V.int) ∧ ∀ (ns' : List Int) (p : Addr), ns'.Perm ns → H p = none → Q (.ref p) (upd H p (.lst (ns'.map V.int)))
theorem call_sortTI : CallR X (.builtin "sorted") (rSortTI X.K) := by
  intro pins s σ H vs us Q I r h
  obtain ⟨a, ns, rfl, hs, q⟩ := h
  obtain ⟨its, rv, hl, hz⟩ := I.tuple hs
  rw [Vals.ref1 r]
  have hi : IntsAre its ns := rv.ints
  have hzl : its.length ≤ sizeLine := by
    rw [← rv.length]
    exact hz
  refine Calls.call_function_entry kind_sorted plain_sorted entry_sorted (args_sorted1 _) ?_
  unfold Builtin.«sorted»
  refine wpAny_bind (m := checkCount "sorted" 1 1 _) (wpAny_pure ?_)
  refine wpAny_bind (collect_tup hl ?_ hzl)
  refine wpAny_bind (wpAny_newList ?_ (by rw [sizeLine_eq] at hzl ⊢; omega))
  have hsz : ((s.heap.push (seqObj "list" #[] 0)).update s.heap.objs.size (Obj.mapSeq (· ++ its.toArray))).objs.size = s.heap.objs.size + 1 := by
    rw [Heap.size_update, size_push']
  have hoL : (((s.heap.push (seqObj "list" #[] 0)).update s.heap.objs.size (Obj.mapSeq (· ++ its.toArray))).push (seqObj "list" its.toArray 0)).get? (s.heap.objs.size + 1) = some (seqObj "list" its.toArray 0) := by
    rw [← hsz]
    exact Heap.get?_push_size _ rfl
  show wpAny _ _ _ _ _ { s with heap := ((s.heap.push (seqObj "list" #[] 0)).update s.heap.objs.size (Obj.mapSeq (· ++ its.toArray))).push (seqObj "list" its.toArray 0) }
  rw [hsz]
  refine wpAny_bind (wpAny_holding (wpAny_call_entry slot_list_sort ⟨_, hoL, rfl⟩ entry_list_sort (SrtO.list_sort_ord SrtO.swo_int hoL hzl (fun h2 => SrtO.ints_sortable hi h2) fun out h1 h2 => ⟨_, rfl, ?_⟩) (args_list_sort _)))
  obtain ⟨k1, k2, _⟩ := SrtO.ints_out hi h1 h2
  obtain ⟨ep, he'⟩ := PyProof.Rows.sortedAll_at s.heap its out.toArray
  have hlen : ((out.map SrtO.iv).map V.int).length ≤ sizeLine := by
    rw [List.length_map, k2.length_eq]
    rw [List.length_map] at hz
    exact hz
  exact wpAny_pure ⟨_, rfl, .ref _, upd H (s.heap.objs.size + 1) (.lst ((out.map SrtO.iv).map V.int)), I.laid (t' := s.toks) (fun _ _ => PyProof.Rows.sortedAll_old) (Nat.le_succ _) ⟨hlen, out, ep, vals_of_ints k1, he'⟩, rfl, q _ _ k2 (I.hok.fresh (Nat.le_succ _))⟩
end
/-! ### enumerate(t), t a tuple -/
section
variable {prog : Program} {w : World} {A : Around} {E : Value → Shared → Prop} {s : Shared}
theorem meets_enumT (l : Addr) (items : Array Value) :
    Meets (Builtin.«enumerate.__new__» ⟨[.type "enumerate", .ref l], []⟩) (fun _ R s => s.heap.IsTuple l items ∧
      R (.ok (.ret (.ref (s.heap.push { cls := .type "tuple_iterator", data := .fields #[.ref l, .int 0 0] }).objs.size)))
        { s with heap := (s.heap.push { cls := .type "tuple_iterator", data := .fields #[.ref l, .int 0 0] }).push { cls := .type "enumerate", data := .fields #[.none, .bool false, .ref s.heap.objs.size, rawInt 0, .none, .none] } }) :=
  .of_wp fun prog w A R s h => by
    obtain ⟨hp, g, d, tk, os⟩ := s
    obtain ⟨hL, h⟩ := h
    obtain ⟨⟨c, dct, dt, sl⟩, hl, hc, n, hd⟩ := id hL
    replace hc : c = .type "tuple" := hc
    replace hd : dt = .seq items n := hd
    subst hc hd
    have hsub := sub_enumerate
    wp_walk using AutoSeq1.wpAny_loadPart' hl
    refine wpAny_stack_any fun st => wpAny_pure ?_
    split
    · rename_i c _ _ _ _ _
      cases (c == Value.type "enumerate")
      · wp_walk using AutoSeq1.wpAny_loadPart' hl, wpAny_pyIter_tuple hL
        exact ⟨_, rfl, h⟩
      · wp_walk using AutoSeq1.wpAny_loadPart' hl, wpAny_pyIter_tuple hL
        exact ⟨_, rfl, h⟩
    · wp_walk using AutoSeq1.wpAny_loadPart' hl, wpAny_pyIter_tuple hL
      exact ⟨_, rfl, h⟩
theorem call_enumT {l : Addr} {items : Array Value} {Q : Value → Shared → Prop} (hL : s.heap.IsTuple l items)
    (h : ∀ h', IsEnum h' (s.heap.objs.size + 1) s.heap.objs.size 0 .none → h'.IsTupleIter s.heap.objs.size l 0 → h'.objs.size = s.heap.objs.size + 2 →
      (∀ b o, s.heap.get? b = some o → h'.get? b = some o) → Q (.ref (s.heap.objs.size + 1)) { s with heap := h' }) :
    wpAny (model prog w) A (call (.type "enumerate") [.ref l]) Q E s := by
  refine callType_new F.called_enumerate (by decide) (F.typeCall_enumerate_1 _) (F.newCall_enumerate_1 _) (fun obj => F.args_object_init_2 obj _) F.entry_enumerate_new
    (meets_enumT l items) ⟨hL, ?_⟩
  have hz : (s.heap.push { cls := .type "tuple_iterator", data := .fields #[.ref l, .int 0 0] }).objs.size = s.heap.objs.size + 1 := Heap.size_push ..
  show _ ∧ _
  rw [hz]
  have he : IsEnum ((s.heap.push { cls := .type "tuple_iterator", data := .fields #[.ref l, .int 0 0] }).push
      { cls := .type "enumerate", data := .fields #[.none, .bool false, .ref s.heap.objs.size, rawInt 0, .none, .none] }) (s.heap.objs.size + 1) s.heap.objs.size 0 .none := by
    have := Heap.get?_push_size (s.heap.push { cls := .type "tuple_iterator", data := .fields #[.ref l, .int 0 0] })
      (o := { cls := .type "enumerate", data := .fields #[.none, .bool false, .ref s.heap.objs.size, rawInt 0, .none, .none] }) rfl
    rw [hz] at this
    exact this
  refine ⟨⟨_, he, rfl⟩, h _ he ⟨_, Heap.get?_push_of_some _ (Heap.get?_push_size _ rfl), rfl, rfl⟩ (by rw [Heap.size_push, hz]) fun b o x => Heap.get?_push_of_some _ (Heap.get?_push_of_some _ x)⟩
end
/-- the tuple at a, each item in a new pair -/
def Itet (K : PySem.W.Frag) (a : Addr) : It :=
  ⟨fun i H => ∃ (xs : List V) (x : V), SqT K H a xs ∧ xs[i]? = some x, fun i H v H' => ∃ T x, v = .ref T ∧ H T = none ∧ H' = upd H T (.tup [.int (i : Nat), x]) ∧ ∀ xs, SqT K H a xs → xs[i]? = some x, fun i H => ∃ xs : List V, SqT K H a xs ∧ xs.length ≤ i⟩
theorem turn_enumT {P : Program} {w : World} {K : PySem.W.Frag} {elts : List Expr} {kk : Nat} {tpos : Pos} (a e it : Addr) :
    Turn P w K (.Tuple elts kk tpos) (Itet K a) [e, it] e (fun i h => (∃ old, IsEnum h e it ((i : Nat) : Int) old) ∧ h.IsTupleIter it a i ∧ e ≠ it) where
  mem := by simp
  obj := fun i h st b hb => by
    obtain ⟨⟨old, he⟩, ⟨o, ho, hc, hd⟩, _⟩ := st
    have e' : b = e ∨ b = it := by simpa using hb
    rcases e' with z | z
    · rw [z]
      exact ⟨_, he, fun v q => nomatch q⟩
    · rw [z]
      exact ⟨o, ho, fun v q => by
        rw [hd] at q
        cases q⟩
  keep := fun i h h' st k => let ⟨⟨old, he⟩, hi, hne⟩ := st
    ⟨⟨old, k e (by simp) _ he⟩, hi.at fun o q => k it (by simp) o q, hne⟩
  item := by
    intro X hP hw hK hc i pins s σ H E I hf st hg
    subst hP hw hK
    obtain ⟨⟨old, he⟩, hit, hne⟩ := st
    obtain ⟨xs, x, hq, hx⟩ := hg
    obtain ⟨its, rv, p, hz⟩ := I.tuple hq
    obtain ⟨u, hu, ru⟩ := rv.get hx
    have hel : e < s.heap.objs.size := Heap.lt_size he
    have hil : it < s.heap.objs.size := by
      obtain ⟨_, q, _⟩ := hit
      exact Heap.lt_size q
    have hta : s.heap.IsTuple a its.toArray := p
    have hai : a ≠ it := fun z => by
      obtain ⟨o1, e1, c1, _⟩ := hta
      obtain ⟨o2, e2, c2, _⟩ := hit
      rw [z, e2] at e1
      cases e1
      rw [c2] at c1
      exact absurd c1 (by intro y; injection y with y; exact absurd y (by decide))
    have hae : e ∉ [it, a] := fun z => by
      have z' : e = it ∨ e = a := by simpa using z
      rcases z' with z' | z'
      · exact hne z'
      · obtain ⟨o1, e1, c1, _⟩ := hta
        have he2 : s.heap.get? e = _ := he
        rw [z', e1] at he2
        have he3 := Option.some.inj he2
        rw [he3] at c1
        exact absurd c1 (by intro y; injection y with y; exact absurd y (by decide))
    refine wpAny_pyNext_enum_itemD (Draws.tuple (by rw [show (X.A.in1).handled = X.A.handled from rfl]; exact I.ok.hd hc) it a hai its.toArray) he ⟨hit, hta⟩ (by
      have := (List.getElem?_eq_some_iff.mp hu).1
      simpa using this) hne hae fun x1 h' tk hP1 ho hst' hT hsz hk => ?_
    have hx1 : x1 = u := by
      have hP1 : its.toArray[i]? = some x1 := hP1
      rw [List.getElem?_toArray, hu] at hP1
      exact (Option.some.inj hP1).symm
    subst hx1
    refine ⟨_, rfl, wpAny_letOwnedTupleGo_enum (s := { s with heap := h', toks := tk + 1 }) ho fun h'' he' sb => ?_⟩
    have hT2 : h''.get? s.heap.objs.size = some { cls := .type "tuple", data := .seq #[.int i tk, x1] } := (sb.2 _ (Nat.ne_of_gt hel)).trans hT
    have new : ObjOk X.prog X.w (upd H s.heap.objs.size (.tup [.int (i : Nat), x])) h'' s.heap.objs.size (.tup [.int (i : Nat), x]) :=
      ⟨by show 2 ≤ sizeLine; decide, [.int i tk, x1], .cons ⟨_, rfl⟩ (.cons ru .nil), ⟨_, hT2, rfl, _, rfl⟩⟩
    have I1 : Inv X pins σ (upd H s.heap.objs.size (.tup [.int (i : Nat), x])) { s with heap := h'', toks := tk + 1 } :=
      I.turnedNew (ch := [e, it]) (fun b ob hb q => (sb.2 b (fun z => hb (by simp [z]))).trans (hk b ob (fun z => hb (by simp [z])) (fun z => hb (by simp [z])) q)) hf (Nat.le_refl _) new
    refine ⟨.ref s.heap.objs.size, _, I1, rfl, ⟨_, x, rfl, I.hok.fresh (Nat.le_refl _), rfl, fun ys hy => by rw [I.tuple_inj hy hq]; exact hx⟩, ⟨⟨x1, ?_⟩, hst'.1.at fun o q => (sb.2 it (Ne.symm hne)).trans q, hne⟩, fun b hb => ?_⟩
    · have e1 : ((i + 1 : Nat) : Int) = (i : Int) + 1 := by omega
      rw [e1]
      exact he'
    · have hb' : b < s.heap.objs.size := by
        have e' : b = e ∨ b = it := by simpa using hb
        rcases e' with z | z
        · rw [z]
          exact hel
        · rw [z]
          exact hil
      rw [upd_ne (Nat.ne_of_lt hb')]
      exact (hf b hb).1
  done := by
    intro X hP hw hK hc i pins s σ H E I hf st hg
    subst hP hw hK
    obtain ⟨⟨old, he⟩, hit, hne⟩ := st
    obtain ⟨xs, hq, hx⟩ := hg
    obtain ⟨its, rv, p, hz⟩ := I.tuple hq
    obtain ⟨f0, f1, f2, f3, f4, f5⟩ := hf it (by simp)
    have hl := rv.length
    have hta : s.heap.IsTuple a its.toArray := p
    have hT : s.TypeIs (.ref e) "enumerate" := ⟨_, he, rfl⟩
    unfold pyNext
    refine wpAny_bind (wpAny_attempt (wpAny_callSpecial?_slot (name := Str.ofString "__next__") hT F.slot_enumerate_next
      (wpAny_call_entry F.slot_enumerate_next hT F.entry_enumerate_next ?_ (F.args_enumerate_next_1 _))))
    show wpAny _ _ (field (.ref e) 2 >>= _) _ _ _
    refine wpAny_bind (wpAny_field he rfl (x := .ref it) rfl ?_)
    refine wpAny_bind (wpAny_nextOf_tuple_end (by rw [show (X.A.in1).handled = X.A.handled from rfl]; exact I.ok.hd hc) hit hta (by simp; omega) fun h' x he' hx' => ?_)
    obtain ⟨o, ho, hc⟩ := hx'
    refine wpAny_bind (wpAny_isInstance (T := "StopIteration") (b := true) ⟨o, ho, hc⟩ isSubtype_stop ?_)
    exact wpAny_pure ⟨rfl, I.turned (t' := s.toks) (fun b o hb q => he' b o hb q) f0 f1 f3 f4 f5⟩
  self := fun A i s Q E st h => let ⟨⟨_, he⟩, _⟩ := st
    wpAny_pyIter_enum he h
def iEnumT (K : PySem.W.Frag) (ta : TA) : TI := fun σ H R => ta σ H fun vs H1 => ∃ a xs, vs = [.ref a] ∧ SqT K H1 a xs ∧ R (Itet K a) H1
theorem pi_enumT {X : Cx} {e : Expr} {ta : TA} {p pos tpos : Pos} {elts : List Expr} {kk : Nat} (hg : Gl X "enumerate") (hm : X.mg "enumerate" = none) (ha : PA X [e] ta) (hs : starEach [e] X.env = [(false, eval e X.env)] := by rfl) :
    PI X (.Tuple elts kk tpos) (.Call (.Name "enumerate" p) [e] [] pos) (iEnumT X.K ta) := by
  refine ⟨fun pins s σ H R I h => ?_⟩
  refine Call_ (ld_blt I hg hm boot_enumerate (PyProof.Rows.callWith_type1 (thn (ha.run pos pins s σ H _ I h) fun us s1 ⟨vs, H1, I1, r1, q1⟩ => ?_) hs rfl))
  obtain ⟨a, xs, ex, hq, q⟩ := q1
  subst ex
  cases r1 with
  | cons r rr =>
    cases rr
    cases r
    obtain ⟨its, rv, p', hz⟩ := I1.tuple hq
    refine call_enumT (show s1.heap.IsTuple a its.toArray from p') fun h' he hit hsz hk => wpAny_pyIter_enum he ?_
    have I2 : Inv X pins σ H1 { s1 with heap := h' } := I1.kept (t' := s1.toks) hk
    refine ⟨s1.heap.objs.size + 1, [s1.heap.objs.size + 1, s1.heap.objs.size], _, _, H1, rfl, I2, turn_enumT a (s1.heap.objs.size + 1) s1.heap.objs.size, ⟨⟨.none, he⟩, hit, Nat.succ_ne_self _⟩, fun b hb => ?_, q⟩
    have e' : b = s1.heap.objs.size + 1 ∨ b = s1.heap.objs.size := by simpa using hb
    have hle : s1.heap.objs.size ≤ b := by
      rcases e' with z | z
      · rw [z]
        exact Nat.le_add_right _ _
      · rw [z]
        exact Nat.le_refl _
    exact I1.fpOk hle (I1.hok.fresh hle)
end K11

set_option Elab.async false
set_option linter.all false
set_option maxRecDepth 100000
set_option maxHeartbeats 4000000
/-! What the program computes, in plain Lean; a machine on the heap. -/
namespace K11
open PySem PySem.Spec PyProof.Rows L2
/-! ### plain -/
/-- the state that x leads to from s -/
def dl (δ : List (List Nat)) (s x : Nat) : Nat := (δ.getD s []).getD x 0
def ledM (δ : List (List Nat)) (s : Nat) (w : List Nat) : Nat := w.foldl (fun s x => dl δ s x) s
structure WF (c n : Nat) (δ : List (List Nat)) : Prop where
  len : δ.length = n
  row : ∀ r ∈ δ, r.length = c
  to : ∀ r ∈ δ, ∀ t ∈ r, t < n
  n1 : 1 ≤ n
  n6 : n ≤ 6
  c1 : 1 ≤ c
  c3 : c ≤ 3
/-- a word of the machine -/
def Word (c : Nat) (w : List Nat) : Prop := ∀ x ∈ w, x < c
def kerOf (l : List Nat) : List Nat := l.map fun s => l.idxOf s
def effM (δ : List (List Nat)) (w : List Nat) : List Nat := (List.range δ.length).map fun s => ledM δ s w
def kerM (δ : List (List Nat)) (w : List Nat) : List Nat := kerOf (effM δ w)
def doesM (δ : List (List Nat)) (x : Nat) : List Nat := δ.map fun r => r.getD x 0
def aheadM (δ : List (List Nat)) (x : Nat) (κ : List Nat) : List Nat := kerOf ((doesM δ x).map fun s => κ.getD s 0)
/-- no two states that a word brings together, whose images it keeps apart -/
def NoFault (δ : List (List Nat)) (c : Nat) (ch : List Nat) : Prop := ∀ s t w, s < δ.length → t < δ.length → Word c w → ledM δ s w = ledM δ t w → ledM δ (ch.getD s 0) w = ledM δ (ch.getD t 0) w
def BlindM (δ : List (List Nat)) (c : Nat) : Prop := ¬ ∀ x, x < c → NoFault δ c (doesM δ x)
/-- the greatest kernel: one that no command changes -/
def IsGreat (δ : List (List Nat)) (c : Nat) (g : List Nat) : Prop := (∃ w, Word c w ∧ g = kerM δ w) ∧ ∀ x, x < c → aheadM δ x g = g
section
variable {c n : Nat} {δ : List (List Nat)}
theorem WF.get (W : WF c n δ) {s : Nat} (h : s < n) : ∃ r, δ[s]? = some r ∧ r.length = c ∧ ∀ t ∈ r, t < n := by
  have hs : s < δ.length := by rw [W.len]; exact h
  have m := List.getElem_mem hs
  exact ⟨δ[s], List.getElem?_eq_getElem hs, W.row _ m, W.to _ m⟩
theorem WF.dl_at (W : WF c n δ) {s x : Nat} (h : s < n) (hx : x < c) : ∃ r, δ[s]? = some r ∧ r[x]? = some (dl δ s x) ∧ dl δ s x < n := by
  obtain ⟨r, e, hl, ht⟩ := W.get h
  have hx' : x < r.length := by rw [hl]; exact hx
  have ed : dl δ s x = r[x] := by
    have e1 : δ.getD s [] = r := by rw [List.getD_eq_getElem?_getD, e] <;> rfl
    unfold dl
    rw [e1, List.getD_eq_getElem?_getD, List.getElem?_eq_getElem hx'] <;> rfl
  exact ⟨r, e, by rw [ed]; exact List.getElem?_eq_getElem hx', by rw [ed]; exact ht _ (List.getElem_mem hx')⟩
theorem WF.led_lt (W : WF c n δ) : ∀ (w : List Nat) (s : Nat), s < n → Word c w → ledM δ s w < n
  | [], s, h, _ => h
  | x :: w, s, h, hw => by
    obtain ⟨_, _, _, hd⟩ := W.dl_at h (hw x List.mem_cons_self)
    exact W.led_lt w (dl δ s x) hd fun y hy => hw y (List.mem_cons_of_mem _ hy)
theorem led_snoc (s : Nat) (w : List Nat) (x : Nat) : ledM δ s (w ++ [x]) = dl δ (ledM δ s w) x := by
  unfold ledM
  rw [List.foldl_append] <;> rfl
theorem led_cons (s x : Nat) (w : List Nat) : ledM δ s (x :: w) = ledM δ (dl δ s x) w := rfl
theorem led_app (s : Nat) (u w : List Nat) : ledM δ s (u ++ w) = ledM δ (ledM δ s u) w := by
  unfold ledM
  rw [List.foldl_append]
theorem eff_len (w : List Nat) : (effM δ w).length = δ.length := by
  unfold effM
  rw [List.length_map, List.length_range]
theorem eff_at {s : Nat} (w : List Nat) (h : s < δ.length) : (effM δ w)[s]? = some (ledM δ s w) := by
  unfold effM
  rw [List.getElem?_map, List.getElem?_range h] <;> rfl
theorem kerOf_len (l : List Nat) : (kerOf l).length = l.length := by
  unfold kerOf
  rw [List.length_map]
theorem kerOf_at {l : List Nat} {i s : Nat} (h : l[i]? = some s) : (kerOf l)[i]? = some (l.idxOf s) := by
  unfold kerOf
  rw [List.getElem?_map, h] <;> rfl
theorem does_at {s : Nat} (x : Nat) (h : s < δ.length) : (doesM δ x)[s]? = some (dl δ s x) := by
  have e1 : δ.getD s [] = δ[s] := by rw [List.getD_eq_getElem?_getD, List.getElem?_eq_getElem h] <;> rfl
  unfold doesM dl
  rw [List.getElem?_map, List.getElem?_eq_getElem h, e1] <;> rfl
theorem does_len (x : Nat) : (doesM δ x).length = δ.length := by
  unfold doesM
  rw [List.length_map]
/-- where a value stands first -/
theorem idx_first {l : List Nat} {s : Nat} (h : s ∈ l) : l[l.idxOf s]? = some s ∧ ∀ m z, m < l.idxOf s → l[m]? = some z → z ≠ s := by
  have hlt : l.idxOf s < l.length := List.idxOf_lt_length_of_mem h
  refine ⟨?_, fun m z hm hz e => ?_⟩
  · rw [List.getElem?_eq_getElem hlt, List.getElem_idxOf hlt]
  · have hml : m < l.length := Nat.lt_trans hm hlt
    have e2 : l[m] = s := by
      rw [List.getElem?_eq_getElem hml] at hz
      rw [Option.some.inj hz, e]
    have q := List.not_of_lt_findIdx (p := (· == s)) (xs := l) (by simpa [List.idxOf] using hm)
    simp [e2] at q
end
/-! ### the machine on the heap -/
/-- what a machine object is: frozen; d is the address of its _found -/
structure Mach (K : PySem.W.Frag) (F : Hp) (m : V) (c n : Nat) (δ : List (List Nat)) (d : Addr) : Prop where
  wf : WF c n δ
  ex : ∃ (a dx : Addr) (fs : List (Str × V)) (v : V), m = .ref a ∧ F a = some (.ins (He.ga K "Machine") dx fs) ∧ fs.lookup ("commands" : Str) = some (vN c) ∧ fs.lookup ("states" : Str) = some (vN n) ∧ fs.lookup ("steps" : Str) = some v ∧ Dp K F v (.tuple (δ.map tN)) ∧ fs.lookup ("_found" : Str) = some (.ref d) ∧
    fs.lookup ("found" : Str) = none ∧ fs.lookup ("does" : Str) = none
theorem Mach.up {K : PySem.W.Frag} {F H : Hp} {m : V} {c n : Nat} {δ : List (List Nat)} {d : Addr} (M : Mach K F m c n δ d) (e : Same F H) : Mach K H m c n δ d := by
  obtain ⟨W, a, dx, fs, v, h1, h2, h3, h4, h5, h6, h7⟩ := M
  exact ⟨W, a, dx, fs, v, h1, e _ _ h2, h3, h4, h5, h6.up e, h7⟩
/-- the key of a change -/
def chKey (w : List Nat) : PyData := .tuple [.str "change", tN w]
def grKey : PyData := .str "greatest kernel"
/-- what _found holds is right -/
structure Good (K : PySem.W.Frag) (F : Hp) (c : Nat) (δ : List (List Nat)) (kd : PyData) (v : V) : Prop where
  ch : ∀ x, x < c → kd = chKey (doesM δ x) → ∃ (p : Addr) (a b : V), v = .ref p ∧ SqT K F p [a, b] ∧ (a = .non ↔ NoFault δ c (doesM δ x))
  gr : kd = grKey → ∃ g, IsGreat δ c g ∧ Dp K F v (tN g)
/-- the state of _found -/
structure Fnd (K : PySem.W.Frag) (w : World) (F H : Hp) (c : Nat) (δ : List (List Nat)) (d : Addr) : Prop where
  ex : ∃ xs : List MixV, Mu F H d (mixO w d xs) ∧ (∀ e ∈ xs, MixD e.1 ∧ Dp K F e.2.1 e.1 ∧ Good K F c δ e.1 e.2.2 ∧ (e.1 = grKey ∨ ∃ x, x < c ∧ e.1 = chKey (doesM δ x))) ∧ (xs.map fun e => nkey e.1).Nodup
section
variable {K : PySem.W.Frag} {w : World} {S : List Addr} {F H F1 H1 : Hp} {c : Nat} {δ : List (List Nat)} {d : Addr}
theorem Good.up {kd : PyData} {v : V} (g : Good K F c δ kd v) (e : Same F F1) : Good K F1 c δ kd v :=
  ⟨fun x hx hk => by
    obtain ⟨p, a, b, h1, h2, h3⟩ := g.ch x hx hk
    exact ⟨p, a, b, h1, same_t e h2, h3⟩, fun hk => by
    obtain ⟨q, h1, h2⟩ := g.gr hk
    exact ⟨q, h1, h2.up e⟩⟩
theorem Fnd.step (f : Fnd K w F H c δ d) (s : Stp S F H F1 H1) (h : d ∉ S) : Fnd K w F1 H1 c δ d := by
  obtain ⟨xs, m, k, nd⟩ := f.ex
  refine ⟨xs, s.mu m h, fun e he => ?_, nd⟩
  obtain ⟨a1, a2, a3, a4⟩ := k e he
  exact ⟨a1, a2.up s.ff, a3.up s.ff, a4⟩
theorem Fnd.step0 (f : Fnd K w F H c δ d) (s : Stp [] F H F1 H1) : Fnd K w F1 H1 c δ d := f.step s fun z => by cases z
theorem Fnd.rs (f : Fnd K w F H c δ d) (h : d ∈ S) : Fnd K w F (K11.rs S H) c δ d := by
  obtain ⟨xs, m, k⟩ := f.ex
  exact ⟨xs, m.rs h, k⟩
theorem Fnd.unrs (f : Fnd K w F (K11.rs S H) c δ d) : Fnd K w F H c δ d := by
  obtain ⟨xs, m, k⟩ := f.ex
  exact ⟨xs, m.unrs, k⟩
theorem Fnd.there (f : Fnd K w F H c δ d) : H d ≠ none := by
  obtain ⟨xs, m, k⟩ := f.ex
  rw [m.at_]
  simp
end
end K11

set_option Elab.async false
set_option linter.all false
set_option maxRecDepth 100000
set_option maxHeartbeats 4000000
/-! Rules whose readings bear a name. -/
namespace K11
open PySem PySem.Spec PyProof.Rows L2
abbrev rAdd_ : R2 := rI0 fun i j => .int (i + j)
abbrev rSub_ : R2 := rI0 fun i j => .int (i - j)
abbrev rMul_ : R2 := rI CMul fun i j => .int (i * j)
abbrev rDiv_ : R2 := rI CDiv fun i j => .int (i / j)
abbrev rMod_ : R2 := rI (fun _ j => 0 < j) fun i j => .int (i % j)
abbrev rLt_ : R2 := rI0 fun i j => .bl (decide (i < j))
abbrev rLe_ : R2 := rI0 fun i j => .bl (decide (i ≤ j))
abbrev rGt_ : R2 := rI0 fun i j => .bl (decide (j < i))
abbrev rGe_ : R2 := rI0 fun i j => .bl (decide (j ≤ i))
abbrev rNeg_ : V → Hp → VK → Prop := rU fun i => .int (-i)
def rLen_ (K : PySem.W.Frag) : List V → Hp → VK → Prop := fun xs H Q => ∃ p ys, xs = [.ref p] ∧ (SqL K H p ys ∨ SqT K H p ys) ∧ Q (.int ys.length) H
def rTup_ (K : PySem.W.Frag) : List V → Hp → VK → Prop := fun xs H Q => ∃ p ys, xs = [.ref p] ∧ ((SqL K H p ys ∧ ∀ l, H l = none → Q (.ref l) (upd H l (.tup ys))) ∨ (SqT K H p ys ∧ Q (.ref p) H))
def rLst_ (K : PySem.W.Frag) : List V → Hp → VK → Prop := fun xs H Q => ∃ p ys, xs = [.ref p] ∧ (SqL K H p ys ∨ SqT K H p ys) ∧ ∀ l, H l = none → Q (.ref l) (upd H l (.lst ys))
def rInt_ : List V → Hp → VK → Prop := fun xs H Q => (∃ i, xs = [.int i] ∧ Q (.int i) H) ∨ ∃ k, xs = [.bl k] ∧ Q (.int (if k then 1 else 0)) H
def rBool_ : List V → Hp → VK → Prop := fun xs H Q => (∃ i, xs = [.int i] ∧ Q (.bl (i != 0)) H) ∨ ∃ k, xs = [.bl k] ∧ Q (.bl k) H
def rMax_ : List V → Hp → VK → Prop := fun xs H Q => ∃ i j, xs = [.int i, .int j] ∧ Q (.int (if j > i then j else i)) H
def rMin_ : List V → Hp → VK → Prop := fun xs H Q => ∃ i j, xs = [.int i, .int j] ∧ Q (.int (if j < i then j else i)) H
def rAbs_ : List V → Hp → VK → Prop := fun xs H Q => ∃ i, xs = [.int i] ∧ Q (.int (if i < 0 then -i else i)) H
section
variable {X : Cx}
theorem cl_len : CallR X (.builtin "len") (rLen_ X.K) := call_len_seq
theorem cl_tup : CallR X (.type "tuple") (rTup_ X.K) := call_tuple_of
theorem cl_lst : CallR X (.type "list") (rLst_ X.K) := call_list_of
theorem cl_int : CallR X (.type "int") rInt_ := call_int1
theorem cl_bool : CallR X (.type "bool") rBool_ := call_bool1
theorem cl_max (hc : X.calm = true) : CallR X (.builtin "max") rMax_ := call_max2 hc
theorem cl_min (hc : X.calm = true) : CallR X (.builtin "min") rMin_ := call_min2 hc
theorem cl_abs : CallR X (.builtin "abs") rAbs_ := call_abs
end
end K11

set_option Elab.async false
set_option linter.all false
set_option maxRecDepth 100000
set_option maxHeartbeats 4000000
/-! The small tests: is_integer, is_number, is_index, is_sequence; idle. -/
namespace K11
open PySem PySem.Spec PyProof.Rows L2
def isInt : PyData → Bool
  | .int _ => true
  | _ => false
/-- a whole number at least 0 -/
def isNum : PyData → Bool
  | .int i => decide (0 ≤ i)
  | _ => false
def isIx (d : PyData) (n : Int) : Bool := match d with
  | .int i => decide (0 ≤ i) && decide (i < n)
  | _ => false
def isSeq : PyData → Bool
  | .list _ => true
  | .tuple _ => true
  | _ => false
def spIsInt (K : PySem.W.Frag) : Sp := fun vs H Q _ => ∃ (F : Hp) (v : V) (d : PyData), vs = [v] ∧ Same F H ∧ Any K F v d ∧ Back [] F H Q fun r _ _ => r = .bl (isInt d)
def spIsNum (K : PySem.W.Frag) : Sp := fun vs H Q _ => ∃ (F : Hp) (v : V) (d : PyData), vs = [v] ∧ Same F H ∧ Any K F v d ∧ Back [] F H Q fun r _ _ => r = .bl (isNum d)
def spIsIx (K : PySem.W.Frag) : Sp := fun vs H Q _ => ∃ (F : Hp) (v : V) (d : PyData) (n : Int), vs = [v, .int n] ∧ Same F H ∧ Any K F v d ∧ Back [] F H Q fun r _ _ => r = .bl (isIx d n)
def spIsSeq (K : PySem.W.Frag) : Sp := fun vs H Q _ => ∃ (F : Hp) (v : V) (d : PyData), vs = [v] ∧ Same F H ∧ Any K F v d ∧ Back [] F H Q fun r _ _ => r = .bl (isSeq d)
def spIdle (K : PySem.W.Frag) : Sp := fun vs H Q _ => ∃ (F : Hp) (n : Nat), vs = [vN n] ∧ Same F H ∧ n ≤ 1000 ∧ Back [] F H Q fun r F' _ => Dp K F' r (tN (List.range n))
section
variable {P : Program} {w : World} {K : PySem.W.Frag} {mg : Str → Option Value} {base : Heap}
theorem rgV_nat (n : Nat) : rgV 0 (n : Int) = (List.range n).map vN := by
  unfold rgV
  rw [Int.sub_zero, Int.toNat_natCast]
  exact List.map_congr_left fun i _ => by rw [Int.zero_add]
theorem any_scal {F : Hp} {v : V} {i : Int} (h : Any K F v (.int i)) : v = .int i := by
  cases h with
  | d h => exact h.int_inv
theorem sc_is_integer : FnScope ["value"] ["value"] (defScope s_is_integer) := ⟨rfl, rfl, rfl, by decide +kernel, rfl, by decide +kernel, by decide +kernel⟩
theorem bn_is_integer : BindN d_is_integer ["value"] := fun _ _ _ _ _ _ us hl => match us, hl with | [_], _ => rfl
theorem ok_is_integer (T : Top P w K mg base) : Cal P w K mg base d_is_integer "is_integer" 1 ["value"] (spIsInt K) := by
  refine T.cal 0 0 rfl rfl rfl rfl rfl sc_is_integer bn_is_integer (fun vs H Q E h => ?_) fun f cdv A outer s H vs Q E hr h => ?_
  · obtain ⟨_, _, _, rfl, _⟩ := h
    rfl
  have nd := (sc_is_integer).nd
  refine ⟨_, (pss_one (ps_ret (L2.pe_and (pe_callB call_isA (by rfl) T.n_isinstance bt_isinstance (pa_cons (pv 0) (pa_cons (pe_bltn (v := .ty "int") (by rfl) T.n_int bt_int rfl) pa_nil))) (pe_one (pe_not (pe_callB call_isA (by rfl) T.n_isinstance bt_isinstance (pa_cons (pv 0) (pa_cons (pe_bltn (v := .ty "bool") (by rfl) T.n_bool bt_bool rfl) pa_nil)))))))), ?_⟩
  obtain ⟨F, v, d, rfl, hF, hv, q⟩ := h
  have st : Stp [] F H F H := Stp.refl hF
  refine ⟨v, rfl, v, d, "int", rfl, rfl, hv.up hF, isTy d "int", rfl, ?_⟩
  rw [isTy_int]
  have tail : ∀ (b : Bool), isInt d = !b → isTy d "bool" = b → tNotV (tCB (rIsA K) (tCons (tVar 0) (tCons (tC (.ty "bool")) tNil))) (L2.start ["value"] [v]) H Q := fun b e1 e2 => by
    refine ⟨v, rfl, v, d, "bool", rfl, rfl, hv.up hF, b, by rw [e2], ?_⟩
    exact q _ _ _ st (by rw [e1])
  cases d with
  | int i => exact tail false rfl (isTy_bool _)
  | bool b => exact tail true rfl (isTy_bool _)
  | none => exact q _ _ _ st rfl
  | str x => exact q _ _ _ st rfl
  | list x => exact q _ _ _ st rfl
  | tuple x => exact q _ _ _ st rfl
  | dict x => exact q _ _ _ st rfl

theorem sc_is_number : FnScope ["value"] ["value"] (defScope s_is_number) := ⟨rfl, rfl, rfl, by decide +kernel, rfl, by decide +kernel, by decide +kernel⟩
theorem bn_is_number : BindN d_is_number ["value"] := fun _ _ _ _ _ _ us hl => match us, hl with | [_], _ => rfl
theorem ok_is_number (T : Top P w K mg base) : Cal P w K mg base d_is_number "is_number" 2 ["value"] (spIsNum K) := by
  refine T.cal 1 1 rfl rfl rfl rfl rfl sc_is_number bn_is_number (fun vs H Q E h => ?_) fun f cdv A outer s H vs Q E hr h => ?_
  · obtain ⟨_, _, _, rfl, _⟩ := h
    rfl
  have nd := (sc_is_number).nd
  refine ⟨_, (pss_one (ps_ret (L2.pe_and (pe_cal (ok_is_integer T) hr (by decide) (by rfl) (pa_cons (pv 0) pa_nil)) (pe_one (pe_cmpR op_ge (pv 0) pe_int (nomark _)))))), ?_⟩
  obtain ⟨F, v, d, rfl, hF, hv, q⟩ := h
  refine ⟨v, rfl, F, v, d, rfl, hF, hv, fun r F' H' st hr => ⟨_, hr, ?_⟩⟩
  cases d with
  | int i =>
    obtain rfl := any_scal hv
    refine iteT ⟨_, rfl, i, 0, rfl, rfl, ?_⟩
    exact q _ _ _ st rfl
  | bool b => exact q _ _ _ st rfl
  | none => exact q _ _ _ st rfl
  | str x => exact q _ _ _ st rfl
  | list x => exact q _ _ _ st rfl
  | tuple x => exact q _ _ _ st rfl
  | dict x => exact q _ _ _ st rfl

theorem sc_is_index : FnScope ["value", "many"] ["value", "many"] (defScope s_is_index) := ⟨rfl, rfl, rfl, by decide +kernel, rfl, by decide +kernel, by decide +kernel⟩
theorem bn_is_index : BindN d_is_index ["value", "many"] := fun _ _ _ _ _ _ us hl => match us, hl with | [_, _], _ => rfl
theorem ok_is_index (T : Top P w K mg base) : Cal P w K mg base d_is_index "is_index" 3 ["value", "many"] (spIsIx K) := by
  refine T.cal 2 2 rfl rfl rfl rfl rfl sc_is_index bn_is_index (fun vs H Q E h => ?_) fun f cdv A outer s H vs Q E hr h => ?_
  · obtain ⟨_, _, _, _, rfl, _⟩ := h
    rfl
  have nd := (sc_is_index).nd
  refine ⟨_, (pss_one (ps_ret (L2.pe_and (pe_cal (ok_is_number T) hr (by decide) (by rfl) (pa_cons (pv 0) pa_nil)) (pe_one (pe_cmpR op_lt (pv 0) (pv 1) (nomark _)))))), ?_⟩
  obtain ⟨F, v, d, n, rfl, hF, hv, q⟩ := h
  refine ⟨v, rfl, F, v, d, rfl, hF, hv, fun r F' H' st hr => ⟨_, hr, ?_⟩⟩
  cases d with
  | int i =>
    obtain rfl := any_scal hv
    by_cases hi : 0 ≤ i
    · have e : isNum (.int i) = true := decide_eq_true hi
      rw [e]
      refine iteT ⟨_, rfl, _, rfl, i, n, rfl, rfl, ?_⟩
      exact q _ _ _ st (by show V.bl _ = V.bl (decide (0 ≤ i) && decide (i < n)); rw [decide_eq_true hi, Bool.true_and])
    · have e : isNum (.int i) = false := decide_eq_false hi
      rw [e]
      refine iteF ?_
      exact q _ _ _ st (by show V.bl _ = V.bl (decide (0 ≤ i) && decide (i < n)); rw [decide_eq_false hi, Bool.false_and])
  | bool b => exact q _ _ _ st rfl
  | none => exact q _ _ _ st rfl
  | str x => exact q _ _ _ st rfl
  | list x => exact q _ _ _ st rfl
  | tuple x => exact q _ _ _ st rfl
  | dict x => exact q _ _ _ st rfl

theorem sc_is_sequence : FnScope ["value"] ["value"] (defScope s_is_sequence) := ⟨rfl, rfl, rfl, by decide +kernel, rfl, by decide +kernel, by decide +kernel⟩
theorem bn_is_sequence : BindN d_is_sequence ["value"] := fun _ _ _ _ _ _ us hl => match us, hl with | [_], _ => rfl
theorem ok_is_sequence (T : Top P w K mg base) : Cal P w K mg base d_is_sequence "is_sequence" 1 ["value"] (spIsSeq K) := by
  refine T.cal 3 3 rfl rfl rfl rfl rfl sc_is_sequence bn_is_sequence (fun vs H Q E h => ?_) fun f cdv A outer s H vs Q E hr h => ?_
  · obtain ⟨_, _, _, rfl, _⟩ := h
    rfl
  have nd := (sc_is_sequence).nd
  refine ⟨_, (pss_one (ps_ret (pe_callB call_isA2 (by rfl) T.n_isinstance bt_isinstance (pa_cons (pv 0) (pa_cons (pe_tup (pa_cons (pe_bltn (v := .ty "list") (by rfl) T.n_list bt_list rfl) (pa_cons (pe_bltn (v := .ty "tuple") (by rfl) T.n_tuple bt_tuple rfl) pa_nil))) pa_nil))))), ?_⟩
  obtain ⟨F, v, d, rfl, hF, hv, q⟩ := h
  have st : Stp [] F H F H := Stp.refl hF
  refine ⟨v, rfl, by decide, fun p hp => ⟨v, d, p, "list", "tuple", rfl, upd_same, rfl, rfl, (hv.up hF).up (same_new (Same.refl H) hp), ?_⟩⟩
  refine q _ _ _ (st.tup hp) ?_
  rw [isTy_list, isTy_tuple]
  cases d <;> rfl

theorem sc_idle : FnScope ["many"] ["many"] (defScope s_idle) := ⟨rfl, rfl, rfl, by decide +kernel, rfl, by decide +kernel, by decide +kernel⟩
theorem bn_idle : BindN d_idle ["many"] := fun _ _ _ _ _ _ us hl => match us, hl with | [_], _ => rfl
theorem ok_idle (T : Top P w K mg base) : Cal P w K mg base d_idle "idle" 1 ["many"] (spIdle K) := by
  refine T.cal 4 4 rfl rfl rfl rfl rfl sc_idle bn_idle (fun vs H Q E h => ?_) fun f cdv A outer s H vs Q E hr h => ?_
  · obtain ⟨_, _, rfl, _⟩ := h
    rfl
  have nd := (sc_idle).nd
  refine ⟨_, (pss_one (ps_ret (pe_tupRg rfl (by rfl) T.n_tuple (prg_1 (by rfl) T.n_range (pv 0))))), ?_⟩
  obtain ⟨F, n, rfl, hF, hn, q⟩ := h
  have st : Stp [] F H F H := Stp.refl hF
  refine ⟨_, rfl, n, rfl, RgOk.of_le (by omega) (by omega) (by omega) (by omega), fun p hp => ?_⟩
  refine q _ _ _ (st.tup hp) (.of_tN (.inl (.inl ?_)))
  rw [upd_same, rgV_nat]

end
end K11


set_option Elab.async false
set_option linter.all false
set_option maxRecDepth 100000
set_option maxHeartbeats 4000000
/-! The two error classes that are raised: Blind, InvalidRow. -/
namespace K11
open PySem PySem.Spec PyProof.Rows L2 NdefX
/-- what is known of an error class -/
structure ErrOk (P : Program) (w : World) (K : PySem.W.Frag) (mg : Str → Option Value) (base : Heap) (x : Str) : Prop where
  oex : OexC K (He.ga K x)
  iC : PySem.W.findIn K (.ref (He.ga K x)) "__init__" = some (some (.ref (He.fAd K (x, some "__init__"))))
  tI : PySem.W.typeIn K (.ref (He.fAd K (x, some "__init__"))) = some (.type "function")
  fn : ∃ fd, FnOk P w K mg base (L2.CX P w) 1 (He.fAd K (x, some "__init__")) fd ["self", "at"] (spErr (He.ga K x)) ∧ L2.Binds K fd ["self", "at"] []
  xf : XfC K (He.ga K x)
  no : PySem.W.findIn K (.ref (He.ga K x)) "at" = some none
  mg_ : mg x = some (.ref (He.ga K x))
/-- errB's parts -/
theorem errB_ok {K : PySem.W.Frag} {x q : Str} (h : errB K x q = true) : OexC K (He.ga K x) ∧ XfC K (He.ga K x) ∧ PySem.W.findIn K (.ref (He.ga K x)) "at" = some none ∧ PySem.W.findIn K (.ref (He.ga K x)) "__init__" = some (some (.ref (He.fAd K (x, some "__init__")))) ∧
    PySem.W.typeIn K (.ref (He.fAd K (x, some "__init__"))) = some (.type "function") ∧ PySem.W.subIn K (.ref (He.ga K x)) (.type "ValueError") = some true ∧ PySem.W.mroIn K (He.ga K x) (.ref (He.ga K x)) = some true ∧
    PySem.W.ks_superIn K (He.ga K x) (He.ga K x) "__init__" = some (some (.builtin "ValueError.__init__")) ∧ initB K x q = true ∧ ∃ cd, PySem.W.clsIn K (He.ga K x) = some cd := by
  unfold errB at h
  obtain ⟨h1, h⟩ := He.ba h
  obtain ⟨h2, h⟩ := He.ba h
  obtain ⟨h3, h⟩ := He.ba h
  obtain ⟨h4, h⟩ := He.ba h
  obtain ⟨h5, h⟩ := He.ba h
  obtain ⟨h6, h⟩ := He.ba h
  obtain ⟨h7, h⟩ := He.ba h
  obtain ⟨h8, h⟩ := He.ba h
  obtain ⟨h9, h⟩ := He.ba h
  obtain ⟨h10, h⟩ := He.ba h
  obtain ⟨h11, h12⟩ := He.ba h
  have xf := xfB_ok h3
  have cls : (∃ nm q N bs bm sn sub ab col dd k0 k1 k2 k3 k5, K.lookup (He.ga K x) = some (excClassObj nm q (He.ga K x) N bs bm true sn sub ab col dd k0 k1 k2 k3 k5 "ValueError.__new__") ∧ PySem.HandSPX.refsVE bm = true) ∧ ∃ cd, PySem.W.clsIn K (He.ga K x) = some cd := by
    unfold clsB at h1
    split at h1
    · rename_i t dct cd sl hl
      refine ⟨?_, ⟨cd, ?_⟩⟩
      · split at h1
        · rename_i C1 bm s0 s1 s2 s3 n s5 hm hsl
          obtain ⟨e1, h1⟩ := He.ba h1
          obtain ⟨e2, h1⟩ := He.ba h1
          obtain ⟨e3, h1⟩ := He.ba h1
          obtain ⟨e4, h1⟩ := He.ba h1
          obtain ⟨e5, e6⟩ := He.ba h1
          have e1 := of_decide_eq_true e1
          have e2 := of_decide_eq_true e2
          have e3 := of_decide_eq_true e3
          obtain ⟨nm, bs, mro, ns, qn, hd, sn, sb, ab, col, dl⟩ := cd
          simp only at hm e4 e5
          have e4 : dl = false := by simpa using e4
          subst hm e4 e5 e2
          obtain ⟨sl⟩ := sl
          have hsl : sl = _ := hsl
          subst hsl e1 e3
          exact ⟨_, _, _, _, _, _, _, _, _, _, _, _, _, _, _, hl, e6⟩
        · cases h1
      · unfold PySem.W.clsIn
        rw [hl] <;> rfl
    · cases h1
  refine ⟨⟨cls.1, He.eqO_ok h2, xf.exC, of_decide_eq_true h8, h7⟩, xf, He.eqO_ok h4, He.eqO_ok h5, of_decide_eq_true h6, of_decide_eq_true h9, of_decide_eq_true h10, He.eqO_ok h11, h12, cls.2⟩
/-- initB's parts -/
theorem initB_ok {K : PySem.W.Frag} {x q : Str} (h : initB K x q = true) : ∃ (oc : Value) (od : Option Addr) (fd : FuncData) (osl : Array (Option Value)) (cc c : Addr) (cl : Value) (cld : Option Addr) (csl : Array (Option Value)) (oC : Obj) (vs2 : Array Value) (file : Str) (tf : Tok),
    K.lookup (He.fAd K (x, some "__init__")) = some ⟨oc, od, .func fd, osl⟩ ∧ PySem.W.codeIn K fd.code q = true ∧ fd.defaults = .none ∧ fd.closure = [(("__class__" : Str), cc)] ∧ K.lookup cc = some ⟨cl, cld, .cell (some (.ref (He.ga K x))), csl⟩ ∧ fd.code = .ref c ∧ K.lookup c = some oC ∧ oC.data = .fields vs2 ∧ vs2[2]? = some (.str file tf) ∧ file = ("/claim/cut.py" : Str) := by
  unfold initB at h
  split at h
  · rename_i oc od fd osl hl
    obtain ⟨h1, h⟩ := He.ba h
    obtain ⟨h2, h⟩ := He.ba h
    obtain ⟨h3, h⟩ := He.ba h
    obtain ⟨h4, h5⟩ := He.ba h
    split at h2
    · rename_i hd
      split at h3
      · rename_i nm cc hc
        have e3 : nm = ("__class__" : Str) := of_decide_eq_true h3
        subst e3
        have ecell : cellOf fd = cc := by
          unfold cellOf
          rw [hc]
        rw [ecell] at h4
        split at h4
        · rename_i cl cld D csl hcell
          have eD : D = He.ga K x := of_decide_eq_true h4
          subst eD
          split at h5
          · rename_i c hcode
            split at h5
            · rename_i o1 o2 vs o3 hlc
              split at h5
              · rename_i file tf hv
                exact ⟨oc, od, fd, osl, cc, c, cl, cld, csl, _, vs, file, tf, hl, h1, hd, hc, hcell, hcode, hlc, rfl, hv, of_decide_eq_true h5⟩
              · cases h5
            · cases h5
          · cases h5
        · cases h4
      · cases h3
    · cases h2
  · cases h
theorem fnZ_ok {K : PySem.W.Frag} {p : Str × Option Str} {d : He.DefD} (h : fnZ K p = valZ d) : ∃ (oc : Value) (od : Option Addr) (fd : FuncData) (osl : Array (Option Value)), K.lookup (He.fAd K p) = some ⟨oc, od, .func fd, osl⟩ ∧ fd.name = d.name ∧ fd.qualname = d.qual ∧ fd.params = d.params ∧ fd.body = .stmts d.body ∧ fd.scope = d.scope ∧ fd.globals = mainGlobals ∧ fd.builtins = builtinsNs := by
  unfold fnZ valZ at h
  split at h
  · rename_i oc od fd osl hl
    have h := Option.some.inj h
    simp only [Prod.mk.injEq] at h
    obtain ⟨h1, h2, h3, h4, h5, h6, h7⟩ := h
    exact ⟨oc, od, fd, osl, hl, h1, h2, h3, h4, h5, h6, h7⟩
  · cases h
section
variable {P : Program} {w : World} {K : PySem.W.Frag} {mg : Str → Option Value} {base : Heap}
theorem Top.errOf (T : Top P w K mg base) {x q : Str} {d : He.DefD} {txt : Str} {k0 : Nat} {p0 p1 p2 p3 p4 p5 q0 q1 q2 q3 : Pos} {ar : Arg} {pl : Sem Bool} (i j : Nat) (hj : fa[j]? = some (.glo x)) (hi : fz[i]? = some d) (hat : d.at_ = (x, some ("__init__" : Str))) (hqual : d.qual = q) (hE : errB K x q = true)
    (hbody : d.body = errBody txt k0 p0 p1 p2 p3 p4 p5 q0 q1 q2 q3) (S : NScope errN ["self", "at"] ["__class__"] d.scope) (hsup : d.scope.names.lookup ("super" : Str) = some NameKind.globalImplicit) (hp : (d.params.posonlyargs ++ d.params.args).head? = some ar) (har : ar.arg = "self")
    (hb : ∀ (nm qn : Str) (cl : List (Str × Addr)) (kd doc pm : Value) (an : Option Addr) (code ct : Value) (us : List Value), us.length = 2 → bindArgs ⟨nm, qn, d.params, .stmts d.body, d.scope, mainGlobals, cl, .none, kd, doc, pm, an, code, ct, builtinsNs⟩ ⟨us, []⟩ = pure ((["self", "at"] : List Str).zip us))
    (hcall : ∀ (cc c f L : Addr), errCall (envF (errF q d.params txt k0 p0 p1 p2 p3 p4 p5 q0 q1 q2 q3 d.scope cc c) f L) txt k0 p0 p1 p2 p3 p4 pl) (hswap : ∀ env : Env, swapsWith (.Name "at" q2) (some (.Attribute (.Name "self" q0) "at" q1)) q3.line env = pure false) : ErrOk P w K mg base x := by
  have gx := T.glo_ j hj
  have gs := T.n_super
  obtain ⟨_, X, G, c⟩ := T.h0
  obtain ⟨hoex, hxf, hno, hiC, htI, hB, hmro, hsuper, hinit, cd, hcd⟩ := errB_ok hE
  obtain ⟨oc, od, fd, osl, cc, cA, cl, cld, csl, oC, vs2, file, tf, l1, l2, l3, l4, l5, l6, l7, l8, l9, l10⟩ := initB_ok hinit
  have hz : fnZ K d.at_ = valZ d := by
    have e := c.z
    have e2 : (fz.map fun d => fnZ K d.at_)[i]? = (fz.map valZ)[i]? := by rw [e]
    rw [List.getElem?_map, List.getElem?_map, hi] at e2
    exact Option.some.inj e2
  rw [hat] at hz
  obtain ⟨oc', od', fd', osl', m1, m2, m3, m4, m5, m6, m7, m8⟩ := fnZ_ok hz
  rw [l1] at m1
  have ee := Option.some.inj m1
  simp only [Obj.mk.injEq, Data.func.injEq] at ee
  obtain ⟨_, _, ef, _⟩ := ee
  subst ef
  have hst : PySem.W.nsIn K cStatics "thirdparty.any" = some none := by
    have h := c.x.more
    unfold exB at h
    obtain ⟨_, h⟩ := He.ba h
    obtain ⟨_, h⟩ := He.ba h
    exact He.eqO_ok h
  subst l10
  refine ⟨hoex, hiC, htI, ⟨fd, ok_err (q0 := q0) (q1 := q1) (q2 := q2) (q3 := q3) (p5 := p5) (pl := pl) l1 (m3.trans hqual) (by rw [m5, hbody]) m6 m7 m8 l4 l6 (by rw [← l6]; exact l2) S hsup (by rw [m4]; exact hp) har l7 l8 l9 T.file T.top_ l5 hoex hcd hmro gs hst hsuper hB hno (fun L => by rw [m4]; exact hcall _ _ _ _) hswap, ?_⟩, hxf, hno, gx⟩
  refine .all fun us hl => ?_
  obtain ⟨nm, qn, ps, bd, sc, gl, clo, df, kd, doc, pm, an, code, ct, bi⟩ := fd
  simp only at m2 m3 m4 m5 m6 m7 m8 l3
  subst m4 m5 m6 m7 m8 l3
  exact hb _ _ _ _ _ _ _ _ _ us hl
theorem sc_Blind_init : NScope errN ["self", "at"] ["__class__"] d_Blind_init.scope := nscope_by (by decide +kernel)
theorem Top.err_Blind (T : Top P w K mg base) : ErrOk P w K mg base "Blind" := by
  have hE : errB K "Blind" "Blind.__init__" = true := by
    obtain ⟨_, _, _, c⟩ := T.h0
    have h := c.x.more
    unfold exB at h
    obtain ⟨h1, h⟩ := He.ba h
    obtain ⟨h2, h⟩ := He.ba h
    exact h1
  exact T.errOf (d := d_Blind_init) (q := "Blind.__init__") 0 53 rfl rfl rfl rfl hE rfl sc_Blind_init rfl rfl rfl (fun _ _ _ _ _ _ _ _ _ us hl => match us, hl with | [_, _], _ => rfl) (fun _ _ _ _ => rfl) (fun _ => rfl)
theorem sc_InvalidRow_init : NScope errN ["self", "at"] ["__class__"] d_InvalidRow_init.scope := nscope_by (by decide +kernel)
theorem Top.err_InvalidRow (T : Top P w K mg base) : ErrOk P w K mg base "InvalidRow" := by
  have hE : errB K "InvalidRow" "InvalidRow.__init__" = true := by
    obtain ⟨_, _, _, c⟩ := T.h0
    have h := c.x.more
    unfold exB at h
    obtain ⟨h1, h⟩ := He.ba h
    obtain ⟨h2, h⟩ := He.ba h
    exact h2
  exact T.errOf (d := d_InvalidRow_init) (q := "InvalidRow.__init__") 1 54 rfl rfl rfl rfl hE rfl sc_InvalidRow_init rfl rfl rfl (fun _ _ _ _ _ _ _ _ _ us hl => match us, hl with | [_, _], _ => rfl) (fun _ _ _ _ => rfl) (fun _ => rfl)
end
section
variable {X : Cx} {x : Str} {j : Nat} {p pos : Pos} {e : Expr} {es : List Expr} {ta : TA}
/-- X(v) to be raised -/
theorem pm_err (Er : ErrOk X.prog X.w X.K X.mg X.base x) (hr : Room j X.A) (hk : 2 ≤ j) (hg : Gl X x) (ha : PA X (e :: es) ta) (hdb : (x == ("__debug__" : Str)) = false := by decide) (he : starEach (e :: es) X.env = (false, eval e X.env) :: starEach es X.env := by rfl) (hpl : (backTo pos (starEach es X.env)).any (·.1) = false := by rfl) :
    PMk X (.Call (.Name x p) (e :: es) [] pos) (tMkO (He.ga X.K x) (spErr (He.ga X.K x)) [] ta) := by
  obtain ⟨fd, F, b⟩ := Er.fn
  exact pmk_oex (k := 1) (ds := []) Er.oex Er.iC Er.tI F (hr.mono hk) b .nil passL hg Er.mg_ ha hdb he hpl
end
/-- what the making asks: the way out -/
theorem err_read {C : Addr} {F H : Hp} {v : V} {R : XK} (hF : Same F H) (h : ∀ dx F' H', Stp [] F H F' H' → F' dx = some (.xd [("at", v)]) → R (.ref C) (some dx) H') :
    [v].length ≤ 1000 ∧ ∀ a, H a = none → spErr C (.ref a :: ([v] ++ [])) (upd H a (exo a C none)) (fun u H2 => u = .non ∧ ∃ (d : Addr) (fs : List (Str × V)), H2 a = some (exo a C (some d)) ∧ H2 d = some (exd d fs) ∧ H d = none ∧ R (.ref C) (some d) (upd (del H2 a) d (.xd fs))) (fun _ _ _ => False) := by
  refine ⟨by show 1 ≤ 1000; decide, fun a ha => ⟨a, v, rfl, upd_same, fun dx hdx hne => ⟨rfl, dx, [("at", v)], upd_same, ?_, ?_, ?_⟩⟩⟩
  · rw [upd_ne hne, upd_same]
  · rw [upd_ne hne] at hdx
    exact hdx
  · have hdx' : H dx = none := by
      rw [upd_ne hne] at hdx
      exact hdx
    have e : upd (del (upd (upd (upd H a (exo a C none)) dx (exd dx [("at", v)])) a (exo a C (some dx))) a) dx (.xd [("at", v)]) = upd H dx (.xd [("at", v)]) := by
      funext b
      by_cases hb : b = dx
      · rw [hb, upd_same, upd_same]
      · rw [upd_ne hb, upd_ne hb]
        by_cases hba : b = a
        · rw [hba, del_same, ha]
        · rw [del_ne hba, upd_ne hba, upd_ne hb, upd_ne hba]
    rw [e]
    exact h dx (upd F dx (.xd [("at", v)])) _ (Stp.new hF hdx') upd_same
end K11

set_option Elab.async false
set_option linter.all false
set_option maxRecDepth 100000
set_option maxHeartbeats 4000000
/-! kernel_of, led, does, effect, kernel, ahead. -/
namespace K11
open PySem PySem.Spec PyProof.Rows L2
/-- a list, or a tuple whose object is known -/
def SeqP (K : PySem.W.Frag) (F : Hp) (a : Addr) (xs : List V) : Prop := SqL K F a xs ∨ PT F a xs
def spKerOf (K : PySem.W.Frag) : Sp := fun vs H Q _ => ∃ (F : Hp) (a : Addr) (ns : List Nat), vs = [.ref a] ∧ Same F H ∧ SeqP K F a (ns.map vN) ∧ ns.length ≤ 1000 ∧ Back [] F H Q fun r F' _ => Dp K F' r (tN (kerOf ns))
theorem flat_ns : ∀ ns : List Nat, (ns.map vN).all flatV = true
  | [] => rfl
  | n :: ns => by
    rw [List.map_cons, List.all_cons, flat_ns ns] <;> rfl
theorem vN_eq {a b : Nat} : eqV (vN a) (vN b) = decide (a = b) := by
  show ((a : Int) == (b : Int)) = _
  rw [Bool.eq_iff_iff, beq_iff_eq, decide_eq_true_eq]
  exact Int.ofNat_inj
theorem vN_at {ns : List Nat} {i : Nat} {x : V} (h : (ns.map vN)[i]? = some x) : ∃ s, ns[i]? = some s ∧ x = vN s := by
  rw [List.getElem?_map] at h
  cases e : ns[i]? with
  | none =>
    rw [e] at h
    cases h
  | some s =>
    rw [e] at h
    exact ⟨s, rfl, (Option.some.inj h).symm⟩
theorem take_snoc {α : Type} {l : List α} {i : Nat} {x : α} (h : l[i]? = some x) : l.take (i + 1) = l.take i ++ [x] := by
  rw [List.take_add_one, h] <;> rfl
theorem either_src {K : PySem.W.Frag} {F H : Hp} {a : Addr} {xs : List V} {σ : L2.St} {i : Nat} {R : It → Hp → Prop} (hk : SeqP K F a xs) (e : Same F H) (e0 : σ[i]? = some (some (.ref a))) (h : ∀ J, Src F J xs.length (fun i x => xs[i]? = some x) → R J H) :
    iEither (iList K (tVar i)) (iTup K (tVar i)) σ H R := by
  rcases hk with hl | ht
  · exact .inl ⟨_, e0, a, rfl, ⟨_, same_l e hl⟩, h _ (src_l hl)⟩
  · exact .inr ⟨_, e0, a, rfl, ⟨_, same_t e ht.t⟩, h _ (src_t ht.t)⟩
section
variable {P : Program} {w : World} {K : PySem.W.Frag} {mg : Str → Option Value} {base : Heap}
/-- x.index(s) of either -/
theorem idx_read {F H1 : Hp} {a : Addr} {ns : List Nat} {s i : Nat} {σ : L2.St} {Y : VK} (hs : ns[i]? = some s) (e0 : σ[0]? = some (some (.ref a))) (e1 : σ[1]? = some (some (vN s))) (hk : SeqP K F a (ns.map vN)) (e : Same F H1) (y : Y (vN (ns.idxOf s)) H1) :
    tEither (tBM K "list" (rIndex K) (tVar 0) (tCons (tVar 1) tNil)) (tIdxT K (tVar 0) (tCons (tVar 1) tNil)) σ H1 Y := by
  obtain ⟨f1, f2⟩ := idx_first (List.mem_of_getElem? hs)
  have g1 := get_vN f1
  have g2 : eqV (vN s) (vN s) = true := by rw [vN_eq]; exact decide_eq_true rfl
  have g3 : ∀ (m : Nat) (z' : V), m < ns.idxOf s → (ns.map vN)[m]? = some z' → eqV z' (vN s) = false := fun m z' hm hz => by
    obtain ⟨t, ht, rfl⟩ := vN_at hz
    rw [vN_eq]
    exact decide_eq_false (f2 m t hm ht)
  rcases hk with hl | ht
  · exact .inl ⟨.ref a, e0, .inl ⟨rfl, _, same_l e hl⟩, vN s, e1, a, _, _, _, _, rfl, rfl, same_l e hl, rfl, flat_ns ns, g1, g2, g3, y⟩
  · exact .inr ⟨.ref a, e0, ⟨a, _, rfl, ht.up e⟩, vN s, e1, a, _, _, _, _, rfl, rfl, same_t e ht.t, rfl, flat_ns ns, g1, g2, g3, y⟩
theorem sc_kernel_of : FnScope ["found", "state"] ["found"] (defScope s_kernel_of) := ⟨rfl, rfl, rfl, by decide +kernel, rfl, by decide +kernel, by decide +kernel⟩
theorem bn_kernel_of : BindN d_kernel_of ["found"] := fun _ _ _ _ _ _ us hl => match us, hl with | [_], _ => rfl
theorem ok_kernel_of (T : Top P w K mg base) : Cal P w K mg base d_kernel_of "kernel_of" 1 ["found"] (spKerOf K) := by
  refine T.cal 5 5 rfl rfl rfl rfl rfl sc_kernel_of bn_kernel_of (fun vs H Q E h => ?_) fun f cdv A outer s H vs Q E hr h => ?_
  · obtain ⟨_, _, _, rfl, _⟩ := h
    rfl
  have nd := (sc_kernel_of).nd
  refine ⟨_, (pss_one (ps_ret (pe_callTy cl_tup (by rfl) T.n_tuple bt_tuple (pa_cons (pe_lc (own := [("state", 1)]) (g := (gName 1)) (tt := tYes) (te := (tEither (tBM K "list" (rIndex K) (tVar 0) (tCons (tVar 1) tNil)) (tIdxT K (tVar 0) (tCons (tVar 1) tNil)))) rfl nd (pi_either (pi_list (pv 0)) (pi_tup (pv 0))) (blkOk_by (by kernel_rfl)) (fun _ _ _ _ _ => (pg_name (i := 1) nd rfl (.inl rfl))) (fun _ _ _ _ _ => pts_nil) (fun _ _ _ _ _ => (pe_either (pe_bm PySem.F.plainAttrs_list PySem.F.slot_list_index PySem.F.type_list_index mt_index (pv 0) (pa_cons (pv 1) pa_nil)) (pe_idxT (pv 0) (pa_cons (pv 1) pa_nil))))) pa_nil)))), ?_⟩
  obtain ⟨F, a, ns, rfl, hF, hk, hn, q⟩ := h
  have hz : ns.length ≤ sizeLine := by rw [sizeLine_eq]; omega
  refine either_src hk hF rfl fun J src => lc_do (S := []) src hF (fun a h => by cases h) (by rw [List.length_map]; exact hz) (fun i acc _ _ => acc = ((kerOf ns).take i).map vN) rfl (fun i x acc F1 H1 hi hx st hp Y N hY hN => ?_) fun D acc F1 H1 st hD mu hl hp => ?_
  · obtain ⟨s, hs, rfl⟩ := vN_at hx
    refine ⟨rfl, lc_yes ?_⟩
    refine idx_read hs rfl rfl hk (st.ff.trans st.fh) (hY _ F1 H1 (Stp.refl st.fh) ?_)
    rw [hp, take_snoc (kerOf_at hs), List.map_append] <;> rfl
  · refine ⟨D, acc, rfl, .inl ⟨.inl (.inl mu.at_), fun l hl => ?_⟩⟩
    refine q _ _ _ (st.tup hl) (.of_tN (.inl (.inl ?_)))
    rw [upd_same, hp, List.length_map, List.take_of_length_le (by rw [kerOf_len]; exact Nat.le_refl _)]

end
end K11


set_option Elab.async false
set_option linter.all false
set_option maxRecDepth 100000
set_option maxHeartbeats 4000000
/-! does, led, ahead, checked_row, effect, kernel. -/
namespace K11
open PySem PySem.Spec PyProof.Rows L2
/-- a list or a tuple -/
def SeqB (K : PySem.W.Frag) (F : Hp) (a : Addr) (xs : List V) : Prop := SqL K F a xs ∨ SqT K F a xs
theorem SeqB.up {K : PySem.W.Frag} {F H : Hp} {a : Addr} {xs : List V} (h : SeqB K F a xs) (e : Same F H) : SeqB K H a xs := h.elim (fun z => .inl (same_l e z)) fun z => .inr (same_t e z)
theorem either_srcB {K : PySem.W.Frag} {F H : Hp} {a : Addr} {xs : List V} {σ : L2.St} {i : Nat} {R : It → Hp → Prop} (hk : SeqB K F a xs) (e : Same F H) (e0 : σ[i]? = some (some (.ref a))) (h : ∀ J, Src F J xs.length (fun i x => xs[i]? = some x) → R J H) :
    iEither (iList K (tVar i)) (iTup K (tVar i)) σ H R := by
  rcases hk with hl | ht
  · exact .inl ⟨_, e0, a, rfl, ⟨_, same_l e hl⟩, h _ (src_l hl)⟩
  · exact .inr ⟨_, e0, a, rfl, ⟨_, same_t e ht⟩, h _ (src_t ht)⟩
/-- a field of a machine -/
theorem fld_ex {K : PySem.W.Frag} {F H : Hp} {m : V} {f : Str} {v : V} {Y : V → Prop} (cl : Cls K (He.ga K "Machine")) (no : NoAttr K (He.ga K "Machine") f) (e : Same F H) (h : ∃ a dx fs, m = .ref a ∧ F a = some (.ins (He.ga K "Machine") dx fs) ∧ fs.lookup f = some v) (y : Y v) :
    ∃ a C dx fs v', m = .ref a ∧ H a = some (.ins C dx fs) ∧ Cls K C ∧ NoAttr K C f ∧ fs.lookup f = some v' ∧ Y v' := by
  obtain ⟨a, dx, fs, rfl, h2, h3⟩ := h
  exact ⟨a, _, dx, fs, v, rfl, e _ _ h2, cl, no, h3, y⟩
section
variable {K : PySem.W.Frag} {F : Hp} {m : V} {c n : Nat} {δ : List (List Nat)} {d : Addr}
theorem Mach.f_commands (M : Mach K F m c n δ d) : ∃ a dx fs, m = .ref a ∧ F a = some (.ins (He.ga K "Machine") dx fs) ∧ fs.lookup ("commands" : Str) = some (vN c) := by
  obtain ⟨_, a, dx, fs, v, h1, h2, h3, h4, h5, h6, h7, h8, h9⟩ := M
  exact ⟨a, dx, fs, h1, h2, h3⟩
theorem Mach.f_states (M : Mach K F m c n δ d) : ∃ a dx fs, m = .ref a ∧ F a = some (.ins (He.ga K "Machine") dx fs) ∧ fs.lookup ("states" : Str) = some (vN n) := by
  obtain ⟨_, a, dx, fs, v, h1, h2, h3, h4, h5, h6, h7, h8, h9⟩ := M
  exact ⟨a, dx, fs, h1, h2, h4⟩
theorem Mach.f_steps (M : Mach K F m c n δ d) : ∃ v, Dp K F v (.tuple (δ.map tN)) ∧ ∃ a dx fs, m = .ref a ∧ F a = some (.ins (He.ga K "Machine") dx fs) ∧ fs.lookup ("steps" : Str) = some v := by
  obtain ⟨_, a, dx, fs, v, h1, h2, h3, h4, h5, h6, h7, h8, h9⟩ := M
  exact ⟨v, h6, a, dx, fs, h1, h2, h5⟩
theorem Mach.f_found (M : Mach K F m c n δ d) : ∃ a dx fs, m = .ref a ∧ F a = some (.ins (He.ga K "Machine") dx fs) ∧ fs.lookup ("_found" : Str) = some (.ref d) := by
  obtain ⟨_, a, dx, fs, v, h1, h2, h3, h4, h5, h6, h7, h8, h9⟩ := M
  exact ⟨a, dx, fs, h1, h2, h7⟩
theorem Mach.o_does (M : Mach K F m c n δ d) : ∃ a dx fs, m = .ref a ∧ F a = some (.ins (He.ga K "Machine") dx fs) ∧ fs.lookup ("does" : Str) = none := by
  obtain ⟨_, a, dx, fs, v, h1, h2, h3, h4, h5, h6, h7, h8, h9⟩ := M
  exact ⟨a, dx, fs, h1, h2, h9⟩
theorem Mach.o_found (M : Mach K F m c n δ d) : ∃ a dx fs, m = .ref a ∧ F a = some (.ins (He.ga K "Machine") dx fs) ∧ fs.lookup ("found" : Str) = none := by
  obtain ⟨_, a, dx, fs, v, h1, h2, h3, h4, h5, h6, h7, h8, h9⟩ := M
  exact ⟨a, dx, fs, h1, h2, h8⟩
theorem row_at {s : Nat} (W : WF c n δ) (h : s < n) {v : V} (hv : Dp K F v (.tuple (δ.map tN))) {H : Hp} (e : Same F H) {Y : VK} (y : ∀ u r, δ[s]? = some r → Dp K F u (tN r) → Y u H) : rIxB K v (vN s) H Y := by
  obtain ⟨r, h1, _⟩ := W.get h
  exact ixB_dt hv e (by rw [List.getElem?_map, h1] <;> rfl) fun u hu => y u r h1 hu
theorem cell_at {s x : Nat} {u : V} {r : List Nat} (W : WF c n δ) (h : s < n) (hx : x < c) (h1 : δ[s]? = some r) (hu : Dp K F u (tN r)) {H : Hp} (e : Same F H) {Y : VK} (y : Y (vN (dl δ s x)) H) : rIxB K u (vN x) H Y := by
  obtain ⟨r', h1', h2, _⟩ := W.dl_at h hx
  rw [h1] at h1'
  cases h1'
  refine ixB_dt hu e (get_nD h2) fun z hz => ?_
  rw [hz.int_inv]
  exact y
end
def spDoes (K : PySem.W.Frag) : Sp := fun vs H Q _ => ∃ (F : Hp) (m : V) (c n : Nat) (δ : List (List Nat)) (d : Addr) (x : Nat), vs = [m, vN x] ∧ Same F H ∧ Mach K F m c n δ d ∧ x < c ∧ Back [] F H Q fun r F' _ => Dp K F' r (tN (doesM δ x))
def spLed (K : PySem.W.Frag) : Sp := fun vs H Q _ => ∃ (F : Hp) (m : V) (c n : Nat) (δ : List (List Nat)) (d : Addr) (s : Nat) (a : Addr) (w : List Nat), vs = [m, vN s, .ref a] ∧ Same F H ∧ Mach K F m c n δ d ∧ s < n ∧ SeqB K F a (w.map vN) ∧ Word c w ∧ Q (vN (ledM δ s w)) H
def spAhead (K : PySem.W.Frag) : Sp := fun vs H Q _ => ∃ (F : Hp) (m : V) (c n : Nat) (δ : List (List Nat)) (d : Addr) (x : Nat) (v : V) (κ : List Nat), vs = [m, vN x, v] ∧ Same F H ∧ Mach K F m c n δ d ∧ x < c ∧ Dp K F v (tN κ) ∧ κ.length = n ∧ Back [] F H Q fun r F' _ => Dp K F' r (tN (aheadM δ x κ))
section
variable {P : Program} {w : World} {K : PySem.W.Frag} {mg : Str → Option Value} {base : Heap}
theorem sc_Machine_does : FnScope ["self", "command", "row"] ["self", "command"] (defScope s_Machine_does) := ⟨rfl, rfl, rfl, by decide +kernel, rfl, by decide +kernel, by decide +kernel⟩
theorem bn_Machine_does : BindN d_Machine_does ["self", "command"] := fun _ _ _ _ _ _ us hl => match us, hl with | [_, _], _ => rfl
theorem ok_Machine_does (T : Top P w K mg base) : CalM P w K mg base d_Machine_does "Machine" "does" 1 ["self", "command"] (spDoes K) := by
  refine T.calM 8 rfl rfl rfl rfl sc_Machine_does bn_Machine_does (fun vs H Q E h => ?_) fun f cdv A outer s H vs Q E hr h => ?_
  · obtain ⟨_, _, _, _, _, _, _, rfl, _⟩ := h
    rfl
  have nd := (sc_Machine_does).nd
  refine ⟨_, (pss_one (ps_ret (pe_callTy cl_tup (by rfl) T.n_tuple bt_tuple (pa_cons (pe_lc (own := [("row", 2)]) (g := (gName 2)) (tt := tYes) (te := (tOp (rIxB K) (tVar 2) (tVar 1))) rfl nd (pi_tup (pe_fld (pv 0) (by rfl))) (blkOk_by (by kernel_rfl)) (fun _ _ _ _ _ => (pg_name (i := 2) nd rfl (.inl rfl))) (fun _ _ _ _ _ => pts_nil) (fun _ _ _ _ _ => (pe_ix ix_both (pv 2) (pv 1) (fun _ _ => rfl)))) pa_nil)))), ?_⟩
  obtain ⟨F, m, c, n, δ, d, x, rfl, hF, M, hx, q⟩ := h
  obtain ⟨v, hv, hf⟩ := M.f_steps
  obtain ⟨a, xs, rfl, hs, hall⟩ := hv.tup_inv
  refine ⟨_, rfl, fld_ex T.cls_ T.no_steps hF hf ?_⟩
  refine ⟨a, rfl, ⟨_, same_t hF hs⟩, ?_⟩
  have hlen : xs.length = n := by rw [hall.len, List.length_map, M.wf.len]
  refine lc_do (S := []) (src_t hs) hF (fun a h => by cases h) (by rw [hlen, sizeLine_eq]; have := M.wf.n6; omega) (fun i acc _ _ => acc = ((doesM δ x).take i).map vN) rfl (fun i y acc F1 H1 hi hy st hp Y N hY hN => ?_) fun D acc F1 H1 st hD mu hl hp => ?_
  · have hin : i < n := by omega
    obtain ⟨r, e1, e2, _⟩ := M.wf.dl_at hin hx
    have hd : Dp K F y (tN r) := hall.at hy (by rw [List.getElem?_map, e1] <;> rfl)
    refine ⟨rfl, lc_yes ⟨_, rfl, _, rfl, ?_⟩⟩
    refine ixB_dt hd (st.ff.trans st.fh) (get_nD e2) fun z hz => hY _ F1 H1 (Stp.refl st.fh) ?_
    rw [hz.int_inv, hp, take_snoc (does_at x (by rw [M.wf.len]; exact hin)), List.map_append] <;> rfl
  · refine ⟨D, acc, rfl, .inl ⟨.inl (.inl mu.at_), fun l hl => ?_⟩⟩
    refine q _ _ _ (st.tup hl) (.of_tN (.inl (.inl ?_)))
    rw [upd_same, hp, hlen, List.take_of_length_le (by rw [does_len, M.wf.len]; exact Nat.le_refl _)]

theorem sc_led : FnScope ["machine", "state", "row", "command"] ["machine", "state", "row"] (defScope s_led) := ⟨rfl, rfl, rfl, by decide +kernel, rfl, by decide +kernel, by decide +kernel⟩
theorem bn_led : BindN d_led ["machine", "state", "row"] := fun _ _ _ _ _ _ us hl => match us, hl with | [_, _, _], _ => rfl
theorem ok_led (T : Top P w K mg base) : Cal P w K mg base d_led "led" 1 ["machine", "state", "row"] (spLed K) := by
  refine T.cal 10 7 rfl rfl rfl rfl rfl sc_led bn_led (fun vs H Q E h => ?_) fun f cdv A outer s H vs Q E hr h => ?_
  · obtain ⟨_, _, _, _, _, _, _, _, _, rfl, _⟩ := h
    rfl
  have nd := (sc_led).nd
  refine ⟨_, (pss_cons (ps_for (passes_of rfl) rfl (pi_either (pi_list (pv 2)) (pi_tup (pv 2))) (pg_name (i := 3) nd rfl (.inl rfl))
      (pss_one (ps_set (i := 1) nd rfl (.inl rfl) (pe_ix ix_both (pe_ix ix_both (pe_fld (pv 0) (by rfl)) (pv 1) (fun _ _ => rfl)) (pv 3) (fun _ _ => rfl)))))
    (pss_one (ps_ret (pv 1)))), ?_⟩
  obtain ⟨F, m, c, n, δ, d, s, a, w, rfl, hF, M, hs, hw, hc, q⟩ := h
  refine either_srcB hw hF rfl fun J src => for_do src (fun i σ H' => H' = H ∧ ∃ y, σ = [some m, some (vN (ledM δ s (w.take i))), some (.ref a), y]) (fun i σ H' h => by rw [h.1]; exact hF) ⟨rfl, none, rfl⟩ (fun i x σ H' hi hx hp => ?_) fun σ H' hp => ?_
  · obtain ⟨rfl, y, rfl⟩ := hp
    obtain ⟨z, hz, rfl⟩ := vN_at hx
    obtain ⟨v, hv, hf⟩ := M.f_steps
    have hin : ledM δ s (w.take i) < n := M.wf.led_lt _ _ hs fun u hu => hc u (List.mem_of_mem_take hu)
    refine ⟨_, rfl, fld_ex T.cls_ T.no_steps hF hf ?_⟩
    refine ⟨_, rfl, ?_⟩
    refine row_at M.wf hin hv hF fun u r h1 hu => ⟨_, rfl, cell_at M.wf hin (hc z (List.mem_of_getElem? hz)) h1 hu hF ?_⟩
    refine ⟨rfl, some (vN z), ?_⟩
    rw [take_snoc hz, led_snoc] <;> rfl
  · obtain ⟨rfl, y, rfl⟩ := hp
    refine ⟨_, rfl, ?_⟩
    rw [List.length_map, List.take_length]
    exact q

theorem sc_ahead : FnScope ["machine", "command", "one", "state"] ["machine", "command", "one"] (defScope s_ahead) := ⟨rfl, rfl, rfl, by decide +kernel, rfl, by decide +kernel, by decide +kernel⟩
theorem bn_ahead : BindN d_ahead ["machine", "command", "one"] := fun _ _ _ _ _ _ us hl => match us, hl with | [_, _, _], _ => rfl
theorem ok_ahead (T : Top P w K mg base) : Cal P w K mg base d_ahead "ahead" 3 ["machine", "command", "one"] (spAhead K) := by
  refine T.cal 23 20 rfl rfl rfl rfl rfl sc_ahead bn_ahead (fun vs H Q E h => ?_) fun f cdv A outer s H vs Q E hr h => ?_
  · obtain ⟨_, _, _, _, _, _, _, _, _, rfl, _⟩ := h
    rfl
  have nd := (sc_ahead).nd
  refine ⟨_, (pss_one (ps_ret (pe_cal (ok_kernel_of T) hr (by decide) (by rfl) (pa_cons (pe_lc (own := [("state", 3)]) (g := (gName 3)) (tt := tYes) (te := (tOp (rIxB K) (tVar 2) (tVar 3))) rfl nd (pi_tup (pe_calM (ok_Machine_does T) hr (by decide) T.cls_ T.me_does (pv 0) (pa_cons (pv 1) pa_nil))) (blkOk_by (by kernel_rfl)) (fun _ _ _ _ _ => (pg_name (i := 3) nd rfl (.inl rfl))) (fun _ _ _ _ _ => pts_nil) (fun _ _ _ _ _ => (pe_ix ix_both (pv 2) (pv 3) (fun _ _ => rfl)))) pa_nil)))), ?_⟩
  obtain ⟨F, m, c, n, δ, d, x, v, κ, rfl, hF, M, hx, hv, hκ, q⟩ := h
  obtain ⟨a, dx, fs, rfl, ha, hl⟩ := M.o_does
  refine ⟨_, rfl, a, dx, fs, rfl, hF _ _ ha, hl, ?_⟩
  refine ⟨_, rfl, F, .ref a, c, n, δ, d, x, rfl, hF, M, hx, fun r F1 H1 st hr => ?_⟩
  obtain ⟨b, rfl, hb⟩ := hr.tN_inv
  have hn := M.wf.n6
  have hlen : ((doesM δ x).map vN).length = n := by rw [List.length_map, does_len, M.wf.len]
  refine ⟨b, rfl, ⟨_, same_t st.fh hb⟩, ?_⟩
  refine lc_do (S := []) (src_t hb) st.fh (fun a h => by cases h) (by rw [hlen, sizeLine_eq]; omega) (fun i acc _ _ => acc = ((doesM δ x).take i).map fun s => vN (κ.getD s 0)) rfl (fun i y acc F2 H2 hi hy st2 hp Y N hY hN => ?_) fun D acc F2 H2 st2 hD mu hl hp => ?_
  · obtain ⟨s, hs, rfl⟩ := vN_at hy
    have hin : i < n := by omega
    obtain ⟨r, e1, e2, e3⟩ := M.wf.dl_at hin hx
    have hs2 : s = dl δ i x := by
      have z := does_at (δ := δ) x (s := i) (by rw [M.wf.len]; exact hin)
      rw [hs] at z
      exact Option.some.inj z
    have hsn : s < κ.length := by rw [hκ, hs2]; exact e3
    refine ⟨rfl, lc_yes ⟨v, rfl, vN s, rfl, ?_⟩⟩
    refine ixB_dt (d := nD (κ.getD s 0)) hv ((st.trans st2).ff.trans (st.trans st2).fh) (get_nD ?_) fun z hz => hY _ F2 H2 (Stp.refl st2.fh) ?_
    · rw [List.getD_eq_getElem?_getD, List.getElem?_eq_getElem hsn] <;> rfl
    · rw [hz.int_inv, hp, take_snoc hs, List.map_append] <;> rfl
  · have s2 := (st.trans st2).freeze (st.none_ hD) mu
    have e : acc = ((doesM δ x).map fun s => κ.getD s 0).map vN := by
      rw [hp, hlen, List.take_of_length_le (by rw [does_len, M.wf.len]; exact Nat.le_refl _), List.map_map] <;> rfl
    refine ⟨_, D, (doesM δ x).map fun s => κ.getD s 0, rfl, s2.fh, .inl (.inl (.inl ?_)), by rw [List.length_map, does_len, M.wf.len]; omega, fun r F' H' st3 hr => q r F' H' (s2.trans st3) hr⟩
    rw [← e]
    exact upd_same

end
/-- a loop over what makes a new object a turn -/
structure SrcG (F : Hp) (J : It) (n : Nat) (item : Nat → Hp → V → Hp → Prop) : Prop where
  go : ∀ i H, Same F H → i < n → J.go i H
  stop : ∀ i H, Same F H → n ≤ i → J.stop i H
  yld : ∀ i H x H', Same F H → J.yld i H x H' → item i H x H'
def ItemE (xs : List V) (i : Nat) (H : Hp) (v : V) (H' : Hp) : Prop := ∃ T x, v = .ref T ∧ H T = none ∧ H' = upd H T (.tup [.int (i : Nat), x]) ∧ xs[i]? = some x
theorem src_el {K : PySem.W.Frag} {F : Hp} {a : Addr} {xs : List V} (h : SqL K F a xs) : SrcG F (Ite K a) xs.length (ItemE xs) :=
  ⟨fun i H e hi => ⟨xs, xs[i], same_l e h, by simp [hi]⟩, fun i H e hi => ⟨xs, same_l e h, hi⟩, fun i H x H' e ⟨T, y, h1, h2, h3, h4⟩ => ⟨T, y, h1, h2, h3, h4 xs (same_l e h)⟩⟩
theorem src_et {K : PySem.W.Frag} {F : Hp} {a : Addr} {xs : List V} (h : SqT K F a xs) : SrcG F (Itet K a) xs.length (ItemE xs) :=
  ⟨fun i H e hi => ⟨xs, xs[i], same_t e h, by simp [hi]⟩, fun i H e hi => ⟨xs, same_t e h, hi⟩, fun i H x H' e ⟨T, y, h1, h2, h3, h4⟩ => ⟨T, y, h1, h2, h3, h4 xs (same_t e h)⟩⟩
theorem for_doG {F : Hp} {J : It} {n : Nat} {item : Nat → Hp → V → Hp → Prop} {g : TG} {tb : TS} {D : Ends} {σ : L2.St} {H : Hp} (src : SrcG F J n item) (Pv : Nat → L2.St → Hp → Prop) (hF : ∀ i σ H, Pv i σ H → Same F H) (h0 : Pv 0 σ H)
    (hs : ∀ i x σ H H', i < n → item i H x H' → Pv i σ H → g x σ H' fun σ2 H2 => tb { D with nx := Pv (i + 1), ct := Pv (i + 1), bk := D.nx } σ2 H2) (hd : ∀ σ H, Pv n σ H → D.nx σ H) :
    ∃ W : Nat → Nat → L2.St → Hp → Prop, (∃ m, W 0 m σ H) ∧ ∀ i m σ H, W i m σ H →
      (J.stop i H ∧ D.nx σ H) ∨ (J.go i H ∧ ∃ N : L2.St → Hp → Prop, (∀ σ' H', N σ' H' → ∃ m', m' < m ∧ W (i + 1) m' σ' H') ∧ ∀ x H', J.yld i H x H' → g x σ H' fun σ2 H2 => tb { D with nx := N, ct := N, bk := D.nx } σ2 H2) := by
  refine ⟨fun i m σ H => m = n - i ∧ i ≤ n ∧ Pv i σ H, ⟨n, by simp, Nat.zero_le _, h0⟩, ?_⟩
  rintro i m σ H ⟨rfl, hi, p⟩
  by_cases hlt : i < n
  · refine .inr ⟨src.go i H (hF i σ H p) hlt, Pv (i + 1), fun σ' H' p' => ⟨n - (i + 1), by omega, rfl, hlt, p'⟩, fun x H' y => hs i x σ H H' hlt (src.yld i H x H' (hF i σ H p) y) p⟩
  · have e : i = n := by omega
    subst e
    exact .inl ⟨src.stop i H (hF i σ H p) (Nat.le_refl _), hd σ H p⟩
def RowBad (c : Nat) (d : PyData) (k : Nat) : Prop := (isSeq d = false ∧ k = 0) ∨ ∃ ds, (d = .list ds ∨ d = .tuple ds) ∧ (∃ x, ds[k]? = some x ∧ isIx x c = false) ∧ ∀ j x, j < k → ds[j]? = some x → isIx x c = true
def RowOk (c : Nat) (d : PyData) (w : List Nat) : Prop := (d = lN w ∨ d = tN w) ∧ Word c w
/-- what an error leaves -/
def ErrB (K : PySem.W.Frag) (F H : Hp) (E : XK) (x : Str) (v : V) : Prop := ∀ dx F' H', Stp [] F H F' H' → F' dx = some (.xd [("at", v)]) → E (.ref (He.ga K x)) (some dx) H'
def spRow (K : PySem.W.Frag) : Sp := fun vs H Q E => ∃ (F : Hp) (m v : V) (c n : Nat) (δ : List (List Nat)) (d0 : Addr) (d : PyData), vs = [m, v] ∧ Same F H ∧ Mach K F m c n δ d0 ∧ Any K F v d ∧ (∀ w, RowOk c d w → Back [] F H Q fun r F' _ => Dp K F' r (tN w)) ∧ ∀ k, RowBad c d k → ErrB K F H E "InvalidRow" (vN k)
theorem isIx_nat {d : PyData} {c : Nat} (h : isIx d c = true) : ∃ k, k < c ∧ d = nD k := by
  unfold isIx at h
  cases d with
  | int i =>
    simp only [Bool.and_eq_true, decide_eq_true_eq] at h
    refine ⟨i.toNat, by omega, ?_⟩
    show PyData.int i = PyData.int ((i.toNat : Nat) : Int)
    rw [Int.toNat_of_nonneg h.1]
  | _ => cases h
theorem all_ix {c : Nat} : ∀ {ds : List PyData}, (∀ x ∈ ds, isIx x c = true) → ∃ w : List Nat, ds = w.map nD ∧ Word c w
  | [], _ => ⟨[], rfl, fun x h => by cases h⟩
  | d :: ds, h => by
    obtain ⟨k, hk, e⟩ := isIx_nat (h d List.mem_cons_self)
    obtain ⟨w, e2, hw⟩ := all_ix fun x hx => h x (List.mem_cons_of_mem _ hx)
    refine ⟨k :: w, by rw [e, e2] <;> rfl, fun x hx => ?_⟩
    cases hx with
    | head => exact hk
    | tail _ hx => exact hw x hx
theorem Stp.weak {F H F1 H1 : Hp} (s : Stp [] H H F1 H1) (e : Same F H) : Stp [] F H F H1 := ⟨Same.refl F, e.trans s.same, s.hh, fun _ _ _ n => n, s.th⟩
theorem any_seq {K : PySem.W.Frag} {H : Hp} {v : V} {d : PyData} (h : Any K H v d) (hs : isSeq d = true) : ∃ b xs ds, v = .ref b ∧ DpAll K H xs ds ∧ ((d = .list ds ∧ SqL K H b xs) ∨ (d = .tuple ds ∧ SqT K H b xs)) := by
  cases h with
  | e h => cases hs
  | d h =>
    cases h with
    | lst a b => exact ⟨_, _, _, rfl, b, .inl ⟨rfl, a⟩⟩
    | tup a b => exact ⟨_, _, _, rfl, b, .inr ⟨rfl, a⟩⟩
    | _ => cases hs
theorem either_enum {K : PySem.W.Frag} {F H : Hp} {b : Addr} {xs : List V} {A B : Prop} {σ : L2.St} {i : Nat} {R : It → Hp → Prop} (hk : (A ∧ SqL K F b xs) ∨ (B ∧ SqT K F b xs)) (e : Same F H) (e0 : σ[i]? = some (some (.ref b))) (h : ∀ J, SrcG F J xs.length (ItemE xs) → R J H) :
    iEither (iEnum K (tCons (tVar i) tNil)) (iEnumT K (tCons (tVar i) tNil)) σ H R := by
  rcases hk with ⟨_, hl⟩ | ⟨_, ht⟩
  · exact .inl ⟨_, e0, b, xs, rfl, same_l e hl, h _ (src_el hl)⟩
  · exact .inr ⟨_, e0, b, xs, rfl, same_t e ht, h _ (src_et ht)⟩
section
variable {P : Program} {w : World} {K : PySem.W.Frag} {mg : Str → Option Value} {base : Heap}
theorem sc_checked_row : FnScope ["machine", "value", "at", "command"] ["machine", "value"] (defScope s_checked_row) := ⟨rfl, rfl, rfl, by decide +kernel, rfl, by decide +kernel, by decide +kernel⟩
theorem bn_checked_row : BindN d_checked_row ["machine", "value"] := fun _ _ _ _ _ _ us hl => match us, hl with | [_, _], _ => rfl
theorem ok_checked_row (T : Top P w K mg base) : Cal P w K mg base d_checked_row "checked_row" 4 ["machine", "value"] (spRow K) := by
  refine T.cal 9 6 rfl rfl rfl rfl rfl sc_checked_row bn_checked_row (fun vs H Q E h => ?_) fun f cdv A outer s H vs Q E hr h => ?_
  · obtain ⟨_, _, _, _, _, _, _, _, rfl, _⟩ := h
    rfl
  have nd := (sc_checked_row).nd
  refine ⟨_, (pss_cons (ps_if (pt_not (pt_val (pe_cal (ok_is_sequence T) hr (by decide) (by rfl) (pa_cons (pv 1) pa_nil))))
      (pss_one (ps_raise rfl (takes_of rfl rfl rfl rfl) (pm_err T.err_InvalidRow hr (by decide) (by rfl) (pa_cons pe_int pa_nil))))
      pss_nil)
    (pss_cons (ps_for (passes_of rfl) rfl (pi_either (pi_enum (by rfl) T.n_enumerate (pa_cons (pv 1) pa_nil)) (pi_enumT (by rfl) T.n_enumerate (pa_cons (pv 1) pa_nil))) (pg_tup rfl (pgs_cons (pg_name (i := 2) nd rfl (.inl rfl)) (pgs_cons (pg_name (i := 3) nd rfl (.inl rfl)) pgs_nil)))
      (pss_one (ps_if (pt_not (pt_val (pe_cal (ok_is_index T) hr (by decide) (by rfl) (pa_cons (pv 3) (pa_cons (pe_fld (pv 0) (by rfl)) pa_nil)))))
      (pss_one (ps_raise rfl (takes_of rfl rfl rfl rfl) (pm_err T.err_InvalidRow hr (by decide) (by rfl) (pa_cons (pv 2) pa_nil))))
      pss_nil)))
    (pss_one (ps_ret (pe_callTy cl_tup (by rfl) T.n_tuple bt_tuple (pa_cons (pv 1) pa_nil)))))), ?_⟩
  obtain ⟨F, m, v, c, n, δ, d0, d, rfl, hF, M, hv, q, qe⟩ := h
  refine ⟨v, rfl, F, v, d, rfl, hF, hv, fun r F1 H1 st1 hr => ⟨_, hr, ?_⟩⟩
  cases hsq : isSeq d with
  | false =>
    refine iteT ?_
    exact err_read st1.fh fun dx F' H' st hx => qe 0 (.inl ⟨hsq, rfl⟩) dx F' H' (st1.trans st) hx
  | true =>
    refine iteF ?_
    obtain ⟨b, xs, ds, rfl, hall, hk⟩ := any_seq hv hsq
    have hd : d = .list ds ∨ d = .tuple ds := hk.imp (fun z => z.1) fun z => z.1
    refine either_enum hk (st1.ff.trans st1.fh) rfl fun J src => for_doG src (fun i σ H' => ∃ F', Stp [] F H F' H' ∧ (∃ y1 y2, σ = [some m, some (.ref b), y1, y2]) ∧ ∀ j x, j < i → ds[j]? = some x → isIx x c = true) (fun i σ H' ⟨F', st, _⟩ => st.ff.trans st.fh) ⟨F1, st1, ⟨none, none, rfl⟩, fun j x hj => by omega⟩ (fun i x σ H' H'' hi hx hp => ?_) fun σ H' hp => ?_
    · obtain ⟨F', st, ⟨y1, y2, rfl⟩, hgood⟩ := hp
      obtain ⟨A, y, rfl, hA, rfl, hy⟩ := hx
      have st' := st.tup (xs := [.int (i : Nat), y]) hA
      refine ⟨A, _, rfl, .inl (.inl upd_same), rfl, _, _, rfl, _, _, rfl, rfl, ?_⟩
      refine ⟨y, rfl, m, rfl, fld_ex T.cls_ T.no_commands (st'.ff.trans st'.fh) M.f_commands ?_⟩
      have hin : i < ds.length := by rw [← hall.len]; exact hi
      have hdi : ds[i]? = some ds[i] := List.getElem?_eq_getElem hin
      refine ⟨_, y, ds[i], c, rfl, st'.fh, .d ((hall.at hy hdi).up st'.ff), fun r F2 H2 st2 hr => ⟨_, hr, ?_⟩⟩
      replace st2 := st'.trans st2
      cases hix : isIx ds[i] c with
      | false =>
        refine iteT ?_
        refine ⟨_, rfl, ?_⟩
        exact err_read st2.fh fun dx F3 H3 st3 hx => qe i (.inr ⟨ds, hd, ⟨_, hdi, hix⟩, hgood⟩) dx F3 H3 (st2.trans st3) hx
      | true =>
        refine iteF ?_
        refine ⟨_, st2, ⟨_, _, rfl⟩, fun j x hj hx => ?_⟩
        by_cases hji : j = i
        · subst hji
          rw [hdi] at hx
          cases hx
          exact hix
        · exact hgood j x (by omega) hx
    · obtain ⟨F', st, ⟨y1, y2, rfl⟩, hgood⟩ := hp
      obtain ⟨w, rfl, hw⟩ := all_ix (c := c) (ds := ds) fun x hx => by
        obtain ⟨j, hj, e⟩ := List.mem_iff_getElem.mp hx
        exact hgood j x (by rw [hall.len]; exact hj) (by rw [← e]; exact List.getElem?_eq_getElem hj)
      have q1 := q w ⟨hd, hw⟩
      have all' := hall.up st.ff
      rcases hk with ⟨_, hl⟩ | ⟨_, ht⟩
      · refine ⟨_, rfl, b, xs, rfl, .inl ⟨same_l (st.ff.trans st.fh) hl, fun l hln => ?_⟩⟩
        exact q1 _ _ _ (st.tup hln) (dp_tup st.fh hln all')
      · refine ⟨_, rfl, b, xs, rfl, .inr ⟨same_t (st.ff.trans st.fh) ht, ?_⟩⟩
        exact q1 _ _ _ st (.tup (same_t st.ff ht) all')

end
end K11


set_option Elab.async false
set_option linter.all false
set_option maxRecDepth 100000
set_option maxHeartbeats 4000000
/-! effect, kernel, are_states, checked_change. -/
namespace K11
open PySem PySem.Spec PyProof.Rows L2
def spEff (K : PySem.W.Frag) : Sp := fun vs H Q E => ∃ (F : Hp) (m v : V) (c n : Nat) (δ : List (List Nat)) (d0 : Addr) (d : PyData), vs = [m, v] ∧ Same F H ∧ Mach K F m c n δ d0 ∧ Any K F v d ∧ (∀ w, RowOk c d w → Back [] F H Q fun r F' _ => ∃ a, r = .ref a ∧ PT F' a ((effM δ w).map vN)) ∧ ∀ k, RowBad c d k → ErrB K F H E "InvalidRow" (vN k)
def spKer (K : PySem.W.Frag) : Sp := fun vs H Q E => ∃ (F : Hp) (m v : V) (c n : Nat) (δ : List (List Nat)) (d0 : Addr) (d : PyData), vs = [m, v] ∧ Same F H ∧ Mach K F m c n δ d0 ∧ Any K F v d ∧ (∀ w, RowOk c d w → Back [] F H Q fun r F' _ => Dp K F' r (tN (kerM δ w))) ∧ ∀ k, RowBad c d k → ErrB K F H E "InvalidRow" (vN k)
def spAreSt (K : PySem.W.Frag) : Sp := fun vs H Q _ => ∃ (F : Hp) (m v : V) (c n : Nat) (δ : List (List Nat)) (d0 : Addr) (ch : List Nat), vs = [m, v, vN n] ∧ Same F H ∧ Mach K F m c n δ d0 ∧ Dp K F v (tN ch) ∧ ch.length = n ∧ (∀ t ∈ ch, t < n) ∧ Back [] F H Q fun r _ _ => r = .bl true
def spCh (K : PySem.W.Frag) : Sp := fun vs H Q _ => ∃ (F : Hp) (m v : V) (c n : Nat) (δ : List (List Nat)) (d0 : Addr) (ch : List Nat), vs = [m, v] ∧ Same F H ∧ Mach K F m c n δ d0 ∧ Dp K F v (tN ch) ∧ ch.length = n ∧ (∀ t ∈ ch, t < n) ∧ Back [] F H Q fun r _ _ => r = v
theorem rs_app {b : Bool} (i : Nat) : (List.replicate i b).map V.bl ++ [V.bl b] = (List.replicate (i + 1) b).map V.bl := by
  rw [List.replicate_succ', List.map_append] <;> rfl
theorem all_rep (n : Nat) : (List.replicate n true).all id = true := by
  rw [List.all_eq_true]
  intro x hx
  rw [List.eq_of_mem_replicate hx] <;> rfl
section
variable {P : Program} {w : World} {K : PySem.W.Frag} {mg : Str → Option Value} {base : Heap}
theorem isIx_nD {t n : Nat} (h : t < n) : isIx (nD t) n = true := by
  show (decide (0 ≤ (t : Int)) && decide ((t : Int) < (n : Int))) = true
  rw [decide_eq_true (Int.natCast_nonneg t), decide_eq_true (Int.ofNat_lt.mpr h)] <;> rfl
theorem sc_effect : FnScope ["machine", "row", "some", "state"] ["machine", "row"] (defScope s_effect) := ⟨rfl, rfl, rfl, by decide +kernel, rfl, by decide +kernel, by decide +kernel⟩
theorem bn_effect : BindN d_effect ["machine", "row"] := fun _ _ _ _ _ _ us hl => match us, hl with | [_, _], _ => rfl
theorem ok_effect (T : Top P w K mg base) : Cal P w K mg base d_effect "effect" 5 ["machine", "row"] (spEff K) := by
  refine T.cal 11 8 rfl rfl rfl rfl rfl sc_effect bn_effect (fun vs H Q E h => ?_) fun f cdv A outer s H vs Q E hr h => ?_
  · obtain ⟨_, _, _, _, _, _, _, _, rfl, _⟩ := h
    rfl
  have nd := (sc_effect).nd
  refine ⟨_, (pss_cons (ps_set (i := 2) nd rfl (.inr rfl) (pe_calE (E := E) (ok_checked_row T) hr (by decide) (passes_call (takes_of rfl rfl rfl rfl) fun _ _ _ _ h => h) (by rfl) (pa_cons (pv 0) (pa_cons (pv 1) pa_nil))))
    (pss_one (ps_ret (pe_callTy call_tupF (by rfl) T.n_tuple bt_tuple (pa_cons (pe_lc (own := [("state", 3)]) (g := (gName 3)) (tt := tYes) (te := (tCall (spLed K) [] C8.E0 (tCons (tVar 0) (tCons (tVar 3) (tCons (tVar 2) tNil))))) rfl nd (pi_range1 (by rfl) T.n_range (pa_cons (pe_fld (pv 0) (by rfl)) pa_nil)) (blkOk_by (by kernel_rfl)) (fun _ _ _ _ _ => (pg_name (i := 3) nd rfl (.inl rfl))) (fun _ _ _ _ _ => pts_nil) (fun _ _ _ _ _ => (pe_cal (ok_led T) hr (by decide) (by rfl) (pa_cons (pv 0) (pa_cons (pv 3) (pa_cons (pv 2) pa_nil)))))) pa_nil))))), ?_⟩
  obtain ⟨F, m, v, c, n, δ, d0, d, rfl, hF, M, hv, q, qe⟩ := h
  refine ⟨m, rfl, v, rfl, F, m, v, c, n, δ, d0, d, rfl, hF, M, hv, fun w hw r F1 H1 st hr => ?_, qe⟩
  obtain ⟨b, rfl, hb⟩ := hr.tN_inv
  have hn := M.wf.n6
  refine ⟨m, rfl, fld_ex T.cls_ T.no_states (st.ff.trans st.fh) M.f_states ⟨(n : Int), rfl, by omega, by omega, ?_⟩⟩
  rw [Int.toNat_natCast]
  refine lc_do (S := []) (src_r (F := H1)) (Same.refl H1) (fun a h => by cases h) (by rw [sizeLine_eq]; omega) (fun i acc _ _ => acc = ((effM δ w).take i).map vN) rfl (fun i y acc F2 H2 hi hy st2 hp Y N hY hN => ?_) fun D acc F2 H2 st2 hD mu hl hp => ?_
  · have hy' : y = vN i := by rw [hy, Int.zero_add] <;> rfl
    subst hy'
    refine ⟨rfl, lc_yes ⟨m, rfl, vN i, rfl, .ref b, rfl, H2, m, c, n, δ, d0, i, b, w, rfl, Same.refl H2, M.up ((st.ff.trans st.fh).trans st2.same), hi, .inr (same_t (st.fh.trans st2.same) hb), hw.2, ?_⟩⟩
    refine hY _ F2 H2 (Stp.refl st2.fh) ?_
    rw [hp, take_snoc (eff_at w (by rw [M.wf.len]; exact hi)), List.map_append] <;> rfl
  · refine ⟨D, acc, rfl, .inl (.inl mu.at_), fun l o hl h1 h2 => ?_⟩
    refine q w hw _ (upd F1 l (.frz o (.tup acc))) _ ((st.trans (st2.weak st.fh)).trans (Stp.new (st2.weak st.fh).fh hl)) ⟨l, rfl, o, ?_, h1, h2⟩
    rw [upd_same, hp, List.take_of_length_le (by rw [eff_len, M.wf.len]; exact Nat.le_refl _)]

theorem sc_kernel : FnScope ["machine", "row"] ["machine", "row"] (defScope s_kernel) := ⟨rfl, rfl, rfl, by decide +kernel, rfl, by decide +kernel, by decide +kernel⟩
theorem bn_kernel : BindN d_kernel ["machine", "row"] := fun _ _ _ _ _ _ us hl => match us, hl with | [_, _], _ => rfl
theorem ok_kernel (T : Top P w K mg base) : Cal P w K mg base d_kernel "kernel" 6 ["machine", "row"] (spKer K) := by
  refine T.cal 22 19 rfl rfl rfl rfl rfl sc_kernel bn_kernel (fun vs H Q E h => ?_) fun f cdv A outer s H vs Q E hr h => ?_
  · obtain ⟨_, _, _, _, _, _, _, _, rfl, _⟩ := h
    rfl
  have nd := (sc_kernel).nd
  refine ⟨_, (pss_one (ps_ret (pe_cal (ok_kernel_of T) hr (by decide) (by rfl) (pa_cons (pe_calE (E := E) (ok_effect T) hr (by decide) (passes_call (takes_of rfl rfl rfl rfl) fun _ _ _ _ h => h) (by rfl) (pa_cons (pv 0) (pa_cons (pv 1) pa_nil))) pa_nil)))), ?_⟩
  obtain ⟨F, m, v, c, n, δ, d0, d, rfl, hF, M, hv, q, qe⟩ := h
  have hn := M.wf.n6
  refine ⟨m, rfl, v, rfl, F, m, v, c, n, δ, d0, d, rfl, hF, M, hv, fun w hw r F1 H1 st hr => ?_, qe⟩
  obtain ⟨b, rfl, hb⟩ := hr
  exact ⟨F1, b, effM δ w, rfl, st.fh, .inr hb, by rw [eff_len, M.wf.len]; omega, fun r F2 H2 st2 hr => q w hw r F2 H2 (st.trans st2) hr⟩

theorem sc_are_states : FnScope ["machine", "value", "many", "state"] ["machine", "value", "many"] (defScope s_are_states) := ⟨rfl, rfl, rfl, by decide +kernel, rfl, by decide +kernel, by decide +kernel⟩
theorem bn_are_states : BindN d_are_states ["machine", "value", "many"] := fun _ _ _ _ _ _ us hl => match us, hl with | [_, _, _], _ => rfl
theorem ok_are_states (T : Top P w K mg base) : Cal P w K mg base d_are_states "are_states" 4 ["machine", "value", "many"] (spAreSt K) := by
  refine T.cal 12 9 rfl rfl rfl rfl rfl sc_are_states bn_are_states (fun vs H Q E h => ?_) fun f cdv A outer s H vs Q E hr h => ?_
  · obtain ⟨_, _, _, _, _, _, _, _, rfl, _⟩ := h
    rfl
  have nd := (sc_are_states).nd
  refine ⟨_, (pss_cons (ps_if (pw_or (pt_not (pt_val (pe_callB call_isA (by rfl) T.n_isinstance bt_isinstance (pa_cons (pv 1) (pa_cons (pe_bltn (v := .ty "tuple") (by rfl) T.n_tuple bt_tuple rfl) pa_nil))))) (pw_or1 (pt_cmpR op_ne (pe_callB cl_len (by rfl) T.n_len bt_len (pa_cons (pv 1) pa_nil)) (pv 2) (nomark _)))).pt
      (pss_one (ps_ret pe_bl))
      pss_nil)
    (pss_one (ps_ret (pe_callB (cr_all rfl) (by rfl) T.n_all bt_all (pa_cons (pe_lc (own := [("state", 3)]) (g := (gName 3)) (tt := tYes) (te := (tCall (spIsIx K) [] C8.E0 (tCons (tVar 3) (tCons (tFld K (tVar 0) "states") tNil)))) rfl nd (pi_tup (pv 1)) (blkOk_by (by kernel_rfl)) (fun _ _ _ _ _ => (pg_name (i := 3) nd rfl (.inl rfl))) (fun _ _ _ _ _ => pts_nil) (fun _ _ _ _ _ => (pe_cal (ok_is_index T) hr (by decide) (by rfl) (pa_cons (pv 3) (pa_cons (pe_fld (pv 0) (by rfl)) pa_nil))))) pa_nil))))), ?_⟩
  obtain ⟨F, m, v, c, n, δ, d0, ch, rfl, hF, M, hv, hl, hlt, q⟩ := h
  have hn := M.wf.n6
  have hv1 := hv
  obtain ⟨b, rfl, hb⟩ := hv1.tN_inv
  refine ⟨.ref b, rfl, .ref b, _, "tuple", rfl, rfl, .d (hv.up hF), ?_⟩
  have e1 : isTy (tN ch) "tuple" = true := isTy_tuple _
  refine ⟨_, rfl, ?_⟩
  rw [e1]
  refine iteF ⟨.ref b, rfl, b, ch.map vN, rfl, .inr (same_t hF hb), vN n, rfl, rfl, _, rfl, ?_⟩
  have e2 : decide (V.int ((ch.map vN).length : Nat) = vN n) = true := decide_eq_true (by rw [List.length_map, hl] <;> rfl)
  rw [e2]
  refine iteF ⟨_, rfl, b, rfl, ⟨_, same_t hF hb⟩, ?_⟩
  have hlen : (ch.map vN).length = n := by rw [List.length_map, hl]
  refine lc_do (S := []) (src_t hb) hF (fun a h => by cases h) (by rw [hlen, sizeLine_eq]; omega) (fun i acc _ _ => acc = (List.replicate i true).map V.bl) rfl (fun i y acc F2 H2 hi hy st2 hp Y N hY hN => ?_) fun D acc F2 H2 st2 hD mu hl2 hp => ?_
  · obtain ⟨t, ht, rfl⟩ := vN_at hy
    refine ⟨rfl, lc_yes ⟨vN t, rfl, m, rfl, fld_ex T.cls_ T.no_states (st2.ff.trans st2.fh) M.f_states ⟨F2, vN t, nD t, n, rfl, st2.fh, .d (.int _), fun r F3 H3 st3 hr => ?_⟩⟩⟩
    refine hY _ F3 H3 st3 ?_
    rw [hp, hr, isIx_nD (hlt t (List.mem_of_getElem? ht)), rs_app]
  · refine ⟨D, List.replicate n true, rfl, .inl (.inl ?_), ?_⟩
    · rw [mu.at_, hp, hlen]
    · exact q _ _ _ st2 (by rw [all_rep])

theorem sc_checked_change : FnScope ["machine", "value"] ["machine", "value"] (defScope s_checked_change) := ⟨rfl, rfl, rfl, by decide +kernel, rfl, by decide +kernel, by decide +kernel⟩
theorem bn_checked_change : BindN d_checked_change ["machine", "value"] := fun _ _ _ _ _ _ us hl => match us, hl with | [_, _], _ => rfl
theorem ok_checked_change (T : Top P w K mg base) : Cal P w K mg base d_checked_change "checked_change" 5 ["machine", "value"] (spCh K) := by
  refine T.cal 13 10 rfl rfl rfl rfl rfl sc_checked_change bn_checked_change (fun vs H Q E h => ?_) fun f cdv A outer s H vs Q E hr h => ?_
  · obtain ⟨_, _, _, _, _, _, _, _, rfl, _⟩ := h
    rfl
  have nd := (sc_checked_change).nd
  refine ⟨_, (pss_cons (ps_if (pt_not (pt_val (pe_cal (ok_are_states T) hr (by decide) (by rfl) (pa_cons (pv 0) (pa_cons (pv 1) (pa_cons (pe_fld (pv 0) (by rfl)) pa_nil))))))
      (pss_one ps_never)
      pss_nil)
    (pss_one (ps_ret (pv 1)))), ?_⟩
  obtain ⟨F, m, v, c, n, δ, d0, ch, rfl, hF, M, hv, hl, hlt, q⟩ := h
  refine ⟨m, rfl, v, rfl, m, rfl, fld_ex T.cls_ T.no_states hF M.f_states ⟨F, m, v, c, n, δ, d0, ch, rfl, hF, M, hv, hl, hlt, fun r F1 H1 st hr => ⟨_, hr, iteF ?_⟩⟩⟩
  exact ⟨v, rfl, q _ _ _ st rfl⟩

end
end K11


set_option Elab.async false
set_option linter.all false
set_option maxRecDepth 100000
set_option maxHeartbeats 4000000
/-! Machine.found. -/
namespace K11
open PySem PySem.Spec PyProof.Rows L2
theorem nodup_len {α : Type} [DecidableEq α] : ∀ {xs ys : List α}, xs.Nodup → (∀ x ∈ xs, x ∈ ys) → xs.length ≤ ys.length
  | [], ys, _, _ => Nat.zero_le _
  | x :: xs, ys, hn, hs => by
    have hx := hs x List.mem_cons_self
    have hn' := List.nodup_cons.mp hn
    have ih := nodup_len (xs := xs) (ys := ys.erase x) hn'.2 fun z hz => by
      have hne : z ≠ x := fun e => hn'.1 (by rw [← e]; exact hz)
      exact (List.mem_erase_of_ne hne).mpr (hs z (List.mem_cons_of_mem _ hz))
    rw [List.length_erase_of_mem hx] at ih
    have hp : 0 < ys.length := List.length_pos_of_mem hx
    show xs.length + 1 ≤ ys.length
    omega
def OurKey (c : Nat) (δ : List (List Nat)) (kd : PyData) : Prop := kd = grKey ∨ ∃ x, x < c ∧ kd = chKey (doesM δ x)
theorem nkeys_nat : ∀ {ns ms : List Nat}, nkeys (ns.map nD) = nkeys (ms.map nD) → ns = ms
  | [], [], _ => rfl
  | [], m :: ms, h => by cases h
  | n :: ns, [], h => by cases h
  | n :: ns, m :: ms, h => by
    have h' : NestedKey.num (n : Int) :: nkeys (ns.map nD) = NestedKey.num (m : Int) :: nkeys (ms.map nD) := h
    obtain ⟨h1, h2⟩ := List.cons.inj h'
    injection h1 with h1
    rw [nkeys_nat h2, Int.ofNat_inj.mp h1]
theorem nkey_our {c : Nat} {δ : List (List Nat)} {a b : PyData} (ha : OurKey c δ a) (hb : OurKey c δ b) (h : nkey a = nkey b) : a = b := by
  have key : ∀ u v : List Nat, nkey (chKey u) = nkey (chKey v) → chKey u = chKey v := fun u v e => by
    have e' : NestedKey.tup [.text "change", .tup (nkeys (u.map nD))] = NestedKey.tup [.text "change", .tup (nkeys (v.map nD))] := e
    injection e' with e'
    obtain ⟨_, e'⟩ := List.cons.inj e'
    obtain ⟨e', _⟩ := List.cons.inj e'
    injection e' with e'
    rw [nkeys_nat e']
  rcases ha with rfl | ⟨x, _, rfl⟩ <;> rcases hb with rfl | ⟨y, _, rfl⟩
  · rfl
  · cases h
  · cases h
  · exact key _ _ h
theorem depth_nats : ∀ ns : List Nat, NestedKey.depthAll (nkeys (ns.map nD)) ≤ 1
  | [] => Nat.zero_le _
  | n :: ns => by
    show max (NestedKey.depth (.num n)) (NestedKey.depthAll (nkeys (ns.map nD))) ≤ 1
    have h := depth_nats ns
    have h2 : NestedKey.depth (.num (n : Int)) ≤ 1 := Nat.zero_le 1
    omega
theorem keyables_nat : ∀ ns : List Nat, keyables (ns.map nD) = true
  | [] => rfl
  | n :: ns => by
    show (keyable (nD n) && keyables (ns.map nD)) = true
    rw [keyables_nat ns] <;> rfl
theorem mixD_tN (ns : List Nat) : MixD (tN ns) := by
  refine ⟨keyables_nat ns, ?_, .inl ⟨_, rfl⟩⟩
  have h := depth_nats ns
  show NestedKey.depth (.tup (nkeys (ns.map nD))) ≤ 8
  simp only [NestedKey.depth]
  omega
theorem our_mix {c : Nat} {δ : List (List Nat)} {kd : PyData} (h : OurKey c δ kd) : MixD kd := by
  rcases h with rfl | ⟨x, _, rfl⟩
  · exact ⟨rfl, by decide, .inr ⟨_, rfl⟩⟩
  · refine ⟨?_, ?_, .inl ⟨_, rfl⟩⟩
    · show (keyable (.str "change") && (keyables ((doesM δ x).map nD) && true)) = true
      rw [keyables_nat] <;> rfl
    · have h := depth_nats (doesM δ x)
      show NestedKey.depth (.tup [.text "change", .tup (nkeys ((doesM δ x).map nD))]) ≤ 8
      simp only [NestedKey.depth, NestedKey.depthAll]
      omega
def tFound (K : PySem.W.Frag) (w : World) (f : Addr) (sp1 : V → Hp → VK → Prop) : TS := tSeq (tIfS (tTest (tOp (rNotInM K w) (tVar 1) (tFld K (tVar 0) "_found"))) (tAsg (tWork 2 f sp1 (tCons (tVar 0) tNil)) (gSub (tFld K (tVar 0) "_found") (tVar 1) (rSetM K w))) tNext) (tRet (tOp (rIxM K w) (tFld K (tVar 0) "_found") (tVar 1)))
section
variable {P : Program} {w : World} {K : PySem.W.Frag} {mg : Str → Option Value} {base : Heap}
theorem sc_Machine_found : FnScope ["self", "word", "work"] ["self", "word", "work"] (defScope s_Machine_found) := ⟨rfl, rfl, rfl, by decide +kernel, rfl, by decide +kernel, by decide +kernel⟩
theorem bn_Machine_found : BindN d_Machine_found ["self", "word", "work"] := fun _ _ _ _ _ _ us hl => match us, hl with | [_, _, _], _ => rfl
theorem pss_found {CX : CXT} {k : Nat} {g : Addr} {cdv : Value} {A : Around} {outer : List Env} {s : Shared} {H : Hp} {E : XK} {f : Addr} {sp1 : V → Hp → VK → Prop} (hr : Room k (A.deeper (envOfC d_Machine_found.qual d_Machine_found.scope s.heap.objs.size g cdv)))
    (W : Works (cxOf CX P w K mg base ["self", "word", "work"] d_Machine_found.qual d_Machine_found.scope g cdv A outer s H E) f sp1) : PSs (cxOf CX P w K mg base ["self", "word", "work"] d_Machine_found.qual d_Machine_found.scope g cdv A outer s H E) d_Machine_found.body (tFound K w f sp1) := by
  have nd := (sc_Machine_found).nd
  exact ((pss_cons (ps_if (pt_cmpR (op_notInM hr.units) (pv 1) (pe_fld (pv 0) (by rfl)) (by with_unfolding_all rfl))
      (pss_one (ps_asg (pe_work (i := 2) W rfl (.inl rfl) (pa_cons (pv 0) pa_nil)) (pg_sub (pe_fld (pv 0) (by rfl)) (pv 1) (set_mix hr.units))))
      pss_nil)
    (pss_one (ps_ret (pe_ix (ix_mix hr.units) (pe_fld (pv 0) (by rfl)) (pv 1) (fun _ _ => rfl))))))

theorem mixV_app {xs : List MixV} {e : MixV} (h : mixV xs (nkey e.1) = none) : mixV (xs ++ [e]) (nkey e.1) = some e.2.2 := by
  unfold mixV at h ⊢
  rw [Option.map_eq_none_iff] at h
  rw [List.find?_append, h]
  simp
theorem mixV_mem {xs : List MixV} {k : NestedKey} {v : V} (h : mixV xs k = some v) : ∃ e ∈ xs, nkey e.1 = k ∧ e.2.2 = v := by
  unfold mixV at h
  rw [Option.map_eq_some_iff] at h
  obtain ⟨e, he, rfl⟩ := h
  exact ⟨e, List.mem_of_find?_eq_some he, by simpa using List.find?_some he, rfl⟩
theorem mixV_not {xs : List MixV} {k : NestedKey} (h : mixV xs k = none) : ∀ e ∈ xs, nkey e.1 ≠ k := fun e he z => by
  unfold mixV at h
  rw [Option.map_eq_none_iff, List.find?_eq_none] at h
  exact h e he (decide_eq_true z)
theorem Mach.has_found {F H : Hp} {m : V} {c n : Nat} {δ : List (List Nat)} {d : Addr} (T : Top P w K mg base) (M : Mach K F m c n δ d) (e : Same F H) {Y : V → Prop} (y : Y (.ref d)) : ∃ a C dx fs v', m = .ref a ∧ H a = some (.ins C dx fs) ∧ Cls K C ∧ NoAttr K C "_found" ∧ fs.lookup ("_found" : Str) = some v' ∧ Y v' := fld_ex T.cls_ T.no_found e M.f_found y
theorem Fnd.mixAt {F H : Hp} {c : Nat} {δ : List (List Nat)} {d : Addr} {xs : List MixV} (mu : Mu F H d (mixO w d xs)) (e : Same F H) (al : ∀ e ∈ xs, MixD e.1 ∧ Dp K F e.2.1 e.1 ∧ Good K F c δ e.1 e.2.2 ∧ OurKey c δ e.1) : MixAt K w H d xs :=
  ⟨mu.at_, fun x hx => ⟨(al x hx).1, (al x hx).2.1.up e⟩⟩
theorem our_few {c : Nat} {δ : List (List Nat)} {xs : List MixV} (hc : c ≤ 3) (al : ∀ e ∈ xs, OurKey c δ e.1) (nd : (xs.map fun e => nkey e.1).Nodup) : xs.length < sizeLine := by
  have h := nodup_len (ys := nkey grKey :: (List.range c).map fun x => nkey (chKey (doesM δ x))) nd fun k hk => by
    obtain ⟨e, he, rfl⟩ := List.mem_map.mp hk
    rcases al e he with z | ⟨x, hx, z⟩
    · rw [z]
      exact List.mem_cons_self
    · rw [z]
      exact List.mem_cons_of_mem _ (List.mem_map.mpr ⟨x, List.mem_range.mpr hx, rfl⟩)
  rw [List.length_map, List.length_cons, List.length_map, List.length_range] at h
  rw [sizeLine_eq]
  omega
/-- Machine.found, work given -/
theorem found_read (T : Top P w K mg base) {f : Addr} {sp1 : V → Hp → VK → Prop} {F H : Hp} {m wv : V} {c n : Nat} {δ : List (List Nat)} {d : Addr} {kd : PyData} {D : Ends} (hF : Same F H) (M : Mach K F m c n δ d) (N : Fnd K w F H c δ d) (hk : OurKey c δ kd) (hw : Dp K F wv kd)
    (work : ∀ Y, Back [] F H Y (fun r F1 _ => Good K F1 c δ kd r) → sp1 m H Y) (q : Back [d] F H D.rt fun r F' H' => Good K F' c δ kd r ∧ Fnd K w F' H' c δ d) : tFound K w f sp1 D (L2.start ["self", "word", "work"] [m, wv, .ref f]) H := by
  obtain ⟨xs, mu, al, nd⟩ := N.ex
  have md := our_mix hk
  refine ⟨wv, rfl, m, rfl, M.has_found T hF ?_⟩
  refine ⟨d, xs, kd, rfl, Fnd.mixAt mu hF al, md, hw.up hF, _, rfl, ?_⟩
  cases hv : mixV xs (nkey kd) with
  | some v =>
    refine iteF ?_
    refine ⟨m, rfl, M.has_found T hF ?_⟩
    refine ⟨wv, rfl, d, xs, kd, v, rfl, Fnd.mixAt mu hF al, md, hw.up hF, hv, ?_⟩
    obtain ⟨e, he, e1, e2⟩ := mixV_mem hv
    obtain ⟨a1, a2, a3, a4⟩ := al e he
    have e3 := nkey_our a4 hk e1
    rw [e2, e3] at a3
    exact q v F H (Stp.refl hF) ⟨a3, xs, mu, al, nd⟩
  | none =>
    refine iteT ?_
    refine ⟨rfl, m, rfl, m, rfl, work _ fun r F1 H1 st hr => ?_⟩
    have hF1 := st.fh
    have mu1 := st.mu0 mu
    have al1 : ∀ e ∈ xs, MixD e.1 ∧ Dp K F1 e.2.1 e.1 ∧ Good K F1 c δ e.1 e.2.2 ∧ OurKey c δ e.1 := fun e he => ⟨(al e he).1, (al e he).2.1.up st.ff, (al e he).2.2.1.up st.ff, (al e he).2.2.2⟩
    have M1 := M.up st.ff
    have hw1 := hw.up st.ff
    refine ⟨m, rfl, M1.has_found T hF1 ?_⟩
    refine ⟨wv, rfl, d, xs, kd, rfl, Fnd.mixAt mu1 hF1 al1, md, hw1.up hF1, hv, our_few M.wf.c3 (fun e he => (al e he).2.2.2) nd, ?_⟩
    have mu2 : Mu F1 (upd H1 d (mixO w d (xs ++ [(kd, wv, r)]))) d (mixO w d (xs ++ [(kd, wv, r)])) := mu1.wrote
    have st2 : Stp [d] F H F1 (upd H1 d (mixO w d (xs ++ [(kd, wv, r)]))) := st.up.write (.inr List.mem_cons_self) mu1
    have al2 : ∀ e ∈ xs ++ [(kd, wv, r)], MixD e.1 ∧ Dp K F1 e.2.1 e.1 ∧ Good K F1 c δ e.1 e.2.2 ∧ OurKey c δ e.1 := fun e he => by
      rcases List.mem_append.mp he with z | z
      · exact al1 e z
      · rw [List.mem_singleton] at z
        rw [z]
        exact ⟨md, hw1, hr, hk⟩
    refine ⟨m, rfl, M1.has_found T st2.fh ?_⟩
    refine ⟨wv, rfl, d, _, kd, r, rfl, Fnd.mixAt mu2 st2.fh al2, md, hw1.up st2.fh, mixV_app (e := (kd, wv, r)) hv, ?_⟩
    refine q r F1 _ st2 ⟨hr, _, mu2, al2, ?_⟩
    rw [List.map_append, List.map_cons, List.map_nil, List.nodup_append]
    refine ⟨nd, by simp, fun a ha b hb => ?_⟩
    rw [List.mem_singleton] at hb
    obtain ⟨e, he, rfl⟩ := List.mem_map.mp ha
    rw [hb]
    exact mixV_not hv e he
end
end K11


set_option Elab.async false
set_option linter.all false
set_option maxRecDepth 100000
set_option maxHeartbeats 4000000
/-! Plain: the search of `explored`. -/
namespace K11
open PySem PySem.Spec PyProof.Rows L2
abbrev Q4 := Nat × Nat × Nat × Nat
def q4 (f : Q4) : List Nat := [f.1, f.2.1, f.2.2.1, f.2.2.2]
theorem q4_inj {f g : Q4} (h : q4 f = q4 g) : f = g := by
  obtain ⟨a, b, c, d⟩ := f
  obtain ⟨a', b', c', d'⟩ := g
  simp only [q4, List.cons.injEq, and_true] at h
  obtain ⟨rfl, rfl, rfl, rfl⟩ := h
  rfl
/-- a command may be put behind -/
def NextOk (δ : List (List Nat)) (f : Q4) (x : Nat) : Prop := dl δ f.2.2.1 x ≠ dl δ f.2.2.2 x
def nx (δ : List (List Nat)) (f : Q4) (x : Nat) : Q4 := (dl δ f.1 x, dl δ f.2.1 x, dl δ f.2.2.1 x, dl δ f.2.2.2 x)
def start4 (ch : List Nat) (s t : Nat) : Q4 := (s, t, ch.getD s 0, ch.getD t 0)
def led4 (δ : List (List Nat)) (f : Q4) (u : List Nat) : Q4 := (ledM δ f.1 u, ledM δ f.2.1 u, ledM δ f.2.2.1 u, ledM δ f.2.2.2 u)
def IsStart (ch : List Nat) (n : Nat) (f : Q4) : Prop := ∃ s t, s < t ∧ t < n ∧ ch.getD s 0 ≠ ch.getD t 0 ∧ f = start4 ch s t
theorem snocInd {α : Type} {P : List α → Prop} (h0 : P []) (h1 : ∀ l a, P l → P (l ++ [a])) (l : List α) : P l := by
  have h : ∀ m : List α, P m.reverse := fun m => by
    induction m with
    | nil => exact h0
    | cons a m ih =>
      rw [List.reverse_cons]
      exact h1 _ _ ih
  have z := h l.reverse
  rw [List.reverse_reverse] at z
  exact z
structure Rch (δ : List (List Nat)) (c n : Nat) (ch : List Nat) (f : Q4) : Prop where
  ex : ∃ g u, IsStart ch n g ∧ Word c u ∧ f = led4 δ g u
  yz : f.2.2.1 ≠ f.2.2.2
structure Bfs (δ : List (List Nat)) (c n : Nat) (ch : List Nat) (T : Q4 → Prop) (M : List Q4) : Prop where
  rch : ∀ f ∈ M, Rch δ c n ch f
  ne : ∀ f ∈ M, f.1 ≠ f.2.1
  st : ∀ f, IsStart ch n f → f ∈ M
  nd : M.Nodup
  cl : ∀ f ∈ M, T f ∨ ∀ x, x < c → NextOk δ f x → nx δ f x ∈ M
section
variable {δ : List (List Nat)} {c n : Nat} {ch : List Nat} {T U : Q4 → Prop} {M : List Q4} {f : Q4} {x : Nat}
theorem led4_snoc (g : Q4) (u : List Nat) (x : Nat) : led4 δ g (u ++ [x]) = nx δ (led4 δ g u) x := by
  unfold led4 nx
  rw [led_snoc, led_snoc, led_snoc, led_snoc]
theorem word_snoc {u : List Nat} (h : Word c u) (hx : x < c) : Word c (u ++ [x]) := fun y hy => by
  rcases List.mem_append.mp hy with z | z
  · exact h y z
  · rw [List.mem_singleton] at z
    rw [z]
    exact hx
theorem Rch.next (r : Rch δ c n ch f) (hx : x < c) (h : NextOk δ f x) : Rch δ c n ch (nx δ f x) := by
  obtain ⟨⟨g, u, h1, h2, rfl⟩, _⟩ := r
  exact ⟨⟨g, u ++ [x], h1, word_snoc h2 hx, (led4_snoc g u x).symm⟩, h⟩
theorem Bfs.weak (b : Bfs δ c n ch T M) (h : ∀ f ∈ M, T f → U f) : Bfs δ c n ch U M := ⟨b.rch, b.ne, b.st, b.nd, fun f hf => (b.cl f hf).imp (h f hf) id⟩
theorem Bfs.add (b : Bfs δ c n ch T M) (hf : f ∈ M) (hx : x < c) (h : NextOk δ f x) (hn : nx δ f x ∉ M) (hp : (nx δ f x).1 ≠ (nx δ f x).2.1) : Bfs δ c n ch (fun g => T g ∨ g = nx δ f x) (M ++ [nx δ f x]) := by
  refine ⟨fun g hg => ?_, fun g hg => ?_, fun g hg => List.mem_append_left _ (b.st g hg), ?_, fun g hg => ?_⟩
  · rcases List.mem_append.mp hg with z | z
    · exact b.rch g z
    · rw [List.mem_singleton] at z
      rw [z]
      exact (b.rch f hf).next hx h
  · rcases List.mem_append.mp hg with z | z
    · exact b.ne g z
    · rw [List.mem_singleton] at z
      rw [z]
      exact hp
  · rw [List.nodup_append]
    refine ⟨b.nd, by simp, fun a ha d hd => ?_⟩
    rw [List.mem_singleton] at hd
    rw [hd]
    intro e
    exact hn (by rw [← e]; exact ha)
  · rcases List.mem_append.mp hg with z | z
    · rcases b.cl g z with t | t
      · exact .inl (.inl t)
      · exact .inr fun y hy hk => List.mem_append_left _ (t y hy hk)
    · rw [List.mem_singleton] at z
      exact .inl (.inr z)
theorem Bfs.done (b : Bfs δ c n ch (fun g => T g ∨ g = f) M) (h : ∀ x, x < c → NextOk δ f x → nx δ f x ∈ M) : Bfs δ c n ch T M := by
  refine ⟨b.rch, b.ne, b.st, b.nd, fun g hg => ?_⟩
  rcases b.cl g hg with (t | t) | t
  · exact .inl t
  · rw [t]
    exact .inr h
  · exact .inr t
theorem Bfs.fault (b : Bfs δ c n ch T M) (hn : δ.length = n) (hf : f ∈ M) (hx : x < c) (h : NextOk δ f x) (he : (nx δ f x).1 = (nx δ f x).2.1) : ¬ NoFault δ c ch := by
  obtain ⟨⟨g, u, ⟨s, t, hst, htn, hne, rfl⟩, hu, e⟩, hyz⟩ := (b.rch f hf).next hx h
  rw [e] at he hyz
  intro nf
  exact hyz (nf s t u (by omega) (by omega) hu he)
theorem Bfs.clean (b : Bfs δ c n ch (fun _ => False) M) (hn : δ.length = n) : NoFault δ c ch := by
  have key : ∀ (u : List Nat) (g : Q4), IsStart ch n g → Word c u → (led4 δ g u).2.2.1 ≠ (led4 δ g u).2.2.2 → led4 δ g u ∈ M := by
    intro u g hg
    refine snocInd (P := fun u => Word c u → (led4 δ g u).2.2.1 ≠ (led4 δ g u).2.2.2 → led4 δ g u ∈ M) (fun _ _ => b.st g hg) (fun u x ih hw hyz => ?_) u
    rw [led4_snoc] at hyz ⊢
    have hx : x < c := hw x (List.mem_append_right _ List.mem_cons_self)
    have hm := ih (fun y hy => hw y (List.mem_append_left _ hy)) fun e => hyz (by show dl δ _ x = dl δ _ x; rw [e])
    exact (b.cl _ hm).elim (fun z => z.elim) fun z => z x hx hyz
  have two : ∀ (s t : Nat) (w : List Nat), s < t → t < n → Word c w → ledM δ s w = ledM δ t w → ledM δ (ch.getD s 0) w = ledM δ (ch.getD t 0) w := fun s t w hst ht hw he => Classical.byContradiction fun hne => by
    have hg : IsStart ch n (start4 ch s t) := ⟨s, t, hst, ht, fun e => hne (by rw [e]), rfl⟩
    exact b.ne _ (key w _ hg hw hne) he
  intro s t w hs ht hw he
  rw [hn] at hs ht
  rcases Nat.lt_trichotomy s t with h | h | h
  · exact two s t w h ht hw he
  · rw [h]
  · exact (two t s w h hs hw he.symm).symm
def code4 (f : Q4) : Nat := ((f.1 * 6 + f.2.1) * 6 + f.2.2.1) * 6 + f.2.2.2
theorem code4_inj {f g : Q4} (h1 : f.2.1 < 6) (h2 : f.2.2.1 < 6) (h3 : f.2.2.2 < 6) (k1 : g.2.1 < 6) (k2 : g.2.2.1 < 6) (k3 : g.2.2.2 < 6) (h : code4 f = code4 g) : f = g := by
  obtain ⟨a, b, c, d⟩ := f
  obtain ⟨a', b', c', d'⟩ := g
  unfold code4 at h
  simp only at h h1 h2 h3 k1 k2 k3
  have e4 : d = d' := by omega
  have e3 : c = c' := by omega
  have e2 : b = b' := by omega
  have e1 : a = a' := by omega
  rw [e1, e2, e3, e4]
theorem nodup_map {α β : Type} {f : α → β} : ∀ {l : List α}, l.Nodup → (∀ a ∈ l, ∀ b ∈ l, f a = f b → a = b) → (l.map f).Nodup
  | [], _, _ => List.nodup_nil
  | x :: l, h, hf => by
    rw [List.map_cons, List.nodup_cons]
    obtain ⟨h1, h2⟩ := List.nodup_cons.mp h
    refine ⟨fun z => ?_, nodup_map h2 fun a ha b hb => hf a (List.mem_cons_of_mem _ ha) b (List.mem_cons_of_mem _ hb)⟩
    obtain ⟨y, hy, e⟩ := List.mem_map.mp z
    exact h1 (by rw [hf x List.mem_cons_self y (List.mem_cons_of_mem _ hy) e.symm]; exact hy)
def Small (n : Nat) (f : Q4) : Prop := f.1 < n ∧ f.2.1 < n ∧ f.2.2.1 < n ∧ f.2.2.2 < n
theorem Rch.small (W : WF c n δ) (hch : ∀ s, s < n → ch.getD s 0 < n) (r : Rch δ c n ch f) : Small n f := by
  obtain ⟨⟨g, u, ⟨s, t, hst, htn, _, rfl⟩, hu, rfl⟩, _⟩ := r
  exact ⟨W.led_lt u _ (by show s < n; omega) hu, W.led_lt u _ htn hu, W.led_lt u _ (hch s (by omega)) hu, W.led_lt u _ (hch t htn) hu⟩
theorem Bfs.few (W : WF c n δ) (hch : ∀ s, s < n → ch.getD s 0 < n) (b : Bfs δ c n ch T M) : M.length ≤ 1296 := by
  have hn := W.n6
  have h := nodup_len (xs := M.map code4) (ys := List.range 1296) (nodup_map b.nd fun f hf g hg e => by
    obtain ⟨_, a2, a3, a4⟩ := (b.rch f hf).small W hch
    obtain ⟨_, b2, b3, b4⟩ := (b.rch g hg).small W hch
    exact code4_inj (by omega) (by omega) (by omega) (by omega) (by omega) (by omega) e) fun k hk => by
    obtain ⟨f, hf, rfl⟩ := List.mem_map.mp hk
    obtain ⟨a1, a2, a3, a4⟩ := (b.rch f hf).small W hch
    rw [List.mem_range]
    unfold code4
    omega
  rw [List.length_map, List.length_range] at h
  exact h
end
/-! ### what starts and nexts list -/
def startsUp (ch : List Nat) (t s : Nat) : List Q4 := ((List.range s).filter fun s => decide (ch.getD s 0 ≠ ch.getD t 0)).map fun s => start4 ch s t
def startsL (ch : List Nat) : Nat → List Q4
  | 0 => []
  | t + 1 => startsL ch t ++ startsUp ch t t
theorem startsUp_succ (ch : List Nat) (t s : Nat) : startsUp ch t (s + 1) = startsUp ch t s ++ (if ch.getD s 0 ≠ ch.getD t 0 then [start4 ch s t] else []) := by
  unfold startsUp
  rw [List.range_succ, List.filter_append, List.map_append]
  by_cases h : ch.getD s 0 ≠ ch.getD t 0
  · rw [if_pos h, List.filter_cons, if_pos (decide_eq_true h)] <;> rfl
  · rw [if_neg h, List.filter_cons, if_neg (by rw [decide_eq_true_eq]; exact h)] <;> rfl
theorem mem_startsUp {ch : List Nat} {t m : Nat} {f : Q4} : f ∈ startsUp ch t m ↔ ∃ s, s < m ∧ ch.getD s 0 ≠ ch.getD t 0 ∧ f = start4 ch s t := by
  unfold startsUp
  rw [List.mem_map]
  constructor
  · rintro ⟨s, hs, rfl⟩
    rw [List.mem_filter, List.mem_range, decide_eq_true_eq] at hs
    exact ⟨s, hs.1, hs.2, rfl⟩
  · rintro ⟨s, h1, h2, rfl⟩
    exact ⟨s, by rw [List.mem_filter, List.mem_range, decide_eq_true_eq]; exact ⟨h1, h2⟩, rfl⟩
theorem mem_startsL {ch : List Nat} {f : Q4} : ∀ {n : Nat}, f ∈ startsL ch n ↔ IsStart ch n f
  | 0 => ⟨fun h => (by cases h), fun h => by
    obtain ⟨s, t, _, h, _⟩ := h
    omega⟩
  | n + 1 => by
    show f ∈ startsL ch n ++ startsUp ch n n ↔ _
    rw [List.mem_append, mem_startsL, mem_startsUp]
    constructor
    · rintro (⟨s, t, h1, h2, h3, rfl⟩ | ⟨s, h1, h2, rfl⟩)
      · exact ⟨s, t, h1, by omega, h3, rfl⟩
      · exact ⟨s, n, h1, by omega, h2, rfl⟩
    · rintro ⟨s, t, h1, h2, h3, rfl⟩
      by_cases e : t = n
      · subst e
        exact .inr ⟨s, h1, h3, rfl⟩
      · exact .inl ⟨s, t, h1, by omega, h3, rfl⟩
theorem len_startsUp (ch : List Nat) (t s : Nat) : (startsUp ch t s).length ≤ s := by
  unfold startsUp
  rw [List.length_map]
  exact Nat.le_trans (List.length_filter_le _ _) (by rw [List.length_range]; exact Nat.le_refl _)
theorem len_startsL (ch : List Nat) : ∀ t : Nat, t ≤ 6 → (startsL ch t).length ≤ 6 * t
  | 0, _ => Nat.zero_le _
  | t + 1, h => by
    show (startsL ch t ++ startsUp ch t t).length ≤ _
    rw [List.length_append]
    have h1 := len_startsL ch t (by omega)
    have h2 := len_startsUp ch t t
    omega
theorem nodup_startsUp (ch : List Nat) (t : Nat) : ∀ s : Nat, (startsUp ch t s).Nodup
  | 0 => List.nodup_nil
  | s + 1 => by
    rw [startsUp_succ, List.nodup_append]
    refine ⟨nodup_startsUp ch t s, by split <;> simp, fun a ha b hb => ?_⟩
    obtain ⟨s', h1, h2, rfl⟩ := mem_startsUp.mp ha
    intro e
    split at hb
    · rw [List.mem_singleton] at hb
      rw [hb] at e
      have : s' = s := congrArg (fun f => f.1) e
      omega
    · cases hb
theorem nodup_startsL (ch : List Nat) : ∀ n : Nat, (startsL ch n).Nodup
  | 0 => List.nodup_nil
  | n + 1 => by
    show (startsL ch n ++ startsUp ch n n).Nodup
    rw [List.nodup_append]
    refine ⟨nodup_startsL ch n, nodup_startsUp ch n n, fun a ha b hb e => ?_⟩
    obtain ⟨s, t, h1, h2, h3, rfl⟩ := mem_startsL.mp ha
    obtain ⟨s', h4, h5, rfl⟩ := mem_startsUp.mp hb
    have : t = n := congrArg (fun f => f.2.1) e
    omega
def nextsL (δ : List (List Nat)) (f : Q4) (c : Nat) : List (Nat × Q4) := ((List.range c).filter fun x => decide (dl δ f.2.2.1 x ≠ dl δ f.2.2.2 x)).map fun x => (x, nx δ f x)
theorem nextsL_succ (δ : List (List Nat)) (f : Q4) (x : Nat) : nextsL δ f (x + 1) = nextsL δ f x ++ (if dl δ f.2.2.1 x ≠ dl δ f.2.2.2 x then [(x, nx δ f x)] else []) := by
  unfold nextsL
  rw [List.range_succ, List.filter_append, List.map_append]
  by_cases h : dl δ f.2.2.1 x ≠ dl δ f.2.2.2 x
  · rw [if_pos h, List.filter_cons, if_pos (decide_eq_true h)] <;> rfl
  · rw [if_neg h, List.filter_cons, if_neg (by rw [decide_eq_true_eq]; exact h)] <;> rfl
theorem mem_nextsL {δ : List (List Nat)} {f : Q4} {c : Nat} {e : Nat × Q4} : e ∈ nextsL δ f c ↔ ∃ x, x < c ∧ NextOk δ f x ∧ e = (x, nx δ f x) := by
  unfold nextsL
  rw [List.mem_map]
  constructor
  · rintro ⟨s, hs, rfl⟩
    rw [List.mem_filter, List.mem_range, decide_eq_true_eq] at hs
    exact ⟨s, hs.1, hs.2, rfl⟩
  · rintro ⟨s, h1, h2, rfl⟩
    exact ⟨s, by rw [List.mem_filter, List.mem_range, decide_eq_true_eq]; exact ⟨h1, h2⟩, rfl⟩
/-- the beginning -/
theorem Bfs.init {δ : List (List Nat)} {c n : Nat} {ch : List Nat} {L : List Q4} (hp : L.Perm (startsL ch n)) : Bfs δ c n ch (fun f => f ∈ L) L := by
  have hm : ∀ f, f ∈ L ↔ IsStart ch n f := fun f => by rw [hp.mem_iff, mem_startsL]
  refine ⟨fun f hf => ?_, fun f hf => ?_, fun f hf => (hm f).mpr hf, hp.nodup_iff.mpr (nodup_startsL ch n), fun f hf => .inl hf⟩
  · have hs := (hm f).mp hf
    refine ⟨⟨f, [], hs, fun x hx => (by cases hx), rfl⟩, ?_⟩
    obtain ⟨s, t, h1, h2, h3, rfl⟩ := hs
    exact h3
  · obtain ⟨s, t, h1, h2, h3, rfl⟩ := (hm f).mp hf
    exact Nat.ne_of_lt h1
end K11

set_option Elab.async false
set_option linter.all false
set_option maxRecDepth 100000
set_option maxHeartbeats 4000000
/-! Kernels, in plain Lean. -/
namespace K11
open PySem PySem.Spec PyProof.Rows L2
section
theorem idx_le {l : List Nat} {k a : Nat} (h : l[k]? = some a) : l.idxOf a ≤ k := by
  by_cases hk : l.idxOf a ≤ k
  · exact hk
  · exact absurd rfl ((idx_first (List.mem_of_getElem? h)).2 k a (by omega) h)
theorem idx_get {l : List Nat} {a : Nat} (h : a ∈ l) : l[l.idxOf a]? = some a := (idx_first h).1
theorem kerOf_pat {l : List Nat} {i j x y a b : Nat} (hx : l[i]? = some x) (hy : l[j]? = some y) (ha : (kerOf l)[i]? = some a) (hb : (kerOf l)[j]? = some b) : a = b ↔ x = y := by
  rw [kerOf_at hx] at ha
  rw [kerOf_at hy] at hb
  cases ha
  cases hb
  refine ⟨fun e => ?_, fun e => by rw [e]⟩
  have h1 := idx_get (List.mem_of_getElem? hx)
  rw [e, idx_get (List.mem_of_getElem? hy)] at h1
  exact (Option.some.inj h1).symm
theorem kerOf_congr {l m : List Nat} (hl : l.length = m.length) (h : ∀ i j a b c d : Nat, l[i]? = some a → l[j]? = some b → m[i]? = some c → m[j]? = some d → (a = b ↔ c = d)) : kerOf l = kerOf m := by
  refine List.ext_getElem? fun i => ?_
  by_cases hi : i < l.length
  · have h1 : l[i]? = some l[i] := List.getElem?_eq_getElem hi
    have hi2 : i < m.length := by omega
    have h2 : m[i]? = some (m[i]'hi2) := List.getElem?_eq_getElem hi2
    generalize l[i] = a at h1
    generalize m[i]'hi2 = b at h2
    rw [kerOf_at h1, kerOf_at h2]
    congr 1
    have k1 := idx_get (List.mem_of_getElem? h1)
    have k2 := idx_get (List.mem_of_getElem? h2)
    refine Nat.le_antisymm ?_ ?_
    · have hlt := (List.getElem?_eq_some_iff.mp k2).1
      have h3 : ∃ z, l[m.idxOf b]? = some z := ⟨_, List.getElem?_eq_getElem (by omega)⟩
      obtain ⟨z, h3⟩ := h3
      have e := (h _ _ _ _ _ _ h3 h1 k2 h2).mpr rfl
      rw [e] at h3
      exact idx_le h3
    · have hlt := (List.getElem?_eq_some_iff.mp k1).1
      have h3 : ∃ z, m[l.idxOf a]? = some z := ⟨_, List.getElem?_eq_getElem (by omega)⟩
      obtain ⟨z, h3⟩ := h3
      have e := (h _ _ _ _ _ _ k1 h1 h3 h2).mp rfl
      rw [e] at h3
      exact idx_le h3
  · rw [List.getElem?_eq_none (by rw [kerOf_len]; omega), List.getElem?_eq_none (by rw [kerOf_len]; omega)]
theorem kerOf_lt {l : List Nat} {a : Nat} (h : a ∈ kerOf l) : a < l.length := by
  unfold kerOf at h
  obtain ⟨x, hx, rfl⟩ := List.mem_map.mp h
  exact List.idxOf_lt_length_of_mem hx
theorem kerOf_idem {l : List Nat} {i a : Nat} (h : (kerOf l)[i]? = some a) : (kerOf l)[a]? = some a ∧ a ≤ i := by
  have hi := (List.getElem?_eq_some_iff.mp h).1
  rw [kerOf_len] at hi
  have h1 : l[i]? = some l[i] := List.getElem?_eq_getElem hi
  rw [kerOf_at h1] at h
  cases h
  have k1 := idx_get (List.mem_of_getElem? h1)
  exact ⟨kerOf_at k1, idx_le h1⟩
end
section
variable {c n : Nat} {δ : List (List Nat)}
theorem ker_len (W : WF c n δ) (w : List Nat) : (kerM δ w).length = n := by
  unfold kerM
  rw [kerOf_len, eff_len, W.len]
/-- the least state that w leads where it leads s -/
def rep (δ : List (List Nat)) (w : List Nat) (s : Nat) : Nat := (effM δ w).idxOf (ledM δ s w)
theorem ker_at (W : WF c n δ) (w : List Nat) {s : Nat} (h : s < n) : (kerM δ w)[s]? = some (rep δ w s) := kerOf_at (eff_at w (by rw [W.len]; exact h))
theorem rep_eq (W : WF c n δ) (w : List Nat) {s t : Nat} (h : s < n) (h2 : t < n) : rep δ w s = rep δ w t ↔ ledM δ s w = ledM δ t w :=
  kerOf_pat (eff_at w (by rw [W.len]; exact h)) (eff_at w (by rw [W.len]; exact h2)) (ker_at W w h) (ker_at W w h2)
theorem rep_le (W : WF c n δ) (w : List Nat) {s : Nat} (h : s < n) : rep δ w s ≤ s ∧ rep δ w (rep δ w s) = rep δ w s := by
  obtain ⟨h1, h2⟩ := kerOf_idem (ker_at W w h)
  refine ⟨h2, ?_⟩
  have z := ker_at W w (s := rep δ w s) (by omega)
  unfold kerM at z
  rw [h1] at z
  exact (Option.some.inj z).symm
theorem rep_led (W : WF c n δ) (w : List Nat) {s : Nat} (h : s < n) : ledM δ (rep δ w s) w = ledM δ s w := by
  have h1 := rep_le W w h
  exact (rep_eq W w (by omega) h).mp h1.2
theorem rep_min (W : WF c n δ) (w : List Nat) {s t : Nat} (h : s < n) (h2 : t < n) (e : ledM δ t w = ledM δ s w) : rep δ w s ≤ t := by
  have z := (rep_eq W w h2 h).mpr e
  rw [← z]
  exact (rep_le W w h2).1
/-- one brings together all that the other does -/
def Coarse (δ : List (List Nat)) (n : Nat) (u v : List Nat) : Prop := ∀ s t, s < n → t < n → ledM δ s u = ledM δ t u → ledM δ s v = ledM δ t v
theorem Coarse.refl (u : List Nat) : Coarse δ n u u := fun _ _ _ _ h => h
theorem Coarse.trans {u v w : List Nat} (a : Coarse δ n u v) (b : Coarse δ n v w) : Coarse δ n u w := fun s t h1 h2 e => b s t h1 h2 (a s t h1 h2 e)
theorem ker_eq (W : WF c n δ) {u v : List Nat} : kerM δ u = kerM δ v ↔ Coarse δ n u v ∧ Coarse δ n v u := by
  constructor
  · intro e
    have key : ∀ s, s < n → rep δ u s = rep δ v s := fun s h => by
      have z := ker_at W u h
      rw [e, ker_at W v h] at z
      exact (Option.some.inj z).symm
    refine ⟨fun s t h1 h2 e => ?_, fun s t h1 h2 e => ?_⟩
    · rw [← rep_eq W v h1 h2, ← key s h1, ← key t h2]
      exact (rep_eq W u h1 h2).mpr e
    · rw [← rep_eq W u h1 h2, key s h1, key t h2]
      exact (rep_eq W v h1 h2).mpr e
  · rintro ⟨h1, h2⟩
    refine kerOf_congr (by rw [eff_len, eff_len]) fun i j a b x y ha hb hx hy => ?_
    have hi : i < δ.length := by have z := (List.getElem?_eq_some_iff.mp ha).1; rw [eff_len] at z; exact z
    have hj : j < δ.length := by have z := (List.getElem?_eq_some_iff.mp hb).1; rw [eff_len] at z; exact z
    rw [eff_at u hi] at ha
    rw [eff_at u hj] at hb
    rw [eff_at v hi] at hx
    rw [eff_at v hj] at hy
    cases ha
    cases hb
    cases hx
    cases hy
    rw [W.len] at hi hj
    exact ⟨h1 i j hi hj, h2 i j hi hj⟩
theorem ahead_ker (W : WF c n δ) {x : Nat} (hx : x < c) (w : List Nat) : aheadM δ x (kerM δ w) = kerM δ (x :: w) := by
  unfold aheadM
  refine kerOf_congr (by rw [List.length_map, does_len, eff_len]) fun i j a b p q ha hb hp hq => ?_
  have hi : i < δ.length := by have z := (List.getElem?_eq_some_iff.mp hp).1; rw [eff_len] at z; exact z
  have hj : j < δ.length := by have z := (List.getElem?_eq_some_iff.mp hq).1; rw [eff_len] at z; exact z
  rw [eff_at _ hi, led_cons] at hp
  rw [eff_at _ hj, led_cons] at hq
  rw [List.getElem?_map, does_at x hi] at ha
  rw [List.getElem?_map, does_at x hj] at hb
  cases hp
  cases hq
  cases ha
  cases hb
  rw [W.len] at hi hj
  obtain ⟨_, _, _, h1⟩ := W.dl_at hi hx
  obtain ⟨_, _, _, h2⟩ := W.dl_at hj hx
  have e1 : (kerM δ w).getD (dl δ i x) 0 = rep δ w (dl δ i x) := by rw [List.getD_eq_getElem?_getD, ker_at W w h1] <;> rfl
  have e2 : (kerM δ w).getD (dl δ j x) 0 = rep δ w (dl δ j x) := by rw [List.getD_eq_getElem?_getD, ker_at W w h2] <;> rfl
  show (kerM δ w).getD (dl δ i x) 0 = (kerM δ w).getD (dl δ j x) 0 ↔ _
  rw [e1, e2]
  exact rep_eq W w h1 h2
theorem ker_nil (W : WF c n δ) : kerM δ [] = List.range n := by
  refine List.ext_getElem? fun i => ?_
  by_cases hi : i < n
  · have h1 := rep_le W [] hi
    have h2 := rep_led W [] hi
    rw [ker_at W [] hi, List.getElem?_range hi]
    exact congrArg some h2
  · rw [List.getElem?_eq_none (by rw [ker_len W]; omega), List.getElem?_eq_none (by rw [List.length_range]; omega)]
/-! ### what comes behind keeps together what is together -/
theorem coarse_app (W : WF c n δ) (u v : List Nat) : Coarse δ n u (u ++ v) := fun s t _ _ e => by rw [led_app, led_app, e]
theorem coarse_pre (W : WF c n δ) {u v : List Nat} (h : Coarse δ n u v) {x : List Nat} (hx : Word c x) : Coarse δ n (x ++ u) (x ++ v) := fun s t hs ht e => by
  rw [led_app, led_app] at e ⊢
  exact h _ _ (W.led_lt x s hs hx) (W.led_lt x t ht hx) e
theorem nf_coarse (W : WF c n δ) {x : Nat} (hx : x < c) : NoFault δ c (doesM δ x) ↔ ∀ w, Word c w → Coarse δ n w (x :: w) := by
  have key : ∀ s, s < n → (doesM δ x).getD s 0 = dl δ s x := fun s hs => by rw [List.getD_eq_getElem?_getD, does_at x (by rw [W.len]; exact hs)] <;> rfl
  constructor
  · intro h w hw s t hs ht e
    have z := h s t w (by rw [W.len]; exact hs) (by rw [W.len]; exact ht) hw e
    rw [key s hs, key t ht] at z
    exact z
  · intro h s t w hs ht hw e
    rw [W.len] at hs ht
    rw [key s hs, key t ht]
    exact h w hw s t hs ht e
theorem calm_cons (W : WF c n δ) (hb : ¬ BlindM δ c) {x : Nat} (hx : x < c) {w : List Nat} (hw : Word c w) : Coarse δ n w (x :: w) := by
  unfold BlindM at hb
  rw [Classical.not_not] at hb
  exact (nf_coarse W hx).mp (hb x hx) w hw
theorem calm_ins (W : WF c n δ) (hb : ¬ BlindM δ c) {x : Nat} (hx : x < c) {u v : List Nat} (hu : Word c u) (hv : Word c v) : Coarse δ n (u ++ v) (u ++ x :: v) := coarse_pre W (calm_cons W hb hx hv) hu
theorem calm_pre (W : WF c n δ) (hb : ¬ BlindM δ c) {w : List Nat} (hw : Word c w) : ∀ {u : List Nat}, Word c u → Coarse δ n w (u ++ w)
  | [], _ => Coarse.refl w
  | x :: u, hu => (calm_pre W hb hw fun y hy => hu y (List.mem_cons_of_mem _ hy)).trans (calm_cons W hb (hu x List.mem_cons_self) fun y hy => by
    rcases List.mem_append.mp hy with z | z
    · exact hu y (List.mem_cons_of_mem _ z)
    · exact hw y z)
/-- by kernels alone -/
theorem blind_iff (W : WF c n δ) : BlindM δ c ↔ ∃ w s x, Word c w ∧ s < n ∧ x < c ∧ rep δ w (dl δ s x) ≠ rep δ w (dl δ (rep δ w s) x) := by
  constructor
  · intro h
    refine Classical.byContradiction fun hn => h fun x hx => (nf_coarse W hx).mpr fun w hw s t hs ht e => ?_
    have key : ∀ s, s < n → rep δ w (dl δ s x) = rep δ w (dl δ (rep δ w s) x) := fun s hs => Classical.byContradiction fun z => hn ⟨w, s, x, hw, hs, hx, z⟩
    obtain ⟨_, _, _, h1⟩ := W.dl_at hs hx
    obtain ⟨_, _, _, h2⟩ := W.dl_at ht hx
    rw [led_cons, led_cons, ← rep_eq W w h1 h2, key s hs, key t ht, (rep_eq W w hs ht).mpr e]
  · rintro ⟨w, s, x, hw, hs, hx, hne⟩ hb
    obtain ⟨_, _, _, h1⟩ := W.dl_at hs hx
    have hr : rep δ w s < n := Nat.lt_of_le_of_lt (rep_le W w hs).1 hs
    obtain ⟨_, _, _, h2⟩ := W.dl_at hr hx
    refine hne ((rep_eq W w h1 h2).mpr ?_)
    exact (nf_coarse W hx).mp (hb x hx) w hw s (rep δ w s) hs hr (rep_led W w hs).symm
/-! ### how many classes -/
def cls (n : Nat) (δ : List (List Nat)) (w : List Nat) : Nat := ((List.range n).filter fun s => decide (rep δ w s = s)).length
theorem cls_le (W : WF c n δ) {u v : List Nat} (h : Coarse δ n u v) : cls n δ v ≤ cls n δ u := by
  unfold cls
  refine nodup_len (List.nodup_range.filter _) fun s hs => ?_
  rw [List.mem_filter] at hs ⊢
  have hn : s < n := List.mem_range.mp hs.1
  refine ⟨hs.1, decide_eq_true ?_⟩
  have e := of_decide_eq_true hs.2
  have h1 := rep_le W u hn
  have h2 : rep δ v s ≤ rep δ u s := rep_min W v hn (by omega) (h _ _ (by omega) hn (rep_led W u hn))
  omega
theorem cls_lt (W : WF c n δ) {u v : List Nat} (h : Coarse δ n u v) (hne : kerM δ u ≠ kerM δ v) : cls n δ v < cls n δ u := by
  obtain ⟨s, t, hs, ht, e1, e2⟩ : ∃ s t, s < n ∧ t < n ∧ ledM δ s v = ledM δ t v ∧ ledM δ s u ≠ ledM δ t u := by
    refine Classical.byContradiction fun hn => hne ((ker_eq W).mpr ⟨h, fun s t hs ht e => Classical.byContradiction fun z => hn ⟨s, t, hs, ht, e, z⟩⟩)
  have hr : ∀ a, a < n → rep δ u a < n := fun a ha => Nat.lt_of_le_of_lt (rep_le W u ha).1 ha
  have key : ∀ a b, a < n → b < n → rep δ u a < rep δ u b → ledM δ a v = ledM δ b v → cls n δ v < cls n δ u := fun a b ha hb hlt e => by
    have hb' := hr b hb
    have e2 : ledM δ (rep δ u b) v = ledM δ b v := h _ _ hb' hb (rep_led W u hb)
    have e3 : ledM δ (rep δ u a) v = ledM δ a v := h _ _ (hr a ha) ha (rep_led W u ha)
    have hbr : rep δ v (rep δ u b) ≤ rep δ u a := rep_min W v hb' (hr a ha) (by rw [e3, e, e2])
    unfold cls
    have hm : rep δ u b ∈ (List.range n).filter fun s => decide (rep δ u s = s) := List.mem_filter.mpr ⟨List.mem_range.mpr hb', decide_eq_true (rep_le W u hb).2⟩
    have z := nodup_len (xs := (List.range n).filter fun s => decide (rep δ v s = s)) (ys := ((List.range n).filter fun s => decide (rep δ u s = s)).erase (rep δ u b)) (List.nodup_range.filter _) fun s hs => ?_
    · rw [List.length_erase_of_mem hm] at z
      have hp : 0 < ((List.range n).filter fun s => decide (rep δ u s = s)).length := List.length_pos_of_mem hm
      omega
    · rw [List.mem_filter] at hs
      have hn : s < n := List.mem_range.mp hs.1
      have e4 := of_decide_eq_true hs.2
      have hne2 : s ≠ rep δ u b := fun q => by
        rw [← q] at hbr
        rw [e4] at hbr
        omega
      refine (List.mem_erase_of_ne hne2).mpr (List.mem_filter.mpr ⟨hs.1, decide_eq_true ?_⟩)
      have h1 := rep_le W u hn
      have h2 : rep δ v s ≤ rep δ u s := rep_min W v hn (by omega) (h _ _ (by omega) hn (rep_led W u hn))
      omega
  have hne3 : rep δ u s ≠ rep δ u t := fun z => e2 ((rep_eq W u hs ht).mp z)
  rcases Nat.lt_or_gt_of_ne hne3 with z | z
  · exact key s t hs ht z e1
  · exact key t s ht hs z e1.symm
theorem cls_set (W : WF c n δ) (w : List Nat) {m : List Int} (hd : m.Nodup) (hm : ∀ k, k ∈ m ↔ k ∈ (kerM δ w).map fun (x : Nat) => (x : Int)) : m.length = cls n δ w := by
  have hmem : ∀ x : Nat, (x : Int) ∈ m ↔ x < n ∧ rep δ w x = x := fun x => by
    rw [hm]
    constructor
    · intro h
      obtain ⟨y, hy, e⟩ := List.mem_map.mp h
      have e' : y = x := Int.ofNat_inj.mp e
      subst e'
      obtain ⟨i, hi, ei⟩ := List.mem_iff_getElem.mp hy
      rw [ker_len W] at hi
      have z := ker_at W w hi
      rw [List.getElem?_eq_getElem (by rw [ker_len W]; exact hi), ei] at z
      have z' := Option.some.inj z
      have h1 := rep_le W w hi
      rw [← z'] at h1
      exact ⟨by omega, h1.2⟩
    · rintro ⟨h1, h2⟩
      refine List.mem_map.mpr ⟨x, ?_, rfl⟩
      have z := ker_at W w h1
      rw [h2] at z
      exact List.mem_of_getElem? z
  have hnat : ∀ k ∈ m, ∃ x : Nat, k = (x : Int) := fun k hk => by
    obtain ⟨y, _, e⟩ := List.mem_map.mp ((hm k).mp hk)
    exact ⟨y, e.symm⟩
  unfold cls
  refine Nat.le_antisymm ?_ ?_
  · have z := nodup_len (xs := m) (ys := ((List.range n).filter fun s => decide (rep δ w s = s)).map fun (x : Nat) => (x : Int)) hd fun k hk => by
      obtain ⟨x, rfl⟩ := hnat k hk
      obtain ⟨h1, h2⟩ := (hmem x).mp hk
      exact List.mem_map.mpr ⟨x, List.mem_filter.mpr ⟨List.mem_range.mpr h1, decide_eq_true h2⟩, rfl⟩
    rw [List.length_map] at z
    exact z
  · have z := nodup_len (xs := ((List.range n).filter fun s => decide (rep δ w s = s)).map fun (x : Nat) => (x : Int)) (ys := m) (nodup_map (List.nodup_range.filter _) fun a _ b _ e => Int.ofNat_inj.mp e) fun k hk => by
      obtain ⟨x, hx, rfl⟩ := List.mem_map.mp hk
      rw [List.mem_filter] at hx
      exact (hmem x).mpr ⟨List.mem_range.mp hx.1, of_decide_eq_true hx.2⟩
    rw [List.length_map] at z
    exact z
end
end K11

set_option Elab.async false
set_option linter.all false
set_option maxRecDepth 100000
set_option maxHeartbeats 4000000
/-! starts, nexts. -/
namespace K11
open PySem PySem.Spec PyProof.Rows L2
def q4D (f : Q4) : PyData := tN (q4 f)
def nxD (e : Nat × Q4) : PyData := .tuple [nD e.1, q4D e.2]
def spStarts (K : PySem.W.Frag) : Sp := fun vs H Q _ => ∃ (F : Hp) (m v : V) (c n : Nat) (δ : List (List Nat)) (d0 : Addr) (ch : List Nat), vs = [m, v] ∧ Same F H ∧ Mach K F m c n δ d0 ∧ Dp K F v (tN ch) ∧ ch.length = n ∧ Back [] F H Q fun r F' _ => ∃ L : List Q4, L.Perm (startsL ch n) ∧ Dp K F' r (.list (L.map q4D))
def spNexts (K : PySem.W.Frag) : Sp := fun vs H Q _ => ∃ (F : Hp) (m v : V) (c n : Nat) (δ : List (List Nat)) (d0 : Addr) (f : Q4), vs = [m, v] ∧ Same F H ∧ Mach K F m c n δ d0 ∧ Dp K F v (q4D f) ∧ Small n f ∧ Back [] F H Q fun r F' _ => Dp K F' r (.list ((nextsL δ f c).map nxD))
section
variable {K : PySem.W.Frag} {F H : Hp} {Q : VK}
theorem ix_tN {ns : List Nat} {x : V} {i k : Nat} (h : Dp K F x (tN ns)) (f : Same F H) (e : ns[i]? = some k) (q : Q (vN k) H) : rIxB K x (vN i) H Q := ixB_dt h f (get_nD e) fun z hz => by
  rw [hz.int_inv]
  exact q
theorem getD_some {ns : List Nat} {i : Nat} (h : i < ns.length) : ns[i]? = some (ns.getD i 0) := by
  rw [List.getD_eq_getElem?_getD, List.getElem?_eq_getElem h] <;> rfl
theorem dec_vN {a b : Nat} : decide (vN a = vN b) = decide (a = b) := by
  rw [Bool.eq_iff_iff, decide_eq_true_eq, decide_eq_true_eq]
  constructor
  · intro h
    injection h with h
    exact Int.ofNat_inj.mp h
  · intro h
    rw [h]
theorem dpall_perm {α : Type} {g : α → PyData} {xs ys : List V} {L : List α} (hp : ys.Perm xs) (h : DpAll K F xs (L.map g)) : ∃ L' : List α, L'.Perm L ∧ DpAll K F ys (L'.map g) := by
  induction hp generalizing L with
  | nil => exact ⟨L, .refl L, h⟩
  | cons x p ih =>
    match L, h with
    | a :: L, .cons h1 h2 =>
      obtain ⟨L', p', h'⟩ := ih h2
      exact ⟨a :: L', p'.cons a, .cons h1 h'⟩
  | swap x y l =>
    match L, h with
    | a :: b :: L, .cons h1 (.cons h2 h3) => exact ⟨b :: a :: L, .swap a b L, .cons h2 (.cons h1 h3)⟩
  | trans p1 p2 ih1 ih2 =>
    obtain ⟨L1, q1, h1⟩ := ih2 h
    obtain ⟨L2, q2, h2⟩ := ih1 h1
    exact ⟨L2, q2.trans q1, h2⟩
theorem int_q4 {x : V} {f : Q4} (h : Dp K F x (q4D f)) (e : Same F H) : IntT' K H x := by
  obtain ⟨a, rfl, hs⟩ := h.tN_inv
  exact ⟨a, ((f.1 : Nat) : Int), [((f.2.1 : Nat) : Int), ((f.2.2.1 : Nat) : Int), ((f.2.2.2 : Nat) : Int)], rfl, same_t e hs⟩
theorem cell_get {c n s x : Nat} {δ : List (List Nat)} {u : V} (W : WF c n δ) (h : s < n) (hx : x < c) (hu : Dp K F u (tN (δ.getD s []))) (e : Same F H) (y : Q (vN (dl δ s x)) H) : rIxB K u (vN x) H Q := by
  obtain ⟨r, h1, _⟩ := W.get h
  have e1 : δ.getD s [] = r := by rw [List.getD_eq_getElem?_getD, h1] <;> rfl
  rw [e1] at hu
  exact cell_at W h hx h1 hu e y
end
section
variable {P : Program} {w : World} {K : PySem.W.Frag} {mg : Str → Option Value} {base : Heap}
theorem sc_starts : FnScope ["machine", "change", "found", "t", "s"] ["machine", "change"] (defScope s_starts) := ⟨rfl, rfl, rfl, by decide +kernel, rfl, by decide +kernel, by decide +kernel⟩
theorem bn_starts : BindN d_starts ["machine", "change"] := fun _ _ _ _ _ _ us hl => match us, hl with | [_, _], _ => rfl
theorem ok_starts (T : Top P w K mg base) : Cal P w K mg base d_starts "starts" 1 ["machine", "change"] (spStarts K) := by
  refine T.cal 14 11 rfl rfl rfl rfl rfl sc_starts bn_starts (fun vs H Q E h => ?_) fun f cdv A outer s H vs Q E hr h => ?_
  · obtain ⟨_, _, _, _, _, _, _, _, rfl, _⟩ := h
    rfl
  have nd := (sc_starts).nd
  refine ⟨_, (pss_cons (ps_set (i := 2) nd rfl (.inl rfl) (pe_lst pa_nil))
    (pss_cons (ps_for (passes_of rfl) rfl (pi_range1 (by rfl) T.n_range (pa_cons (pe_fld (pv 0) (by rfl)) pa_nil)) (pg_name (i := 3) nd rfl (.inl rfl))
      (pss_one (ps_for (passes_of rfl) rfl (pi_range1 (by rfl) T.n_range (pa_cons (pv 3) pa_nil)) (pg_name (i := 4) nd rfl (.inl rfl))
      (pss_one (ps_if (pt_cmpR op_ne (pe_ix ix_both (pv 1) (pv 4) (fun _ _ => rfl)) (pe_ix ix_both (pv 1) (pv 3) (fun _ _ => rfl)) (nomark _))
      (pss_one (ps_expr (pe_bm PySem.F.plainAttrs_list PySem.F.slot_list_append PySem.F.type_list_append mt_append (pv 2) (pa_cons (pe_tup (pa_cons (pv 4) (pa_cons (pv 3) (pa_cons (pe_ix ix_both (pv 1) (pv 4) (fun _ _ => rfl)) (pa_cons (pe_ix ix_both (pv 1) (pv 3) (fun _ _ => rfl)) pa_nil))))) pa_nil))))
      pss_nil)))))
    (pss_one (ps_ret (pe_callB call_sortL (by rfl) T.n_sorted bt_sorted (pa_cons (pv 2) pa_nil)))))), ?_⟩
  obtain ⟨F, m, v, c, n, δ, d0, ch, rfl, hF, M, hv, hl, q⟩ := h
  have hn := M.wf.n6
  have get : ∀ {F1 H1 : Hp} {Q1 : VK} {i : Nat}, Stp [] F H F1 H1 → i < n → Q1 (vN (ch.getD i 0)) H1 → rIxB K v (vN i) H1 Q1 := fun st hi y => ix_tN hv (st.ff.trans st.fh) (getD_some (by rw [hl]; exact hi)) y
  refine ⟨by decide, fun l hln => ?_⟩
  have st0 : Stp [] F H F (upd H l (.lst [])) := Stp.newM hF hln
  refine ⟨m, rfl, fld_ex T.cls_ T.no_states st0.fh M.f_states ⟨(n : Int), rfl, by omega, by omega, ?_⟩⟩
  rw [Int.toNat_natCast]
  refine for_do (src_r (F := F)) (fun t σ H' => ∃ F' xs, Stp [] F H F' H' ∧ Mu F' H' l (.lst xs) ∧ DpAll K F' xs ((startsL ch t).map q4D) ∧ ∃ y1 y2, σ = [some m, some v, some (.ref l), y1, y2]) (fun i σ H' ⟨F', xs, st, _⟩ => st.ff.trans st.fh) ⟨F, [], st0, Mu.new hF hln, .nil, none, none, rfl⟩ (fun t x σ H1 ht hx hp => ?_) fun σ H1 hp => ?_
  · obtain ⟨F1, xs, st, mu, hall, y1, y2, rfl⟩ := hp
    have hx' : x = vN t := by rw [hx, Int.zero_add] <;> rfl
    subst hx'
    refine ⟨vN t, rfl, (t : Int), rfl, by omega, by omega, ?_⟩
    rw [Int.toNat_natCast]
    refine for_do (src_r (F := F)) (fun s σ H' => ∃ F' xs, Stp [] F H F' H' ∧ Mu F' H' l (.lst xs) ∧ DpAll K F' xs ((startsL ch t ++ startsUp ch t s).map q4D) ∧ ∃ y2, σ = [some m, some v, some (.ref l), some (vN t), y2]) (fun i σ H' ⟨F', xs, st, _⟩ => st.ff.trans st.fh) ⟨F1, xs, st, mu, ?_, y2, rfl⟩ (fun s x σ H2 hs hx hp => ?_) fun σ H2 hp => ?_
    · rw [show startsUp ch t 0 = [] from rfl, List.append_nil]
      exact hall
    · obtain ⟨F2, xs2, st2, mu2, hall2, y2, rfl⟩ := hp
      have hx' : x = vN s := by rw [hx, Int.zero_add] <;> rfl
      subst hx'
      refine ⟨v, rfl, vN s, rfl, get st2 (by omega) ⟨v, rfl, vN t, rfl, get st2 ht ⟨rfl, _, rfl, ?_⟩⟩⟩
      rw [dec_vN]
      by_cases e : ch.getD s 0 = ch.getD t 0
      · rw [decide_eq_true e]
        refine iteF ⟨F2, xs2, st2, mu2, ?_, some (vN s), rfl⟩
        rw [startsUp_succ, if_neg (fun z => z e), List.append_nil]
        exact hall2
      · rw [decide_eq_false e]
        refine iteT ?_
        refine ⟨.ref l, rfl, .inl ⟨rfl, _, .inl (.inl mu2.at_)⟩, ?_⟩
        refine ⟨vN s, rfl, vN t, rfl, v, rfl, vN s, rfl, get st2 (by omega) ⟨v, rfl, vN t, rfl, get st2 ht ⟨(show 4 ≤ sizeLine by decide), fun p hpn => ?_⟩⟩⟩
        have st3 := st2.tup (xs := [vN s, vN t, vN (ch.getD s 0), vN (ch.getD t 0)]) hpn
        have mu3 : Mu _ _ l (.lst xs2) := (Stp.new (S := []) (o := .tup [vN s, vN t, vN (ch.getD s 0), vN (ch.getD t 0)]) st2.fh hpn).mu0 mu2
        have hlen : xs2.length < sizeLine := by
          have h1 := hall2.len
          have h2 := len_startsL ch t (by omega)
          have h3 := len_startsUp ch t s
          rw [List.length_map, List.length_append] at h1
          rw [sizeLine_eq]
          omega
        refine ⟨l, xs2, _, rfl, rfl, mu3.at_, hlen, ?_⟩
        refine ⟨_, _, st3.write (.inl hln) mu3, mu3.wrote, ?_, some (vN s), rfl⟩
        rw [startsUp_succ, if_pos e, ← List.append_assoc, List.map_append]
        exact (hall2.up (same_new st2.fh hpn)).snoc (dp_tup (ds := (q4 (start4 ch s t)).map nD) st2.fh hpn (all_nats (q4 (start4 ch s t))))
    · obtain ⟨F2, xs2, st2, mu2, hall2, y2, rfl⟩ := hp
      exact ⟨F2, xs2, st2, mu2, hall2, _, y2, rfl⟩
  · obtain ⟨F1, xs, st, mu, hall, y1, y2, rfl⟩ := hp
    refine ⟨.ref l, rfl, l, xs, rfl, .inl (.inl mu.at_), fun x hx => ?_, fun ys p hperm hpn => ?_⟩
    · obtain ⟨d, hd, hx2⟩ := hall.mem hx
      obtain ⟨f4, _, rfl⟩ := List.mem_map.mp hd
      exact int_q4 hx2 st.fh
    · obtain ⟨L', hL, hall'⟩ := dpall_perm hperm hall
      exact q _ _ _ (st.lst hpn) ⟨L', hL, dp_lst st.fh hpn hall'⟩

theorem sc_nexts : FnScope ["machine", "four", "p", "q", "y", "z", "state", "at"] ["machine", "four"] (defScope s_nexts) := ⟨rfl, rfl, rfl, by decide +kernel, rfl, by decide +kernel, by decide +kernel⟩
theorem bn_nexts : BindN d_nexts ["machine", "four"] := fun _ _ _ _ _ _ us hl => match us, hl with | [_, _], _ => rfl
theorem ok_nexts (T : Top P w K mg base) : Cal P w K mg base d_nexts "nexts" 1 ["machine", "four"] (spNexts K) := by
  refine T.cal 15 12 rfl rfl rfl rfl rfl sc_nexts bn_nexts (fun vs H Q E h => ?_) fun f cdv A outer s H vs Q E hr h => ?_
  · obtain ⟨_, _, _, _, _, _, _, _, rfl, _⟩ := h
    rfl
  have nd := (sc_nexts).nd
  refine ⟨_, (pss_cons (ps_asg (pe_lc (own := [("state", 6)]) (g := (gName 6)) (tt := tYes) (te := (tOp (rIxB K) (tFld K (tVar 0) "steps") (tVar 6))) rfl nd (pi_tup (pv 1)) (blkOk_by (by kernel_rfl)) (fun _ _ _ _ _ => (pg_name (i := 6) nd rfl (.inl rfl))) (fun _ _ _ _ _ => pts_nil) (fun _ _ _ _ _ => (pe_ix ix_both (pe_fld (pv 0) (by rfl)) (pv 6) (fun _ _ => rfl)))) (pg_unl rfl (pgs_cons (pg_name (i := 2) nd rfl (.inr rfl)) (pgs_cons (pg_name (i := 3) nd rfl (.inr rfl)) (pgs_cons (pg_name (i := 4) nd rfl (.inr rfl)) (pgs_cons (pg_name (i := 5) nd rfl (.inr rfl)) pgs_nil))))))
    (pss_one (ps_ret (pe_lc (own := [("at", 7)]) (g := (gName 7)) (tt := (tTest (tOp rNe (tOp (rIxB K) (tVar 4) (tVar 7)) (tOp (rIxB K) (tVar 5) (tVar 7))))) (te := (tTup (tCons (tVar 7) (tCons (tTup (tCons (tOp (rIxB K) (tVar 2) (tVar 7)) (tCons (tOp (rIxB K) (tVar 3) (tVar 7)) (tCons (tOp (rIxB K) (tVar 4) (tVar 7)) (tCons (tOp (rIxB K) (tVar 5) (tVar 7)) tNil))))) tNil)))) rfl nd (pi_range1 (by rfl) T.n_range (pa_cons (pe_fld (pv 0) (by rfl)) pa_nil)) (blkOk_by (by kernel_rfl)) (fun _ _ _ _ _ => (pg_name (i := 7) nd rfl (.inl rfl))) (fun _ _ _ _ _ => (pts_one (pt_cmpR op_ne (pe_ix ix_both (pv 4) (pv 7) (fun _ _ => rfl)) (pe_ix ix_both (pv 5) (pv 7) (fun _ _ => rfl)) (nomark _)))) (fun _ _ _ _ _ => (pe_tup (pa_cons (pv 7) (pa_cons (pe_tup (pa_cons (pe_ix ix_both (pv 2) (pv 7) (fun _ _ => rfl)) (pa_cons (pe_ix ix_both (pv 3) (pv 7) (fun _ _ => rfl)) (pa_cons (pe_ix ix_both (pv 4) (pv 7) (fun _ _ => rfl)) (pa_cons (pe_ix ix_both (pv 5) (pv 7) (fun _ _ => rfl)) pa_nil))))) pa_nil)))))))), ?_⟩
  obtain ⟨F, m, v, c, n, δ, d0, f4, rfl, hF, M, hv, hs, q⟩ := h
  obtain ⟨s1, s2, s3, s4⟩ := hs
  have hc := M.wf.c3
  have hn := M.wf.n6
  obtain ⟨b, rfl, hb⟩ := Dp.tN_inv hv
  have hsm : ∀ i s, (q4 f4)[i]? = some s → s < n := fun i s e => by
    have hm := List.mem_of_getElem? e
    simp only [q4, List.mem_cons, List.not_mem_nil, or_false] at hm
    rcases hm with rfl | rfl | rfl | rfl <;> assumption
  refine ⟨.ref b, rfl, b, rfl, ⟨_, same_t hF hb⟩, ?_⟩
  refine lc_do (S := []) (src_t hb) hF (fun a h => by cases h) (by rw [sizeLine_eq]; show 4 ≤ _; omega) (fun i acc F1 _ => DpAll K F1 acc (((q4 f4).take i).map fun s => tN (δ.getD s []))) .nil (fun i y acc F1 H1 hi hy st hp Y N hY hN => ?_) fun D acc F1 H1 st hD mu hlen hp => ?_
  · obtain ⟨s, e, rfl⟩ := vN_at hy
    obtain ⟨vv, hvv, hf⟩ := M.f_steps
    obtain ⟨r, hr1, _⟩ := M.wf.get (hsm i s e)
    refine ⟨rfl, lc_yes ⟨m, rfl, fld_ex T.cls_ T.no_steps (st.ff.trans st.fh) hf ?_⟩⟩
    refine ⟨vN s, rfl, row_at M.wf (hsm i s e) hvv (st.ff.trans st.fh) fun u r h1 hu => hY _ F1 H1 (Stp.refl st.fh) ?_⟩
    rw [take_snoc e, List.map_append]
    refine hp.snoc ?_
    have e1 : δ.getD s [] = r := by rw [List.getD_eq_getElem?_getD, h1] <;> rfl
    show Dp K F1 u (tN (δ.getD s []))
    rw [e1]
    exact hu.up st.ff
  · obtain ⟨fp, fq, fy, fz⟩ := f4
    match acc, hp with
    | [p, q', y, z], .cons dp (.cons dq (.cons dy (.cons dz .nil))) =>
      refine ⟨D, [p, q', y, z], rfl, .inl (.inl mu.at_), rfl, _, _, rfl, _, _, rfl, _, _, rfl, _, _, rfl, rfl, ?_⟩
      refine ⟨m, rfl, fld_ex T.cls_ T.no_commands (st.ff.trans st.fh) M.f_commands ⟨(c : Int), rfl, by omega, by omega, ?_⟩⟩
      rw [Int.toNat_natCast]
      refine lc_do (S := []) (src_r (F := F1)) st.fh (fun a h => by cases h) (by rw [sizeLine_eq]; omega) (fun i acc F2 _ => DpAll K F2 acc ((nextsL δ (fp, fq, fy, fz) i).map nxD)) .nil (fun i x acc F2 H2 hi hx st2 hp2 Y N hY hN => ?_) fun D2 acc F2 H2 st2 hD2 mu2 hlen2 hp2 => ?_
      · have hx' : x = vN i := by rw [hx, Int.zero_add] <;> rfl
        subst hx'
        have cell : ∀ {F3 H3 : Hp} {Q1 : VK} {s : Nat} {u : V}, Stp [] F1 H1 F3 H3 → s < n → Dp K F1 u (tN (δ.getD s [])) → Q1 (vN (dl δ s i)) H3 → rIxB K u (vN i) H3 Q1 := fun st3 hs hu y => cell_get M.wf hs hi hu (st3.ff.trans st3.fh) y
        refine ⟨rfl, y, rfl, vN i, rfl, cell st2 s3 dy ⟨z, rfl, vN i, rfl, cell st2 s4 dz ⟨rfl, _, rfl, ?_⟩⟩⟩
        rw [dec_vN]
        by_cases e : dl δ fy i = dl δ fz i
        · rw [decide_eq_true e]
          refine iteF (hN F2 H2 (Stp.refl st2.fh) ?_)
          rw [nextsL_succ, if_neg (fun w => w e), List.append_nil]
          exact hp2
        · rw [decide_eq_false e]
          refine iteT ⟨vN i, rfl, ?_⟩
          refine ⟨p, rfl, vN i, rfl, cell st2 s1 dp ⟨q', rfl, vN i, rfl, cell st2 s2 dq ⟨y, rfl, vN i, rfl, cell st2 s3 dy ⟨z, rfl, vN i, rfl, cell st2 s4 dz ⟨(show 4 ≤ sizeLine by decide), fun a ha => ⟨(show 2 ≤ sizeLine by decide), fun a2 ha2 => ?_⟩⟩⟩⟩⟩⟩
          have st3 : Stp [] F2 H2 _ _ := Stp.new (o := .tup [vN (dl δ fp i), vN (dl δ fq i), vN (dl δ fy i), vN (dl δ fz i)]) st2.fh ha
          have d1 : Dp K _ (.ref a) (q4D (nx δ (fp, fq, fy, fz) i)) := dp_tup (ds := (q4 (nx δ (fp, fq, fy, fz) i)).map nD) st2.fh ha (all_nats (q4 (nx δ (fp, fq, fy, fz) i)))
          have st4 := st3.tup (xs := [vN i, .ref a]) ha2
          refine hY _ _ _ st4 ?_
          rw [nextsL_succ, if_pos e, List.map_append]
          exact (hp2.up st4.ff).snoc (dp_tup st3.fh ha2 (.cons (.int _) (.cons d1 .nil)))
      · have s2 := (st.trans st2).freeze (st.none_ hD2) mu2
        refine q _ _ _ s2 ?_
        exact .lst (.inl (.inl upd_same)) (hp2.up fun x u z => by
          rw [upd_ne (ne_of_none z mu2.fr)]
          exact z)

end
end K11


set_option Elab.async false
set_option linter.all false
set_option maxRecDepth 100000
set_option maxHeartbeats 4000000
/-! name = {key: value for ..}: as KDictC, the name set within the comprehension. -/
namespace K11
open PySem PySem.Spec PyProof.Rows L2
section
variable {X : Cx}
theorem dc_core {pins : List (Addr × Obj)} {s : Shared} {σ : L2.St} {H : Hp} {Q : VK} {use : Option (Value → Sem Unit)} {Qf : Value → Shared → Prop} {kx vx tg iter : Expr} {scope : Scope} {own : List (Str × Nat)} {pos pos' : Pos} {wi : TI} {g : TG} {tk tv : TE} (hu : X.A.units + 64 < cLine) (hc : X.calm = true) (hN : X.N.Nodup) (I : Inv X pins σ H s) (hi : PI X tg iter wi) (ok : BlkOk X.N X.env.scope scope own)
    (hg : AllBlk X scope fun Y => PG Y tg g) (hk : AllBlk X scope fun Y => PE Y kx tk) (hv : AllBlk X scope fun Y => PE Y vx tv) (hs : ∀ x, foldedSetIterable iter X.env x = pure x)
    (h : tDcM X.K X.w wi g tk tv (own.map (·.2)) σ H Q)
    (hRR : ∀ D C s' m H', Inv X pins σ H' s' → Q (.ref D) H' → s'.heap.Ns C m → FpOk X pins H' C → compPost (model X.prog X.w) X.A X.xe use Qf (.ref D) C (.ok .next) s') :
    wpAny (model X.prog X.w) X.A (comprehension (.DictComp kx vx [⟨tg, iter, [], 0⟩] scope pos) scope X.env pos' newDict false (eval iter X.env) use) Qf X.xe s := by
  have hfree : ∀ y ∈ scope.names, y.2 = .free → ∃ c, X.env.cells.lookup y.1 = some c := fun y hy e => (ok.free y hy e).elim (fun k => I.ok.has _ (.inl k)) fun k => I.ok.has _ (.inr k)
  refine wpAny_comprehension_free (use := use) rfl hs (closure_ok hfree) ok.kind (fun y hy e => by rw [ok.uniq y hy, e]) (thn (hi.run pins s σ H _ I h) fun xv s1 hx => thn hx fun itv s2 h2 => ?_)
  obtain ⟨it, fp, tn, J, H2, e, I2, T, st2, f2, q⟩ := h2
  subst e
  refine wpAny_newObj_type (newEnv_comp ?_)
  generalize hD : s2.heap.objs.size = D
  obtain ⟨W, ⟨m0, w0⟩, turn⟩ := q D (I2.hok.fresh (Nat.le_of_eq hD))
  generalize hs3 : ({ s2 with heap := s2.heap.push { cls := .type "dict", data := .dict #[] } } : Shared) = s3
  have h3 : s3.heap = s2.heap.push { cls := .type "dict", data := .dict #[] } := by rw [← hs3]
  have I3 : Inv X pins σ (upd H2 D (mixO X.w D [])) s3 := by
    rw [← hs3]
    refine I2.laid (t' := s2.toks) (fun b o e => Heap.get?_push_of_some _ e) (Nat.le_of_eq hD) ?_
    rw [← hD]
    exact mixO_ok (ys := []) (Nat.zero_le _) (beq_eq_false_iff_ne.mpr (Ne.symm (Nat.ne_of_lt I2.big))) .nil (Heap.get?_push_size _ rfl) ⟨rfl, rfl, rfl⟩ rfl rfl List.nodup_nil
  have f3 : ∀ b ∈ fp, FpOk X pins (upd H2 D (mixO X.w D [])) b ∧ b < s3.heap.objs.size := fun b hb => by
    obtain ⟨o, e, _⟩ := T.obj _ _ st2 b hb
    have hlt := Heap.lt_size e
    refine ⟨⟨?_, (f2 b hb).2⟩, by rw [h3, Heap.size_push]; exact Nat.lt_succ_of_lt hlt⟩
    rw [upd_ne (by rw [← hD]; exact Nat.ne_of_lt hlt)]
    exact (f2 b hb).1
  have st3 : tn 0 s3.heap := T.keep _ _ _ st2 fun b _ o e => by rw [h3]; exact Heap.get?_push_of_some _ e
  have I4 := block_start I3 ok hN f3
  have pg := hg s3 (upd H2 D (mixO X.w D [])) s3.heap.objs.size (cellsFrom (s3.heap.objs.size + 1) scope.names (cloFrom X.env.cells scope.names [])) fp
  have pk := hk s3 (upd H2 D (mixO X.w D [])) s3.heap.objs.size (cellsFrom (s3.heap.objs.size + 1) scope.names (cloFrom X.env.cells scope.names [])) fp
  have pv := hv s3 (upd H2 D (mixO X.w D [])) s3.heap.objs.size (cellsFrom (s3.heap.objs.size + 1) scope.names (cloFrom X.env.cells scope.names [])) fp
  show codeAny _ _ (.compStart (.DictComp kx vx [⟨tg, iter, [], 0⟩] scope pos) 0 (.ref it) (.ref D) (compEnvC scope (cellsFrom (s3.heap.objs.size + 1) scope.names (cloFrom X.env.cells scope.names [])) s3.heap.objs.size X.env)) (compPost (model X.prog X.w) X.A X.xe use Qf (.ref D) s3.heap.objs.size) { s3 with heap := pushCells (s3.heap.push { cls := .type "dict", data := .dict #[] }) scope.names }
  have nfp : ∀ b ∈ fp, (upd H2 D (mixO X.w D [])) b = none := fun b hb => (f3 b hb).1.1
  generalize hce : compEnvC scope (cellsFrom (s3.heap.objs.size + 1) scope.names (cloFrom X.env.cells scope.names [])) s3.heap.objs.size X.env = ce at I4 pg pk pv ⊢
  have cL : ce.locals = s3.heap.objs.size := by
    subst hce
    rfl
  generalize hH3 : upd H2 D (mixO X.w D []) = H3 at I3 I4 pg pk pv w0 nfp f3
  generalize hs4 : ({ s3 with heap := pushCells (s3.heap.push { cls := .type "dict", data := .dict #[] }) scope.names } : Shared) = s4 at I4 ⊢
  have st4 : tn 0 s4.heap := T.keep _ _ _ st3 fun b _ o e => by
    rw [← hs4]
    exact pushCells_keeps _ _ _ _ (Heap.get?_push_of_some _ e)
  have stat : ∀ {σ' : L2.St} {H' : Hp} {s' : Shared}, Inv (X.blk s3 H3 scope ce fp) [] σ' H' s' → (∀ b ∈ fp, H' b = none) → ∀ b ∈ fp, FpOk (X.blk s3 H3 scope ce fp) [] H' b := fun {σ' H' s'} I' hn b hb =>
    ⟨hn b hb, (I'.ok.exf b hb).1, I'.ok.exfs b hb, .inl hb, fun x c e => (I'.ok.exf b hb).2 x c e, fun p hp => absurd (show p ∈ ([] : List (Addr × Obj)) ++ [] from hp) (by simp)⟩
  have loop : codeAny (model X.prog X.w) X.A (.compLoop (.DictComp kx vx [⟨tg, iter, [], 0⟩] scope pos) 0 (.ref it) (.ref D) ce) (compPost (model X.prog X.w) X.A X.xe use Qf (.ref D) s3.heap.objs.size) s4 := by
    refine compLoop_anyD (fun n s' => ∃ i H', Inv (X.blk s3 H3 scope ce fp) [] (wipe σ (own.map (·.2))) H' s' ∧ tn i s'.heap ∧ (∀ b ∈ fp, H' b = none) ∧ W i n H') ?_ m0 ⟨0, H3, I4, st4, nfp, w0⟩
    rintro n s5 ⟨i, H5, I5, st5, n5, w5⟩
    rcases turn i n H5 w5 with ⟨stop, qq⟩ | ⟨go, Nx, hNx, step⟩
    · refine thnF (T.done (X.blk s3 H3 scope ce fp) rfl rfl rfl hc i [] s5 _ H5 (fun _ _ => False) I5 (stat I5 n5) st5 stop) fun r s6 ⟨hr, I6⟩ => ?_
      subst hr
      have I7 : Inv X pins σ H5 s6 := I3.call' (ch := fp) I6.os I6.base I6.hok I6.bare fun b hb => ⟨(f3 b hb).1.2.2.2.1, (f3 b hb).1.2.1, (f3 b hb).1.2.2.2.2.1, (f3 b hb).1.2.2.2.2.2⟩
      have nC : H5 s3.heap.objs.size = none := by
        have z : H5 ce.locals = none := I6.free
        rw [cL] at z
        exact z
      obtain ⟨m, hn, _⟩ := I6.loc
      have hn : s6.heap.Ns ce.locals m := hn
      rw [cL] at hn
      exact hRR D s3.heap.objs.size s6 m H5 I7 qq hn (I3.fpOk (Nat.le_refl _) nC)
    · refine thnF (T.item (X.blk s3 H3 scope ce fp) rfl rfl rfl hc i [] s5 _ H5 (fun _ _ => False) I5 (stat I5 n5) st5 go) fun r s6 ⟨u, hr, h6⟩ => ?_
      subst hr
      refine thnF h6 fun _ s7 ⟨x, H7, I7, r7, y7, st7, n7⟩ => ?_
      have I7' := I7.pinned (stat I7 n7) (T.obj _ _ st7)
      refine thnF (pg.run _ s7 _ H7 x u _ I7' r7 (step x H7 y7)) fun _ s8 ⟨σ8, H8, I8, hw8, q8⟩ => ?_
      have fin : ∀ {s' : Shared} {H' : Hp}, Inv (X.blk s3 H3 scope ce fp) ([] ++ pinsAt fp s7.heap) σ8 H' s' → Nx H' → ∃ m, m < n ∧ ∃ i H', Inv (X.blk s3 H3 scope ce fp) [] (wipe σ (own.map (·.2))) H' s' ∧ tn i s'.heap ∧ (∀ b ∈ fp, H' b = none) ∧ W i m H' := fun {s' H'} I' nx => by
        obtain ⟨m', hm, w'⟩ := hNx H' nx
        have pin' : ∀ b ∈ fp, ∀ o, s7.heap.get? b = some o → s'.heap.get? b = some o ∧ H' b = none := fun b hb o e =>
          let z := I'.pin (b, o) (List.mem_append_right _ (List.mem_append_right _ (mem_pinsAt hb e)))
          ⟨z.1, z.2.1⟩
        have hl : (wipe σ (own.map (·.2))).length = σ8.length := by rw [← hw8, wipe_length]
        refine ⟨m', hm, i + 1, H', (I'.unpinned (pins := [])).weak hl (fun j v e => ?_), T.keep _ _ _ st7 fun b hb o e => (pin' b hb o e).1, fun b hb => ?_, w'⟩
        · rw [← hw8] at e
          exact (wipe_some e).1
        · obtain ⟨o, e, _⟩ := T.obj _ _ st7 b hb
          exact (pin' b hb o e).2
      refine wpAny_pure ?_
      rw [if_pos rfl]
      refine thnF (pk.run _ s8 σ8 H8 _ I8 q8) fun z s10 ⟨yk, H10, I10, r10, q10⟩ => ?_
      refine thnF (pv.run _ s10 σ8 H10 _ I10 q10) fun z2 s11 ⟨yv, H11, I11, r11, mp⟩ => ?_
      exact mix_dictSet (X := X.blk s3 H3 scope ce fp) hu I11 mp r10 r11 fun s12 H12 I12 nx => fin I12 nx
  exact codeAny_compStart_dict loop (T.self X.A 0 _ _ _ st4 loop)
theorem ps_setDcM {i : Nat} {y : Str} {py : Pos} {kx vx tg iter : Expr} {scope : Scope} {own : List (Str × Nat)} {pos spos : Pos} {wi : TI} {g : TG} {tk tv : TE} (hu : X.A.units + 64 < cLine) (hc : X.calm = true) (hN : X.N.Nodup) (hy : X.N[i]? = some y) (hyl : X.env.scope.names.lookup y = some .local)
    (hsw : swapsWith (.DictComp kx vx [⟨tg, iter, [], 0⟩] scope pos) (some (.Name y py)) spos.line X.env = pure true) (hi : PI X tg iter wi) (ok : BlkOk X.N X.env.scope scope own)
    (hg : AllBlk X scope fun Y => PG Y tg g) (hk : AllBlk X scope fun Y => PE Y kx tk) (hv : AllBlk X scope fun Y => PE Y vx tv) (hs : ∀ x, foldedSetIterable iter X.env x = pure x := by intro _; rfl) :
    PS X (.Assign [.Name y py] (.DictComp kx vx [⟨tg, iter, [], 0⟩] scope pos) spos) (tAsg (tDcM X.K X.w wi g tk tv (own.map (·.2))) (gName i)) := by
  refine ⟨fun pins s σ H D I h => ?_⟩
  rw [exec_Assign_Name_used _ _ _ _ hsw]
  refine wpAny_bind (wpAny_standAt (wpAny_bind ?_))
  show wpAny _ X.A (do let _ ← comprehension (.DictComp kx vx [⟨tg, iter, [], 0⟩] scope pos) scope X.env (firstIterPos [⟨tg, iter, [], 0⟩] pos) newDict false (eval iter X.env) (some (assign (.Name y py) X.env))) _ _ s
  have h : tDcM X.K X.w wi g tk tv (own.map (·.2)) σ H (fun x H1 => gName i x σ H1 D.nx) := h
  refine wpAny_bind (thn (dc_core (Qf := fun _ s' => SP X pins D .next s') hu hc hN I hi ok hg hk hv hs h fun L C s' m H' I' q hn f => ?_) fun _ s' hq => wpAny_pure (wpAny_pure hq))
  show wpAny _ _ (assign (.Name y py) X.env (.ref L)) _ _ _
  refine wpAny_assign_Name (store_ok2 (v := V.ref L) I' hN hy (.inl hyl) rfl (fun s2 I2 ⟨a, sb, ha⟩ => ?_) (.inr hyl))
  obtain ⟨f0, f1, f2, f3, f4, f5⟩ := f
  have haC : C ≠ a := by
    rcases ha with z | z
    · rw [z]; exact f1
    · exact fun e => f4 y a z e.symm
  refine ⟨m, hn.sameBut sb haC, fun h3 sb3 => ?_⟩
  exact ⟨_, H', I2.turned (t' := s2.toks) (fun b o hb e => (sb3.2 b hb).trans e) f0 f1 f3 f4 f5, q⟩
theorem sw_trueD {kx vx : Expr} {gs : List Comprehension} {scope : Scope} {pos py : Pos} {y : Str} {l : Nat} {env : Env} (hk : env.scope.kind = .function) (hy : env.scope.names.lookup y = some .local) (hl : (py.line == pos.line) = true)
    (ha : (scope.names.any fun (n, k) => n == y && (k == .local || k == .cell)) = false) : swapsWith (.DictComp kx vx gs scope pos) (some (.Name y py)) l env = pure true := by
  have ky : env.kindOf y = some .local := hy
  have hb : env.blockKind = .function := by unfold Env.blockKind; rw [hk]; rfl
  unfold swapsWith
  simp only [hb, ky, ha, Expr.pos, hl]
  rfl
end
end K11

set_option Elab.async false
set_option linter.all false
set_option maxRecDepth 100000
set_option maxHeartbeats 4000000
/-! explored. -/
namespace K11
open PySem PySem.Spec PyProof.Rows L2
def spExpl (K : PySem.W.Frag) : Sp := fun vs H Q _ => ∃ (F : Hp) (m v : V) (c n : Nat) (δ : List (List Nat)) (d0 : Addr) (ch : List Nat), vs = [m, v] ∧ Same F H ∧ Mach K F m c n δ d0 ∧ Dp K F v (tN ch) ∧ ch.length = n ∧ (∀ t ∈ ch, t < n) ∧ Back [] F H Q fun r F' _ => ∃ (p : Addr) (a b : V), r = .ref p ∧ SqT K F' p [a, b] ∧ (a = .non ↔ NoFault δ c ch)
/-! ### the dict of what was met -/
theorem nkey_q4 {f g : Q4} (h : nkey (q4D f) = nkey (q4D g)) : f = g := by
  have h' : NestedKey.tup (nkeys ((q4 f).map nD)) = NestedKey.tup (nkeys ((q4 g).map nD)) := h
  injection h' with h'
  exact q4_inj (nkeys_nat h')
structure MetO (K : PySem.W.Frag) (w : World) (F H : Hp) (d : Addr) (M : List Q4) : Prop where
  ex : ∃ xs : List MixV, Mu F H d (mixO w d xs) ∧ xs.map (·.1) = M.map q4D ∧ ∀ e ∈ xs, Dp K F e.2.1 e.1
section
variable {K : PySem.W.Frag} {w : World} {F H F1 H1 : Hp} {d : Addr} {M : List Q4} {S : List Addr}
theorem MetO.step (m : MetO K w F H d M) (s : Stp S F H F1 H1) (h : d ∉ S) : MetO K w F1 H1 d M := by
  obtain ⟨xs, mu, e, al⟩ := m.ex
  exact ⟨xs, s.mu mu h, e, fun x hx => (al x hx).up s.ff⟩
theorem MetO.step0 (m : MetO K w F H d M) (s : Stp [] F H F1 H1) : MetO K w F1 H1 d M := m.step s fun z => by cases z
theorem met_key {xs : List MixV} (e : xs.map (·.1) = M.map q4D) {x : MixV} (hx : x ∈ xs) : ∃ f ∈ M, x.1 = q4D f := by
  have h : x.1 ∈ xs.map (·.1) := List.mem_map.mpr ⟨x, hx, rfl⟩
  rw [e] at h
  obtain ⟨f, hf, hq⟩ := List.mem_map.mp h
  exact ⟨f, hf, hq.symm⟩
theorem met_none {xs : List MixV} (e : xs.map (·.1) = M.map q4D) (f : Q4) : (mixV xs (nkey (q4D f))).isSome = decide (f ∈ M) := by
  cases hv : mixV xs (nkey (q4D f)) with
  | none =>
    have hn := mixV_not hv
    symm
    refine decide_eq_false fun hf => ?_
    have h : q4D f ∈ M.map q4D := List.mem_map.mpr ⟨f, hf, rfl⟩
    rw [← e] at h
    obtain ⟨x, hx, hq⟩ := List.mem_map.mp h
    exact hn x hx (by rw [hq])
  | some v =>
    symm
    refine decide_eq_true ?_
    obtain ⟨x, hx, hk, _⟩ := mixV_mem hv
    obtain ⟨g, hg, hq⟩ := met_key e hx
    rw [hq] at hk
    rw [← nkey_q4 hk]
    exact hg
theorem met_at {xs : List MixV} (mu : Mu F H d (mixO w d xs)) (hF : Same F H) (e : xs.map (·.1) = M.map q4D) (al : ∀ x ∈ xs, Dp K F x.2.1 x.1) : MixAt K w H d xs := ⟨mu.at_, fun x hx => by
  obtain ⟨f, _, hq⟩ := met_key e hx
  refine ⟨?_, (al x hx).up hF⟩
  rw [hq]
  exact mixD_tN _⟩
/-- a key more -/
theorem MetO.put {xs : List MixV} {f : Q4} {x z : V} (mu : Mu F H d (mixO w d xs)) (e : xs.map (·.1) = M.map q4D) (al : ∀ x ∈ xs, Dp K F x.2.1 x.1) (hx : Dp K F x (q4D f)) : MetO K w F (upd H d (mixO w d (xs ++ [(q4D f, x, z)]))) d (M ++ [f]) := by
  refine ⟨_, mu.wrote, by rw [List.map_append, List.map_append, e] <;> rfl, fun y hy => ?_⟩
  rcases List.mem_append.mp hy with h | h
  · exact al y h
  · rw [List.mem_singleton] at h
    rw [h]
    exact hx
end
abbrev FI := Q4 × List Nat × List Nat
def itD (e : FI) : PyData := .tuple [q4D e.1, tN e.2.1, tN e.2.2]
def it0 (f : Q4) : FI := (f, [f.1, f.2.1], [])
theorem dp_cons {K : PySem.W.Frag} {F : Hp} {xs : List V} {d : PyData} {ds : List PyData} (h : DpAll K F xs (d :: ds)) : ∃ x ys, xs = x :: ys ∧ Dp K F x d ∧ DpAll K F ys ds := by
  cases h with
  | cons a b => exact ⟨_, _, rfl, a, b⟩
theorem dp_nil {K : PySem.W.Frag} {F : Hp} {xs : List V} (h : DpAll K F xs []) : xs = [] := by
  cases h
  rfl
theorem it_inv {K : PySem.W.Frag} {F : Hp} {x : V} {e : FI} (h : Dp K F x (itD e)) : ∃ a y1 y2 y3, x = .ref a ∧ SqT K F a [y1, y2, y3] ∧ Dp K F y1 (q4D e.1) ∧ Dp K F y2 (tN e.2.1) ∧ Dp K F y3 (tN e.2.2) := by
  obtain ⟨a, xs, rfl, hs, hall⟩ := h.tup_inv
  obtain ⟨y1, r1, rfl, h1, hall⟩ := dp_cons hall
  obtain ⟨y2, r2, rfl, h2, hall⟩ := dp_cons hall
  obtain ⟨y3, r3, rfl, h3, hall⟩ := dp_cons hall
  obtain rfl := dp_nil hall
  exact ⟨a, y1, y2, y3, rfl, hs, h1, h2, h3⟩
theorem nx_inv {K : PySem.W.Frag} {F : Hp} {x : V} {e : Nat × Q4} (h : Dp K F x (nxD e)) : ∃ a y2, x = .ref a ∧ SqT K F a [vN e.1, y2] ∧ Dp K F y2 (q4D e.2) := by
  obtain ⟨a, xs, rfl, hs, hall⟩ := h.tup_inv
  obtain ⟨y1, r1, rfl, h1, hall⟩ := dp_cons hall
  obtain ⟨y2, r2, rfl, h2, hall⟩ := dp_cons hall
  obtain rfl := dp_nil hall
  have e1 : y1 = vN e.1 := h1.int_inv
  rw [e1] at hs
  exact ⟨a, y2, rfl, hs, h2⟩
theorem two_le : 2 ≤ sizeLine := by decide
theorem three_le : 3 ≤ sizeLine := by decide
theorem cut2 {xs : List V} (h : xs.length = 4) : ¬ (HT.sIx xs.length 0 none = 0 ∧ HT.sIx xs.length xs.length (some 2) = xs.length) := fun z => by
  have h2 := z.2
  rw [h] at h2
  have h3 := HT.sIx_nat 4 4 2
  rw [show (some (2 : Int)) = some ((2 : Nat) : Int) from rfl, h3] at h2
  exact absurd h2 (by decide)
theorem cut2_eq {a b c d : V} : cutV [a, b, c, d] none (some 2) = [a, b] := by
  unfold cutV
  rw [show (some (2 : Int)) = some ((2 : Nat) : Int) from rfl, HT.sIx_nat, HT.sIx_none] <;> rfl
theorem notin_take {α : Type} {L : List α} {i : Nat} {f : α} (hn : L.Nodup) (e : L[i]? = some f) : f ∉ L.take i := fun z => by
  have h := hn.sublist (List.take_sublist (i + 1) L)
  rw [take_snoc e, List.nodup_append] at h
  exact h.2.2 f z f List.mem_cons_self rfl
theorem met_len {xs : List MixV} {M : List Q4} (e : xs.map (·.1) = M.map q4D) : xs.length = M.length := by
  have h := congrArg List.length e
  rw [List.length_map, List.length_map] at h
  exact h
/-- how the search stands between two rounds -/
structure Ex (K : PySem.W.Frag) (w : World) (F H : Hp) (c n : Nat) (δ : List (List Nat)) (ch : List Nat) (d : Addr) (F' H' : Hp) (a : Addr) (fl : List FI) (M : List Q4) : Prop where
  st : Stp [] F H F' H'
  fr : Dp K F' (.ref a) (.list (fl.map itD))
  me : MetO K w F' H' d M
  bf : Bfs δ c n ch (fun f => ∃ e ∈ fl, e.1 = f) M
  al : ∀ e ∈ fl, e.1 ∈ M ∧ e.2.1.length ≤ 2 ∧ e.2.2.length ≤ M.length
  ln : fl.length ≤ M.length
/-- .. within a round: fl from i on are to do, ll are found -/
structure Ex2 (K : PySem.W.Frag) (w : World) (F H : Hp) (c n : Nat) (δ : List (List Nat)) (ch : List Nat) (d : Addr) (l : Addr) (F0 F' H' : Hp) (T : Q4 → Prop) (ll : List FI) (Mz M : List Q4) : Prop where
  st : Stp [] F H F' H'
  sm : Same F0 F'
  nw : ∃ xs, Mu F' H' l (.lst xs) ∧ DpAll K F' xs (ll.map itD)
  me : MetO K w F' H' d M
  bf : Bfs δ c n ch (fun f => T f ∨ ∃ e ∈ ll, e.1 = f) M
  al : ∀ e ∈ ll, e.1 ∈ M ∧ e.2.1.length ≤ 2 ∧ e.2.2.length ≤ M.length
  ln : M.length = Mz.length + ll.length
  sub : ∀ f ∈ Mz, f ∈ M
theorem Ex2.weak {K : PySem.W.Frag} {w : World} {F H : Hp} {c n : Nat} {δ : List (List Nat)} {ch : List Nat} {d l : Addr} {F0 F' H' : Hp} {T U : Q4 → Prop} {ll : List FI} {Mz M : List Q4} (e : Ex2 K w F H c n δ ch d l F0 F' H' T ll Mz M) (h : ∀ f, T f → U f) : Ex2 K w F H c n δ ch d l F0 F' H' U ll Mz M :=
  ⟨e.st, e.sm, e.nw, e.me, e.bf.weak fun f _ z => z.imp (h f) id, e.al, e.ln, e.sub⟩
theorem Ex2.step {K : PySem.W.Frag} {w : World} {F H : Hp} {c n : Nat} {δ : List (List Nat)} {ch : List Nat} {d l : Addr} {F0 F' H' F1 H1 : Hp} {T : Q4 → Prop} {ll : List FI} {Mz M : List Q4} (e : Ex2 K w F H c n δ ch d l F0 F' H' T ll Mz M) (s : Stp [] F' H' F1 H1) : Ex2 K w F H c n δ ch d l F0 F1 H1 T ll Mz M := by
  obtain ⟨xs, mu, al⟩ := e.nw
  exact ⟨e.st.trans s, e.sm.trans s.ff, ⟨xs, s.mu0 mu, al.up s.ff⟩, e.me.step0 s, e.bf, e.al, e.ln, e.sub⟩
theorem MetO.off {K : PySem.W.Frag} {w : World} {F H : Hp} {d l : Addr} {M : List Q4} {o : HO} (m : MetO K w F H d M) (h : d ≠ l) : MetO K w F (upd H l o) d M := by
  obtain ⟨xs, mu, ex, al⟩ := m.ex
  exact ⟨xs, mu.off h, ex, al⟩
theorem MetO.frz {K : PySem.W.Frag} {w : World} {F H : Hp} {d l : Addr} {M : List Q4} {o : HO} (m : MetO K w F H d M) (e : Same F (upd F l o)) (h : d ≠ l) : MetO K w (upd F l o) H d M := by
  obtain ⟨xs, mu, ex, al⟩ := m.ex
  exact ⟨xs, ⟨mu.at_, by rw [upd_ne h]; exact mu.fr⟩, ex, fun x hx => (al x hx).up e⟩
section
variable {P : Program} {w : World} {K : PySem.W.Frag} {mg : Str → Option Value} {base : Heap}
theorem set_mixw {X : Cx} {K0 : PySem.W.Frag} {w0 : World} (hu : X.A.units + 64 < cLine) (hK : X.K = K0 := by rfl) (hw : X.w = w0 := by rfl) : PSet X (rSetM K0 w0) := by
  subst hK hw
  exact set_mix hu
theorem op_notInMw {X : Cx} {K0 : PySem.W.Frag} {w0 : World} (hu : X.A.units + 64 < cLine) (hK : X.K = K0 := by rfl) (hw : X.w = w0 := by rfl) : OpR X (compareOp .NotIn) (rNotInM K0 w0) := by
  subst hK hw
  exact op_notInM hu
theorem sc_explored : FnScope ["machine", "change", "fresh", "four", "met", "pair", "row", "later", "command", "after"] ["machine", "change"] (defScope s_explored) := ⟨rfl, rfl, rfl, by decide +kernel, rfl, by decide +kernel, by decide +kernel⟩
theorem bn_explored : BindN d_explored ["machine", "change"] := fun _ _ _ _ _ _ us hl => match us, hl with | [_, _], _ => rfl
theorem ok_explored (T : Top P w K mg base) : Cal P w K mg base d_explored "explored" 2 ["machine", "change"] (spExpl K) := by
  refine T.cal 16 13 rfl rfl rfl rfl rfl sc_explored bn_explored (fun vs H Q E h => ?_) fun f cdv A outer s H vs Q E hr h => ?_
  · obtain ⟨_, _, _, _, _, _, _, _, rfl, _⟩ := h
    rfl
  have nd := (sc_explored).nd
  refine ⟨_, (pss_cons (ps_setLc (i := 2) (by rfl) nd rfl rfl (sw_true rfl rfl rfl (by decide +kernel)) (own := [("four", 3)]) (g := (gName 3)) (tt := tYes) (te := (tTup (tCons (tVar 3) (tCons (tSl (rSlA K) (tVar 3) tNoPart (tPart (tC (.int 2)))) (tCons (tTup tNil) tNil))))) (pi_list (pe_cal (ok_starts T) hr (by decide) (by rfl) (pa_cons (pv 0) (pa_cons (pv 1) pa_nil)))) (blkOk_by (by kernel_rfl)) (fun _ _ _ _ _ => (pg_name (i := 3) nd rfl (.inl rfl))) (fun _ _ _ _ _ => pts_nil) (fun _ _ _ _ _ => (pe_tup (pa_cons (pv 3) (pa_cons (pe_slice sl_tupA (pv 3) po_none (po_some pe_int)) (pa_cons (pe_tup pa_nil) pa_nil))))))
    (pss_cons (ps_setDcM (i := 4) (own := [("four", 3), ("pair", 5), ("row", 6)]) (g := (gTup K 3 (gCons (gName 3) (gCons (gName 5) (gCons (gName 6) gNil))))) (tk := (tVar 3)) (tv := (tC (.bl true))) hr.units (by rfl) nd rfl rfl (sw_trueD rfl rfl rfl (by decide +kernel)) (pi_list (pv 2)) (blkOk_by (by kernel_rfl)) (fun _ _ _ _ _ => (pg_tup rfl (pgs_cons (pg_name (i := 3) nd rfl (.inl rfl)) (pgs_cons (pg_name (i := 5) nd rfl (.inl rfl)) (pgs_cons (pg_name (i := 6) nd rfl (.inl rfl)) pgs_nil))))) (fun _ _ _ _ _ => (pv 3)) (fun _ _ _ _ _ => pe_bl))
    (pss_cons (ps_while (passes_of rfl) (pt_cmpR op_gt (pe_callB cl_len (by rfl) T.n_len bt_len (pa_cons (pv 2) pa_nil)) pe_int (nomark _))
      (pss_cons (ps_set (i := 7) nd rfl (.inl rfl) (pe_lst pa_nil))
    (pss_cons (ps_for (passes_of rfl) rfl (pi_list (pv 2)) (pg_tup rfl (pgs_cons (pg_name (i := 3) nd rfl (.inl rfl)) (pgs_cons (pg_name (i := 5) nd rfl (.inl rfl)) (pgs_cons (pg_name (i := 6) nd rfl (.inl rfl)) pgs_nil))))
      (pss_one (ps_for (passes_of rfl) rfl (pi_list (pe_cal (ok_nexts T) hr (by decide) (by rfl) (pa_cons (pv 0) (pa_cons (pv 3) pa_nil)))) (pg_tup rfl (pgs_cons (pg_name (i := 8) nd rfl (.inl rfl)) (pgs_cons (pg_name (i := 9) nd rfl (.inl rfl)) pgs_nil)))
      (pss_cons (ps_if (pt_cmpR op_eq (pe_ix ix_both (pv 9) pe_int (fun _ _ => rfl)) (pe_ix ix_both (pv 9) pe_int (fun _ _ => rfl)) (nomark _))
      (pss_one (ps_ret (pe_tup (pa_cons (pe_tup (StX.pa_star (pv 5) (pa_cons (pe_tup (StX.pa_star (pv 6) (pa_cons (pv 8) pa_nil))) pa_nil))) (pa_cons (pe_tup pa_nil) pa_nil)))))
      pss_nil)
    (pss_one (ps_if (pt_cmpR (op_notInMw (K0 := K) (w0 := w) hr.units) (pv 9) (pv 4) (by with_unfolding_all rfl))
      (pss_cons (ps_asg pe_bl (pg_sub (pv 4) (pv 9) (set_mixw (K0 := K) (w0 := w) hr.units)))
    (pss_one (ps_expr (pe_bm PySem.F.plainAttrs_list PySem.F.slot_list_append PySem.F.type_list_append mt_append (pv 7) (pa_cons (pe_tup (pa_cons (pv 9) (pa_cons (pv 5) (pa_cons (pe_tup (StX.pa_star (pv 6) (pa_cons (pv 8) pa_nil))) pa_nil)))) pa_nil)))))
      pss_nil))))))
    (pss_one (ps_set (i := 2) nd rfl (.inl rfl) (pv 7))))))
    (pss_one (ps_ret (pe_tup (pa_cons pe_non (pa_cons (pe_callTy cl_tup (by rfl) T.n_tuple bt_tuple (pa_cons (pe_callB (call_sortD rfl) (by rfl) T.n_sorted bt_sorted (pa_cons (pv 4) pa_nil)) pa_nil)) pa_nil)))))))), ?_⟩
  obtain ⟨F, m, v, c, n, δ, d0, ch, rfl, hF, M, hv, hl, hlt, q⟩ := h
  have hn := M.wf.n6
  have hc := M.wf.c3
  have W := M.wf
  have MM := M
  have hch : ∀ s, s < n → ch.getD s 0 < n := fun s hs => hlt _ (List.mem_of_getElem? (getD_some (by rw [hl]; exact hs)))
  refine ⟨m, rfl, v, rfl, F, m, v, c, n, δ, d0, ch, rfl, hF, M, hv, hl, fun r F1 H1 st hr => ?_⟩
  obtain ⟨L, hL, hr⟩ := hr
  obtain ⟨b, xs, rfl, hb, hall⟩ := hr.lst_inv
  have hLl : L.length ≤ 36 := by
    rw [hL.length_eq]
    have := len_startsL ch n hn
    omega
  have hxl : xs.length = L.length := by rw [hall.len, List.length_map]
  refine ⟨b, rfl, ⟨_, same_l st.fh hb⟩, ?_⟩
  refine lc_do (S := []) (src_l hb) st.fh (fun a h => by cases h) (by rw [sizeLine_eq]; omega) (fun i acc F2 _ => DpAll K F2 acc ((L.take i).map fun f => itD (it0 f))) .nil (fun i y acc F2 H2 hi hy st2 hp Y N hY hN => ?_) fun D acc F2 H2 st2 hD mu hlen hp => ?_
  · have hi' : i < L.length := by omega
    have e1 : L[i]? = some L[i] := List.getElem?_eq_getElem hi'
    have hd : Dp K F1 y (q4D L[i]) := hall.at hy (by rw [List.getElem?_map, e1] <;> rfl)
    obtain ⟨a, rfl, ha⟩ := hd.tN_inv
    refine ⟨rfl, lc_yes ⟨.ref a, rfl, .ref a, rfl, 2, rfl, a, _, rfl, same_t (st2.ff.trans st2.fh) ha, fun z => absurd z (cut2 rfl), fun _ p1 h1 => ?_⟩⟩
    rw [show cutV ((q4 L[i]).map vN) none (some 2) = [vN L[i].1, vN L[i].2.1] from cut2_eq]
    refine ⟨(show 0 ≤ sizeLine from Nat.zero_le _), fun p2 h2 => ⟨three_le, fun p3 h3 => ?_⟩⟩
    have s1 : Stp [] F2 H2 _ _ := Stp.new (o := .tup [vN L[i].1, vN L[i].2.1]) st2.fh h1
    have s2 := s1.tup (xs := []) h2
    have d1 : Dp K _ (.ref p1) (tN [L[i].1, L[i].2.1]) := dp_tup st2.fh h1 (all_nats [L[i].1, L[i].2.1])
    have d2 : Dp K _ (.ref p2) (tN []) := dp_tup s1.fh h2 .nil
    have s3 := s2.tup (xs := [.ref a, .ref p1, .ref p2]) h3
    refine hY _ _ _ s3 ?_
    rw [take_snoc e1, List.map_append]
    exact (hp.up s3.ff).snoc (dp_tup s2.fh h3 (.cons ((hd.up st2.ff).up s2.ff) (.cons (d1.up (same_new s1.fh h2)) (.cons d2 .nil))))
  · have s0 := st.trans st2
    have hp' : DpAll K F2 acc ((L.map it0).map itD) := by
      rw [hxl, List.take_of_length_le (Nat.le_refl _)] at hp
      rw [List.map_map]
      exact hp
    obtain ⟨s1, e1, hd1⟩ := frz_l s0 (st.none_ hD) mu hp'
    generalize upd F2 D (.lst acc) = F3 at s1 e1 hd1
    obtain ⟨D', acc', eD, hD3, hall3⟩ := hd1.lst_inv
    cases eD
    have hal : acc'.length = L.length := by rw [hall3.len, List.length_map, List.length_map]
    refine ⟨.ref D, rfl, D, rfl, ⟨_, same_l s1.fh hD3⟩, fun d hd => ?_⟩
    have src := src_l hD3
    refine ⟨fun i k H' => k = L.length - i ∧ i ≤ L.length ∧ ∃ F', Stp [] F3 H2 F' H' ∧ MetO K w F' H' d (L.take i), ⟨_, rfl, Nat.zero_le _, F3, Stp.newM s1.fh hd, [], Mu.new s1.fh hd, rfl, fun e he => (by cases he)⟩, ?_⟩
    rintro i k H3 ⟨rfl, hi, F4, st4, me⟩
    by_cases hlt2 : i < L.length
    · refine .inr ⟨src.go i H3 (st4.ff.trans st4.fh) (by omega), fun H' => ∃ k, k < L.length - i ∧ k = L.length - (i + 1) ∧ i + 1 ≤ L.length ∧ ∃ F', Stp [] F3 H2 F' H' ∧ MetO K w F' H' d (L.take (i + 1)), fun H' h => h, fun x H4 hy => ?_⟩
      obtain ⟨rfl, hx⟩ := src.yld i H3 x H4 (st4.ff.trans st4.fh) hy
      have ei : L[i]? = some L[i] := List.getElem?_eq_getElem hlt2
      obtain ⟨p, y1, y2, y3, rfl, hps, d1, d2, d3⟩ := it_inv (hall3.at hx (show ((L.map it0).map itD)[i]? = some (itD (it0 L[i])) by rw [List.getElem?_map, List.getElem?_map, ei] <;> rfl))
      obtain ⟨xs, mu4, ex, alx⟩ := me.ex
      have hnone : mixV xs (nkey (q4D L[i])) = none := by
        have z := met_none ex L[i]
        rw [decide_eq_false (notin_take (hL.nodup_iff.mpr (nodup_startsL ch n)) ei)] at z
        cases hv : mixV xs (nkey (q4D L[i])) with
        | none => rfl
        | some v =>
          rw [hv] at z
          cases z
      refine ⟨p, _, rfl, same_t (st4.ff.trans st4.fh) hps, rfl, _, _, rfl, _, _, rfl, _, _, rfl, rfl, rfl, y1, rfl, ?_⟩
      refine ⟨xs, q4D L[i], met_at mu4 st4.fh ex alx, mixD_tN _, (d1.up st4.ff).up st4.fh, hnone, ?_, ?_⟩
      · rw [met_len ex, List.length_take, sizeLine_eq]
        omega
      · refine ⟨_, ?_, rfl, hlt2, F4, st4.write (.inl hd) mu4, ?_⟩
        · omega
        · rw [take_snoc ei]
          exact MetO.put mu4 ex alx (d1.up st4.ff)
    · have ei : i = L.length := by omega
      subst ei
      refine .inl ⟨src.stop _ H3 (st4.ff.trans st4.fh) (by omega), ?_⟩
      rw [List.take_of_length_le (Nat.le_refl _)] at me
      have X0 : Ex K w F H c n δ ch d F4 H3 D (L.map it0) L := ⟨s1.trans st4, hd1.up st4.ff, me, (Bfs.init hL).weak fun f hf _ => ⟨it0 f, List.mem_map.mpr ⟨f, hf, rfl⟩, rfl⟩, fun e he => by
        obtain ⟨f, hf, rfl⟩ := List.mem_map.mp he
        exact ⟨hf, Nat.le_refl 2, Nat.zero_le _⟩, by rw [List.length_map]; exact Nat.le_refl _⟩
      have hdH : H d = none := s1.none_ hd
      clear me hi hlt2 st4 src
      refine ⟨fun k σ H' => ∃ F' a fl M y3 y5 y6 y7 y8 y9, σ = [some m, some v, some (.ref a), y3, some (.ref d), y5, y6, y7, y8, y9] ∧ Ex K w F H c n δ ch d F' H' a fl M ∧ k = 2 * (1296 - M.length) + (if fl = [] then 0 else 1), ⟨_, F4, D, _, L, none, none, none, none, none, none, rfl, X0, rfl⟩, ?_⟩
      rintro k σ H5 ⟨F5, a, fl, M, y3, y5, y6, y7, y8, y9, rfl, X, rfl⟩
      have hMl : M.length ≤ 1296 := X.bf.few W hch
      obtain ⟨a', xs, eA, hA, hallA⟩ := X.fr.lst_inv
      cases eA
      have hxs : xs.length = fl.length := by rw [hallA.len, List.length_map]
      refine ⟨.ref a, rfl, a, xs, rfl, .inl (same_l X.st.fh hA), _, _, rfl, rfl, _, rfl, ?_⟩
      by_cases hfl : fl = []
      · have hz : decide ((0 : Int) < (xs.length : Nat)) = false := decide_eq_false (by rw [hxs, hfl]; show ¬ (0 : Int) < 0; omega)
        rw [hz]
        refine iteF ?_
        obtain ⟨xs2, mu5, ex, alx⟩ := X.me.ex
        have clean : NoFault δ c ch := (X.bf.weak (U := fun _ => False) fun f _ z => by
          obtain ⟨e, he, _⟩ := z
          rw [hfl] at he
          cases he).clean W.len
        refine ⟨.ref d, rfl, d, xs2, rfl, met_at mu5 X.st.fh ex alx, fun e he => ?_, fun ys p hperm hpn => ⟨p, ys, rfl, .inl ⟨.inl (.inl upd_same), fun p2 hp2 => ⟨two_le, fun p3 hp3 => ?_⟩⟩⟩⟩
        · obtain ⟨f4, _, e2⟩ := met_key ex he
          have z := alx e he
          rw [e2] at z
          exact int_q4 z X.st.fh
        · have s5 := ((X.st.lst (xs := ys) hpn).tup (xs := ys) hp2).tup (xs := [.non, .ref p2]) hp3
          exact q _ _ _ s5 ⟨p3, .non, .ref p2, rfl, .inl (.inl upd_same), fun _ => clean, fun _ => rfl⟩
      · have hz : decide ((0 : Int) < (xs.length : Nat)) = true := decide_eq_true (by
          have : 0 < fl.length := List.length_pos_iff.mpr hfl
          rw [hxs]
          omega)
        rw [hz]
        refine iteT ⟨_, fun σ' H' h => h, ?_⟩
        refine ⟨Nat.zero_le _, fun l hln => ?_⟩
        have hlH : H l = none := X.st.none_ hln
        obtain ⟨xsd, mud, _⟩ := X.me.ex
        have hdl : d ≠ l := mud.ne hln
        have sl := Stp.newM (S := []) (o := .lst []) X.st.fh hln
        refine ⟨.ref a, rfl, a, rfl, ⟨_, same_l sl.fh hA⟩, ?_⟩
        refine for_do (src_l hA) (fun i σ H' => ∃ F' ll M' y3 y5 y6 y8 y9, σ = [some m, some v, some (.ref a), y3, some (.ref d), y5, y6, some (.ref l), y8, y9] ∧ Ex2 K w F H c n δ ch d l F5 F' H' (fun f => ∃ e ∈ fl.drop i, e.1 = f) ll M M') (fun i σ H' h => ?_) ?_ (fun i x σ H6 hi hx hp => ?_) fun σ H6 hp => ?_
        · obtain ⟨F', ll, M', y3, y5, y6, y8, y9, _, E2⟩ := h
          exact E2.sm.trans E2.st.fh
        · refine ⟨F5, [], M, y3, y5, y6, y8, y9, rfl, X.st.trans sl, Same.refl F5, ⟨[], Mu.new X.st.fh hln, .nil⟩, X.me.step0 sl, X.bf.weak fun f _ z => .inl z, fun e he => (by cases he), rfl, fun f hf => hf⟩
        · obtain ⟨F6, ll, M6, z3, z5, z6, z8, z9, rfl, E⟩ := hp
          have hif : i < fl.length := by omega
          have ei : fl[i]? = some fl[i] := List.getElem?_eq_getElem hif
          obtain ⟨p, y1, y2, y3', rfl, hps, d1, d2, d3⟩ := it_inv (hallA.at hx (by rw [List.getElem?_map, ei] <;> rfl))
          have heM := (X.al _ (List.mem_of_getElem? ei)).1
          have he2 := (X.al _ (List.mem_of_getElem? ei)).2.1
          have he3 := (X.al _ (List.mem_of_getElem? ei)).2.2
          have hdrop : fl.drop i = fl[i] :: fl.drop (i + 1) := List.drop_eq_getElem_cons hif
          generalize fl[i] = e at ei d1 d2 d3 heM he2 he3 hdrop
          obtain ⟨pa, rfl, hpa⟩ := d2.tN_inv
          obtain ⟨ro, rfl, hro⟩ := d3.tN_inv
          refine ⟨p, _, rfl, same_t (E.sm.trans E.st.fh) hps, rfl, _, _, rfl, _, _, rfl, _, _, rfl, rfl, ?_⟩
          refine ⟨m, rfl, y1, rfl, F6, m, y1, c, n, δ, d0, e.1, rfl, E.st.fh, MM.up E.st.ff, d1.up E.sm, (X.bf.rch e.1 heM).small W hch, fun r F7 H7 st7 hr => ?_⟩
          obtain ⟨b2, xs2, rfl, hb2, hall2⟩ := hr.lst_inv
          have hx2l : xs2.length = (nextsL δ e.1 c).length := by rw [hall2.len, List.length_map]
          refine ⟨b2, rfl, ⟨_, same_l st7.fh hb2⟩, ?_⟩
          refine for_do (src_l hb2) (fun j σ H' => ∃ F' ll M' y8 y9, σ = [some m, some v, some (.ref a), some y1, some (.ref d), some (.ref pa), some (.ref ro), some (.ref l), y8, y9] ∧ Ex2 K w F H c n δ ch d l F5 F' H' (fun f => (∃ e ∈ fl.drop (i + 1), e.1 = f) ∨ f = e.1) ll M M' ∧ Same F7 F' ∧ ∀ k e', k < j → (nextsL δ e.1 c)[k]? = some e' → e'.2 ∈ M') (fun j σ H' h => ?_) ?_ (fun j x σ H8 hj hx hp => ?_) fun σ H8 hp => ?_
          · obtain ⟨F', ll, M', y8, y9, _, E2, sm, _⟩ := h
            exact sm.trans E2.st.fh
          · refine ⟨F7, ll, M6, z8, z9, rfl, (E.step st7).weak fun f z => ?_, Same.refl F7, fun k e' hk => by omega⟩
            obtain ⟨e0, h0, h1⟩ := z
            rw [hdrop] at h0
            cases h0 with
            | head => exact .inr h1.symm
            | tail _ h0 => exact .inl ⟨e0, h0, h1⟩
          · obtain ⟨F8, ll, M8, z8, z9, rfl, E, sm, hdone⟩ := hp
            have hjl : j < (nextsL δ e.1 c).length := by omega
            have ej : (nextsL δ e.1 c)[j]? = some (nextsL δ e.1 c)[j] := List.getElem?_eq_getElem hjl
            obtain ⟨p2, z2, rfl, hp2, dz⟩ := nx_inv (hall2.at hx (by rw [List.getElem?_map, ej] <;> rfl))
            obtain ⟨xx, hxx, hok, exx⟩ := mem_nextsL.mp (List.mem_of_getElem? ej)
            generalize (nextsL δ e.1 c)[j] = e' at ej hp2 dz exx
            subst exx
            have hF8 := E.st.fh
            have dz8 := dz.up sm
            have heM8 : e.1 ∈ M8 := E.sub _ heM
            have hM8 : M8.length ≤ 1296 := E.bf.few W hch
            have hro8 := same_t (E.sm.trans hF8) hro
            have hpa8 := same_t (E.sm.trans hF8) hpa
            refine ⟨p2, _, rfl, same_t (sm.trans hF8) hp2, rfl, _, _, rfl, _, _, rfl, rfl, ?_⟩
            refine ⟨z2, rfl, ix_tN (i := 0) (ns := q4 (nx δ e.1 xx)) dz8 hF8 rfl ⟨z2, rfl, ix_tN (i := 1) (ns := q4 (nx δ e.1 xx)) dz8 hF8 rfl ⟨rfl, _, rfl, ?_⟩⟩⟩
            rw [dec_vN]
            by_cases heq : (nx δ e.1 xx).1 = (nx δ e.1 xx).2.1
            · rw [decide_eq_true heq]
              refine iteT ?_
              have nf := E.bf.fault W.len heM8 hxx hok heq
              refine ⟨.ref pa, rfl, pa, _, rfl, .inl hpa8, .ref ro, rfl, ro, _, rfl, .inl hro8, vN xx, rfl, ?_, fun t1 h1 => ⟨?_, fun t2 h2 => ⟨Nat.zero_le _, fun t3 h3 => ⟨two_le, fun t4 h4 => ?_⟩⟩⟩⟩
              · rw [List.length_append, List.length_map, sizeLine_eq]
                show e.2.2.length + 1 ≤ _
                omega
              · rw [List.length_append, List.length_map, sizeLine_eq]
                show e.2.1.length + 1 ≤ _
                omega
              · exact q _ _ _ ((((E.st.tup h1).tup h2).tup h3).tup h4) ⟨t4, .ref t2, .ref t3, rfl, .inl (.inl upd_same), fun z => (by cases z), fun z => absurd z nf⟩
            · rw [decide_eq_false heq]
              refine iteF ?_
              obtain ⟨xs8, mu8, ex8, al8⟩ := E.me.ex
              refine ⟨z2, rfl, .ref d, rfl, d, xs8, q4D (nx δ e.1 xx), rfl, met_at mu8 hF8 ex8 al8, mixD_tN _, dz8.up hF8, _, rfl, ?_⟩
              rw [met_none ex8]
              by_cases hin : nx δ e.1 xx ∈ M8
              · rw [decide_eq_true hin]
                refine iteF ?_
                refine ⟨F8, ll, M8, _, _, rfl, E, sm, fun k e' hk hk2 => ?_⟩
                by_cases hkj : k = j
                · subst hkj
                  rw [ej] at hk2
                  cases hk2
                  exact hin
                · exact hdone k e' (by omega) hk2
              · rw [decide_eq_false hin]
                refine iteT ?_
                obtain ⟨xsl, mul, hall8⟩ := E.nw
                have hnone : mixV xs8 (nkey (q4D (nx δ e.1 xx))) = none := by
                  have z := met_none ex8 (nx δ e.1 xx)
                  rw [decide_eq_false hin] at z
                  cases hv : mixV xs8 (nkey (q4D (nx δ e.1 xx))) with
                  | none => rfl
                  | some v =>
                    rw [hv] at z
                    cases z
                refine ⟨.ref d, rfl, z2, rfl, d, xs8, q4D (nx δ e.1 xx), rfl, met_at mu8 hF8 ex8 al8, mixD_tN _, dz8.up hF8, hnone, ?_, ?_⟩
                · rw [met_len ex8, sizeLine_eq]
                  omega
                have me9 := MetO.put (z := .bl true) mu8 ex8 al8 dz8
                have st9 := E.st.write (u := mixO w d (xs8 ++ [(q4D (nx δ e.1 xx), z2, .bl true)])) (.inl hdH) mu8
                have mul9 := mul.off (u := mixO w d (xs8 ++ [(q4D (nx δ e.1 xx), z2, .bl true)])) (Ne.symm hdl)
                generalize upd H8 d (mixO w d (xs8 ++ [(q4D (nx δ e.1 xx), z2, .bl true)])) = H9 at me9 st9 mul9 ⊢
                clear mu8 al8 ex8 hnone
                refine ⟨.ref l, rfl, .inl ⟨rfl, _, .inl (.inl mul9.at_)⟩, z2, rfl, .ref pa, rfl, .ref ro, rfl, ro, _, rfl, .inl (same_t (E.sm.trans st9.fh) hro), vN xx, rfl, ?_, fun t1 h1 => ⟨three_le, fun t2 h2 => ?_⟩⟩
                · rw [List.length_append, List.length_map, sizeLine_eq]
                  show e.2.2.length + 1 ≤ _
                  omega
                have sa := Stp.new (S := []) (o := .tup (e.2.2.map vN ++ [vN xx])) st9.fh h1
                have dr : Dp K _ (.ref t1) (tN (e.2.2 ++ [xx])) := dp_tup (xs := e.2.2.map vN ++ [vN xx]) (ds := (e.2.2 ++ [xx]).map nD) st9.fh h1 (by
                  have z := all_nats (K := K) (F := F8) (e.2.2 ++ [xx])
                  rw [List.map_append (f := vN)] at z
                  exact z)
                have sb := sa.tup (xs := [z2, .ref pa, .ref t1]) h2
                have di : Dp K _ (.ref t2) (itD (nx δ e.1 xx, e.2.1, e.2.2 ++ [xx])) := dp_tup (xs := [z2, .ref pa, .ref t1]) (ds := [q4D (nx δ e.1 xx), tN e.2.1, tN (e.2.2 ++ [xx])]) sa.fh h2 (.cons (dz8.up sa.ff) (.cons (((Dp.of_tN hpa).up E.sm).up sa.ff) (.cons dr .nil)))
                have mulb := sb.mu0 mul9
                have hxl8 : xsl.length = ll.length := by rw [hall8.len, List.length_map]
                have hln8 := E.ln
                refine ⟨l, xsl, _, rfl, rfl, mulb.at_, ?_, ?_⟩
                · rw [sizeLine_eq]
                  omega
                refine ⟨_, ll ++ [(nx δ e.1 xx, e.2.1, e.2.2 ++ [xx])], M8 ++ [nx δ e.1 xx], _, _, rfl, ⟨(st9.trans sb).write (.inl hlH) mulb, E.sm.trans sb.ff, ⟨_, mulb.wrote, ?_⟩, ?_, ?_, ?_, ?_, fun f hf => List.mem_append_left _ (E.sub f hf)⟩, sm.trans sb.ff, fun k e' hk hk2 => ?_⟩
                · rw [List.map_append]
                  exact (hall8.up sb.ff).snoc di
                · exact (me9.step0 sb).off hdl
                · refine (E.bf.add heM8 hxx hok hin heq).weak fun f _ z => ?_
                  rcases z with (z | ⟨e0, h0, h1⟩) | z
                  · exact .inl z
                  · exact .inr ⟨e0, List.mem_append_left _ h0, h1⟩
                  · exact .inr ⟨_, List.mem_append_right _ List.mem_cons_self, z.symm⟩
                · intro e0 h0
                  rw [List.length_append]
                  show e0.1 ∈ M8 ++ [nx δ e.1 xx] ∧ e0.2.1.length ≤ 2 ∧ e0.2.2.length ≤ M8.length + 1
                  rcases List.mem_append.mp h0 with z | z
                  · obtain ⟨a1, a2, a3⟩ := E.al e0 z
                    exact ⟨List.mem_append_left _ a1, a2, by omega⟩
                  · rw [List.mem_singleton] at z
                    rw [z]
                    refine ⟨List.mem_append_right _ List.mem_cons_self, he2, ?_⟩
                    show (e.2.2 ++ [xx]).length ≤ _
                    rw [List.length_append]
                    show e.2.2.length + 1 ≤ _
                    omega
                · rw [List.length_append, List.length_append]
                  show M8.length + 1 = M.length + (ll.length + 1)
                  omega
                · by_cases hkj : k = j
                  · subst hkj
                    rw [ej] at hk2
                    cases hk2
                    exact List.mem_append_right _ List.mem_cons_self
                  · exact List.mem_append_left _ (hdone k e' (by omega) hk2)
          · obtain ⟨F8, ll, M8, z8, z9, rfl, E, sm, hdone⟩ := hp
            refine ⟨F8, ll, M8, _, _, _, _, _, rfl, E.st, E.sm, E.nw, E.me, ?_, E.al, E.ln, E.sub⟩
            refine (E.bf.weak (U := fun g => ((∃ e ∈ fl.drop (i + 1), e.1 = g) ∨ ∃ e ∈ ll, e.1 = g) ∨ g = e.1) fun f _ z => ?_).done fun x hx hok => ?_
            · rcases z with (z | z) | z
              · exact .inl (.inl z)
              · exact .inr z
              · exact .inl (.inr z)
            · obtain ⟨k, hk, ek⟩ := List.mem_iff_getElem.mp (mem_nextsL.mpr ⟨x, hx, hok, rfl⟩)
              exact hdone k (x, nx δ e.1 x) (by omega) (by rw [← ek]; exact List.getElem?_eq_getElem hk)
        · obtain ⟨F6, ll, M6, z3, z5, z6, z8, z9, rfl, E⟩ := hp
          obtain ⟨xsl, mul, hall6⟩ := E.nw
          obtain ⟨s6, e6, d6⟩ := frz_l E.st hlH mul hall6
          have hM6 : M6.length ≤ 1296 := E.bf.few W hch
          have hln6 := E.ln
          refine ⟨.ref l, rfl, _, ?_, _, l, ll, M6, _, _, _, _, _, _, rfl, ⟨s6, d6, E.me.frz e6 hdl, E.bf.weak fun f _ z => ?_, E.al, by omega⟩, rfl⟩
          · rw [if_neg hfl]
            by_cases hll : ll = []
            · rw [if_pos hll]
              omega
            · rw [if_neg hll]
              have : 0 < ll.length := List.length_pos_iff.mpr hll
              omega
          · rcases z with ⟨e0, h0, _⟩ | z
            · rw [List.drop_eq_nil_of_le (by omega)] at h0
              cases h0
            · exact z

end
end K11


set_option Elab.async false
set_option linter.all false
set_option maxRecDepth 100000
set_option maxHeartbeats 4000000
/-! seen, fault, late_commands, is_blind, refuse_blind. -/
namespace K11
open PySem PySem.Spec PyProof.Rows L2
theorem codeO_mix {w : World} {c : Addr} {q : Str} {xs : List MixV} : LamX.CodeO c q ≠ mixO w c xs := fun z => by
  unfold LamX.CodeO mixO at z
  injection z with z
  let o : Obj := { cls := .none, data := .fields #[.none, .str q default] }
  let h : Heap := { objs := Array.replicate (c + 1) o }
  have hg : h.get? c = some o := by
    unfold Heap.get?
    show (match (Array.replicate (c + 1) o)[c]? with
      | some ⟨_, _, .freed, _⟩ => none
      | o => o) = some o
    rw [Array.getElem?_replicate, if_pos (Nat.lt_succ_self c)]
  have z2 := congrFun z h
  have a1 : ∃ (oc : Obj) (vs : Array Value) (t : Tok), h.get? c = some oc ∧ oc.data = .fields vs ∧ vs[1]? = some (.str q t) := ⟨o, #[.none, .str q default], default, hg, rfl, rfl⟩
  rw [z2] at a1
  obtain ⟨_, _, ys, o2, es, ep, _, h1, _, h2, _⟩ := a1
  rw [hg] at h1
  cases h1
  cases h2
/-- the lambda's name -/
def lamQ : Str := "seen.<locals>.<lambda>"
/-- the table of seen's code -/
def tabA (K : PySem.W.Frag) : Addr := (He.cT K ("seen", none)).2
structure Tb (K : PySem.W.Frag) (F H : Hp) : Prop where
  tab : LamX.TabS H (tabA K) lamQ
  fr : F (tabA K) = none
section
variable {K : PySem.W.Frag} {w : World} {S : List Addr} {F H F1 H1 : Hp} {c n : Nat} {δ : List (List Nat)} {d l : Addr}
theorem Tb.stp (t : Tb K F H) (s : Stp S F H F1 H1) (h : tabA K ∉ S) (hc : ∀ a ∈ S, ∀ q, H a ≠ some (LamX.CodeO a q)) : Tb K F1 H1 := by
  obtain ⟨⟨ps, h1, h2, h3⟩, h4⟩ := t
  refine ⟨⟨ps, s.hh _ _ h1 h, h2, fun pos cv e => ?_⟩, s.nw _ _ h1 h4⟩
  obtain ⟨c, e1, e2⟩ := h3 pos cv e
  exact ⟨c, e1, s.hh _ _ e2 fun z => hc c z _ e2⟩
theorem Tb.step0 (t : Tb K F H) (s : Stp [] F H F1 H1) : Tb K F1 H1 := t.stp s (fun z => by cases z) fun a z => by cases z
theorem Tb.there (t : Tb K F H) : H (tabA K) ≠ none := by
  obtain ⟨⟨ps, h1, _⟩, _⟩ := t
  rw [h1]
  simp
theorem Fnd.ne_tab (f : Fnd K w F H c δ d) (t : Tb K F H) : tabA K ≠ d := fun e => by
  obtain ⟨xs, mu, _⟩ := f.ex
  obtain ⟨⟨ps, h1, _⟩, _⟩ := t
  rw [e, mu.at_] at h1
  cases h1
theorem Fnd.not_code (f : Fnd K w F H c δ d) (q : Str) : H d ≠ some (LamX.CodeO d q) := fun e => by
  obtain ⟨xs, mu, _⟩ := f.ex
  rw [mu.at_] at e
  exact codeO_mix (Option.some.inj e).symm
theorem Tb.stepD (t : Tb K F H) (f : Fnd K w F H c δ d) (s : Stp [d] F H F1 H1) : Tb K F1 H1 := t.stp s (fun z => f.ne_tab t (List.mem_singleton.mp z)) fun a z q => by
  rw [List.mem_singleton.mp z]
  exact f.not_code q
theorem made_stp {f c' : Addr} (M : Made (tabA K) lamQ H H1 f c') (e : Same F H) (t : Tb K F H) : Stp [tabA K] F H F H1 := by
  refine ⟨Same.refl F, fun a o h => M.old a o (e a o h) fun z => ?_, fun a o h n => M.old a o h fun z => n (by rw [z]; exact List.mem_cons_self), fun _ _ _ n => n, M.th⟩
  rw [z, t.fr] at h
  cases h
/-- the machine's state -/
structure Sta (K : PySem.W.Frag) (w : World) (F H : Hp) (c : Nat) (δ : List (List Nat)) (d : Addr) : Prop where
  f : Fnd K w F H c δ d
  t : Tb K F H
theorem Sta.step0 (t : Sta K w F H c δ d) (s : Stp [] F H F1 H1) : Sta K w F1 H1 c δ d := ⟨t.f.step0 s, t.t.step0 s⟩
theorem Sta.there (t : Sta K w F H c δ d) : ∀ a ∈ [d, tabA K], H a ≠ none := fun a h => by
  cases h with
  | head => exact t.f.there
  | tail _ h =>
    rw [List.mem_singleton.mp h]
    exact t.t.there
theorem Fnd.lstU {o : List V} (f : Fnd K w F H c δ d) {D : Addr} (h : H D = none ∨ ∃ a, H D = some (.lst a)) : Fnd K w F (upd H D (.lst o)) c δ d := by
  obtain ⟨xs, mu, k⟩ := f.ex
  refine ⟨xs, mu.off fun e => ?_, k⟩
  rcases h with h | ⟨a, h⟩
  · rw [← e, mu.at_] at h
    cases h
  · rw [← e, mu.at_] at h
    cases h
theorem Tb.lstU {o : List V} (t : Tb K F H) {D : Addr} (h : H D = none ∨ ∃ a, H D = some (.lst a)) : Tb K F (upd H D (.lst o)) := by
  obtain ⟨⟨ps, h1, h2, h3⟩, h4⟩ := t
  refine ⟨⟨ps, ?_, h2, fun pos cv e => ?_⟩, h4⟩
  · rw [upd_ne fun e => ?_]
    · exact h1
    · rcases h with h | ⟨a, h⟩
      · rw [← e, h1] at h
        cases h
      · rw [← e, h1] at h
        cases h
  · obtain ⟨c, e1, e2⟩ := h3 pos cv e
    refine ⟨c, e1, ?_⟩
    rw [upd_ne fun e => ?_]
    · exact e2
    · rcases h with h | ⟨a, h⟩
      · rw [← e, e2] at h
        cases h
      · rw [← e, e2] at h
        cases h
theorem Sta.lstU {o : List V} (t : Sta K w F H c δ d) {D : Addr} (h : H D = none ∨ ∃ a, H D = some (.lst a)) : Sta K w F (upd H D (.lst o)) c δ d := ⟨t.f.lstU h, t.t.lstU h⟩
/-- a comprehension, the heap itself seen: what is said of it stands a list's writing -/
theorem lc_doH {J : It} {n : Nat} {item : Nat → V → Prop} {g : TG} {tt : TT} {te : TE} {vs : List Nat} {σ : L2.St} {Qd : Addr → Hp → Prop} (src : Src F J n item) (hF : Same F H) (hS : ∀ a ∈ S, H a ≠ none) (hn : n ≤ sizeLine) (P : Nat → List V → Hp → Hp → Prop)
    (hP : ∀ i acc F H D u, (H D = none ∨ ∃ a, H D = some (.lst a)) → F D = none → P i acc F H → P i acc F (upd H D (.lst u))) (h0 : P 0 [] F H)
    (hs : ∀ i x acc F1 H1, i < n → item i x → Stp S F H F1 H1 → P i acc F1 H1 → ∀ (Y : VK) (N : Hp → Prop), (∀ y F4 H4, Stp S F1 H1 F4 H4 → P (i + 1) (acc ++ [y]) F4 H4 → Y y H4) → (∀ F4 H4, Stp S F1 H1 F4 H4 → P (i + 1) acc F4 H4 → N H4) →
      g x (wipe σ vs) H1 fun σ2 H2 => wipe σ2 vs = wipe σ vs ∧ tt σ2 H2 fun b H3 => if b = true then te σ2 H3 Y else N H3)
    (hd : ∀ D acc F1 H1, Stp S F H F1 H1 → H D = none → Mu F1 H1 D (.lst acc) → acc.length ≤ n → P n acc F1 H1 → Qd D H1) :
    ∀ D, H D = none → ∃ W : Nat → Nat → Hp → Prop, (∃ m, W 0 m (upd H D (.lst []))) ∧ ∀ i m H, W i m H →
      (J.stop i H ∧ Qd D H) ∨ (J.go i H ∧ ∃ Nx : Hp → Prop, (∀ H', Nx H' → ∃ m', m' < m ∧ W (i + 1) m' H') ∧ ∀ x H', J.yld i H x H' → g x (wipe σ vs) H' fun σ2 H2 => wipe σ2 vs = wipe σ vs ∧ tt σ2 H2 fun b H3 =>
        if b = true then te σ2 H3 fun y H4 => ∃ acc, H4 D = some (.lst acc) ∧ acc.length < sizeLine ∧ Nx (upd H4 D (.lst (acc ++ [y]))) else Nx H3) := by
  intro D hD
  have hDS : D ∉ S := fun z => hS D z hD
  refine ⟨fun i m H' => m = n - i ∧ i ≤ n ∧ ∃ acc F', Stp S F H F' H' ∧ Mu F' H' D (.lst acc) ∧ acc.length ≤ i ∧ P i acc F' H', ⟨n, by simp, Nat.zero_le _, [], F, Stp.newM hF hD, Mu.new hF hD, Nat.le_refl _, hP _ _ _ _ _ _ (.inl hD) (fr_none hF hD) h0⟩, ?_⟩
  rintro i m H' ⟨rfl, hi, acc, F', st, mu, hl, p⟩
  by_cases hlt : i < n
  · refine .inr ⟨src.go i H' (st.ff.trans st.fh) hlt, fun H'' => i + 1 ≤ n ∧ ∃ acc F', Stp S F H F' H'' ∧ Mu F' H'' D (.lst acc) ∧ acc.length ≤ i + 1 ∧ P (i + 1) acc F' H'', fun H'' ⟨a, b⟩ => ⟨n - (i + 1), by omega, rfl, a, b⟩, fun x H1 hy => ?_⟩
    obtain ⟨rfl, hx⟩ := src.yld i H' x H1 (st.ff.trans st.fh) hy
    refine hs i x acc F' H1 hlt hx st p _ _ (fun y F4 H4 st4 p4 => ?_) fun F4 H4 st4 p4 => ⟨hlt, acc, F4, st.trans st4, st4.mu mu hDS, by omega, p4⟩
    have mu4 := st4.mu mu hDS
    refine ⟨acc, mu4.at_, by omega, hlt, acc ++ [y], F4, (st.trans st4).write (.inl hD) mu4, mu4.wrote, by rw [List.length_append]; show acc.length + 1 ≤ i + 1; omega, ?_⟩
    exact hP _ _ _ _ _ _ (.inr ⟨acc, mu4.at_⟩) mu4.fr p4
  · have e : i = n := by omega
    subst e
    exact .inl ⟨src.stop i H' (st.ff.trans st.fh) (Nat.le_refl _), hd D acc F' H' st hD mu hl p⟩
end
section
variable {P : Program} {w : World} {K : PySem.W.Frag} {mg : Str → Option Value} {base : Heap}
/-- .. where the def's code object is known -/
theorem Top.calS (T : Top P w K mg base) {d : He.DefD} {x : Str} {N ps : List Str} {k : Nat} {sp : Sp} (i j : Nat) (hi : fn[i]? = some d) (hj : fa[j]? = some (.glo x)) (hat : d.at_ = (x, none)) (h1 : d.dfl = []) (h2 : d.kwd = []) (S : FnScope N ps d.scope) (hb : BindN d ps)
    (len : ∀ vs H Q E, sp vs H Q E → vs.length = ps.length)
    (body : ∀ (f : Addr) (A : Around) (outer : List Env) (s : Shared) (H : Hp) (vs : List V) (Q : VK) (E : XK), Room k (A.deeper (envOfC d.qual d.scope s.heap.objs.size f (.ref (He.codeOf K (x, none))))) → sp vs H Q E →
      ∃ t, PSs (cxOf (L2.CX P w) P w K mg base N d.qual d.scope f (.ref (He.codeOf K (x, none))) A outer s H E) d.body t ∧ t { nx := fun _ H' => Q .non H', rt := Q } (L2.start N vs) H) : Cal P w K mg base d x (k + 1) ps sp := by
  refine ⟨?_, T.glo_ j hj⟩
  obtain ⟨_, _, _, c⟩ := T.h0
  obtain ⟨fd, F⟩ := c.x.t.d.def_ i hi
  have e1 : d.dvs K = [] := by
    unfold He.DefD.dvs
    rw [h1] <;> rfl
  have e2 : d.kws K = [] := by
    unfold He.DefD.kws
    rw [h2] <;> rfl
  have e3 : He.fAd K d.at_ = He.ga K x := by
    rw [hat] <;> rfl
  rw [e1, e2, e3] at F
  refine ⟨fd, F, ?_, F.bindsN hb⟩
  obtain ⟨oc, od, dV, kV, doc, pm, an, cdv, ct, osl, rfl, lk, hcd, _, _⟩ := F.ex
  obtain ⟨c0, rfl⟩ := He.codeIn_ref hcd
  have hc : He.codeOf K (x, none) = c0 := He.codeOf_eq (p := (x, none)) lk rfl
  subst hc
  exact fn_of lk hcd S len fun A outer s H vs Q E hr hsp => body _ A outer s H vs Q E hr hsp
def spSeen (K : PySem.W.Frag) (w : World) : Sp := fun vs H Q _ => ∃ (F : Hp) (m v : V) (c n : Nat) (δ : List (List Nat)) (d : Addr) (x : Nat), vs = [m, v] ∧ Same F H ∧ Mach K F m c n δ d ∧ Sta K w F H c δ d ∧ x < c ∧ Dp K F v (tN (doesM δ x)) ∧ Back [d, tabA K] F H Q fun r F' H' => (∃ (p : Addr) (a b : V), r = .ref p ∧ SqT K F' p [a, b] ∧ (a = .non ↔ NoFault δ c (doesM δ x))) ∧ Sta K w F' H' c δ d
def spFault (K : PySem.W.Frag) (w : World) : Sp := fun vs H Q _ => ∃ (F : Hp) (m v : V) (c n : Nat) (δ : List (List Nat)) (d : Addr) (x : Nat), vs = [m, v] ∧ Same F H ∧ Mach K F m c n δ d ∧ Sta K w F H c δ d ∧ x < c ∧ Dp K F v (tN (doesM δ x)) ∧ Back [d, tabA K] F H Q fun r F' H' => (r = .non ↔ NoFault δ c (doesM δ x)) ∧ Sta K w F' H' c δ d
def spLate (K : PySem.W.Frag) (w : World) : Sp := fun vs H Q _ => ∃ (F : Hp) (m : V) (c n : Nat) (δ : List (List Nat)) (d : Addr), vs = [m] ∧ Same F H ∧ Mach K F m c n δ d ∧ Sta K w F H c δ d ∧ Back [d, tabA K] F H Q fun r F' H' => (∃ (p : Addr) (xs : List V), r = .ref p ∧ SqT K F' p xs ∧ (xs.length < c ↔ BlindM δ c)) ∧ Sta K w F' H' c δ d
def spBlind (K : PySem.W.Frag) (w : World) : Sp := fun vs H Q _ => ∃ (F : Hp) (m : V) (c n : Nat) (δ : List (List Nat)) (d : Addr), vs = [m] ∧ Same F H ∧ Mach K F m c n δ d ∧ Sta K w F H c δ d ∧ Back [d, tabA K] F H Q fun r F' H' => (∃ b, r = .bl b ∧ (b = true ↔ BlindM δ c)) ∧ Sta K w F' H' c δ d
/-- what an error leaves, the machine's state with it -/
def ErrS (K : PySem.W.Frag) (w : World) (c : Nat) (δ : List (List Nat)) (d : Addr) (F H : Hp) (E : XK) (x : Str) (v : V) : Prop := ∀ dx F' H', Stp [d, tabA K] F H F' H' → F' dx = some (.xd [("at", v)]) → Sta K w F' H' c δ d → E (.ref (He.ga K x)) (some dx) H'
def spRefuse (K : PySem.W.Frag) (w : World) : Sp := fun vs H Q E => ∃ (F : Hp) (m : V) (c n : Nat) (δ : List (List Nat)) (d : Addr), vs = [m] ∧ Same F H ∧ Mach K F m c n δ d ∧ Sta K w F H c δ d ∧ (¬ BlindM δ c → Back [d, tabA K] F H Q fun _ F' H' => Sta K w F' H' c δ d) ∧ (BlindM δ c → ErrS K w c δ d F H E "Blind" (vN 0))
theorem doesM_len {c n : Nat} {δ : List (List Nat)} (W : WF c n δ) (x : Nat) : (doesM δ x).length = n := by rw [does_len, W.len]
theorem doesM_lt {c n x : Nat} {δ : List (List Nat)} (W : WF c n δ) (hx : x < c) : ∀ t ∈ doesM δ x, t < n := fun t ht => by
  obtain ⟨i, hi, e⟩ := List.mem_iff_getElem.mp ht
  have hi' : i < n := by rw [doesM_len W] at hi; exact hi
  obtain ⟨_, _, _, h⟩ := W.dl_at hi' hx
  have z := does_at (δ := δ) x (s := i) (by rw [W.len]; exact hi')
  rw [List.getElem?_eq_getElem hi, e] at z
  rw [Option.some.inj z]
  exact h
theorem mono_d {F H F1 H1 : Hp} {d P0 : Addr} (s : Stp [d] F H F1 H1) : Stp [d, P0] F H F1 H1 := s.mono fun x h => by
  rw [List.mem_singleton.mp h]
  exact List.mem_cons_self
theorem mono_p {F H F1 H1 : Hp} {d P0 : Addr} (s : Stp [P0] F H F1 H1) : Stp [d, P0] F H F1 H1 := s.mono fun x h => by
  rw [List.mem_singleton.mp h]
  exact List.mem_cons_of_mem _ List.mem_cons_self
theorem chKey_inj {u v : List Nat} (h : chKey u = chKey v) : u = v := by
  have h' : NestedKey.tup [.text "change", .tup (nkeys (u.map nD))] = NestedKey.tup [.text "change", .tup (nkeys (v.map nD))] := congrArg nkey h
  injection h' with h'
  obtain ⟨_, h'⟩ := List.cons.inj h'
  obtain ⟨h', _⟩ := List.cons.inj h'
  injection h' with h'
  exact nkeys_nat h'
theorem hfree_by {a sc : Scope} (h : (a.names.all fun y => !decide (y.2 = .free) || decide (sc.names.lookup y.1 = some .cell)) = true) : ∀ y ∈ a.names, y.2 = .free → sc.names.lookup y.1 = some .cell ∨ sc.names.lookup y.1 = some .free := fun y hy e => by
  have z := List.all_eq_true.mp h y hy
  rw [decide_eq_true e] at z
  exact .inl (of_decide_eq_true z)
theorem sc_seen : FnScope ["machine", "change", "some"] ["machine", "change"] (defScope s_seen) := ⟨rfl, rfl, rfl, by decide +kernel, rfl, by decide +kernel, by decide +kernel⟩
theorem bn_seen : BindN d_seen ["machine", "change"] := fun _ _ _ _ _ _ us hl => match us, hl with | [_, _], _ => rfl
theorem ok_seen (T : Top P w K mg base) : Cal P w K mg base d_seen "seen" 10 ["machine", "change"] (spSeen K w) := by
  have hF0 : ∃ (oc : Value) (od : Option Addr) (dV kV doc pm : Value) (an : Option Addr) (cdv ct : Value) (osl : Array (Option Value)), K.lookup (He.ma K (He.ga K "Machine") "found") = some ⟨oc, od, .func (PySem.W.fnOf d_Machine_found.name d_Machine_found.qual d_Machine_found.params d_Machine_found.body d_Machine_found.scope dV kV doc pm an cdv ct), osl⟩ ∧ PySem.W.codeIn K cdv d_Machine_found.qual = true ∧
      L2.Binds K (PySem.W.fnOf d_Machine_found.name d_Machine_found.qual d_Machine_found.params d_Machine_found.body d_Machine_found.scope dV kV doc pm an cdv ct) ["self", "word", "work"] [] := by
    obtain ⟨_, _, _, c⟩ := T.h0
    obtain ⟨fd, F⟩ := c.x.t.d.def_ (d := d_Machine_found) 7 rfl
    have hb := F.bindsN bn_Machine_found
    obtain ⟨oc, od, dV, kV, doc, pm, an, cdv, ct, osl, rfl, lk, hcd, _, _⟩ := F.ex
    exact ⟨oc, od, dV, kV, doc, pm, an, cdv, ct, osl, lk, hcd, hb⟩
  obtain ⟨oc, od, dV, kV, doc, pm, an, cdvF, ct, osl, lkF, hcF, hbF⟩ := hF0
  refine T.calS 17 14 rfl rfl rfl rfl rfl sc_seen bn_seen (fun vs H Q E h => ?_) fun f A outer s H vs Q E hr h => ?_
  · obtain ⟨_, _, _, _, _, _, _, _, rfl, _⟩ := h
    rfl
  have nd := (sc_seen).nd
  refine ⟨_, ((pss_cons (ps_set (i := 2) nd rfl (.inr rfl) (pe_cal (ok_checked_change T) hr (by decide) (by rfl) (pa_cons (pv 0) (pa_cons (pv 1) pa_nil))))
    (pss_one (ps_ret (pe_give (N := ["one", "some"]) (fr := ["some"]) (js := [2]) (k := 4) (kf := 5) (p := "one") (q := lamQ) (pv 0) T.cls_ T.me_found (pe_tup (pa_cons pe_str (pa_cons (pv 2) pa_nil))) lkF hcF sc_Machine_found hbF T.tab rfl rfl rfl (hfree_by (sc := d_seen.scope) (by decide +kernel)) (by decide +kernel) rfl (NdefX.nscope_by (by decide +kernel)) (hr.mono (by decide)) (fun _ _ _ _ _ _ => rfl) (by decide) (fun A outer s H f c1 hr2 => pe_cal (ok_explored T) hr2 (by decide) (by rfl) (pa_cons (pv 0) (pa_cons (pv 1) pa_nil))) (fun A outer s H f sp1 hr2 W => pss_found hr2 W)))))), ?_⟩
  obtain ⟨F, m, v, c, n, δ, d, x, rfl, hF, M, N, hx, hv, q⟩ := h
  refine ⟨m, rfl, v, rfl, F, m, v, c, n, δ, d, doesM δ x, rfl, hF, M, hv, doesM_len M.wf x, doesM_lt M.wf hx, fun r F1 H1 st1 hr => ?_⟩
  subst hr
  obtain ⟨a, dx, fs, rfl, ha, hl⟩ := M.o_found
  refine ⟨.ref a, rfl, a, dx, fs, rfl, st1.fh _ _ (st1.ff _ _ ha), hl, r, rfl, two_le, fun p hp => ⟨?_, fun g c' H3 Md => ?_⟩⟩
  · exact ((N.t.step0 st1).step0 (Stp.new (o := .tup [.str "change", r]) st1.fh hp)).tab
  · have st2 := st1.tup (xs := [.str "change", r]) hp
    have t2 := N.t.step0 st2
    have f2 := N.f.step0 st2
    have hw : Dp K (upd F1 p (.tup [.str "change", r])) (.ref p) (chKey (doesM δ x)) := dp_tup st1.fh hp (.cons (.str _) (.cons (hv.up st1.ff) .nil))
    generalize upd F1 p (.tup [.str "change", r]) = F2 at st2 t2 f2 hw
    generalize upd H1 p (.tup [.str "change", r]) = H2 at st2 t2 f2 Md
    have st3 := made_stp Md st2.fh t2
    have t3 : Tb K F2 H3 := ⟨Md.tab, t2.fr⟩
    have f3 : Fnd K w F2 H3 c δ d := f2.step st3 fun z => f2.ne_tab t2 (List.mem_singleton.mp z).symm
    have stA : Stp [d, tabA K] F H F2 H3 := st2.up.trans (mono_p st3)
    have M3 := M.up stA.ff
    refine found_read T st3.fh M3 f3 (.inr ⟨x, hx, rfl⟩) hw (fun Y hY => ?_) fun r2 F4 H4 st4 hr => ?_
    · refine ⟨Md.co, .ref a, rfl, r, rfl, F2, .ref a, r, c, n, δ, d, doesM δ x, rfl, st3.fh, M3, hv.up stA.ff, doesM_len M.wf x, doesM_lt M.wf hx, fun r2 F4 H4 st4 hr => hY r2 F4 H4 st4 ⟨fun y hy e => ?_, fun e => by cases e⟩⟩
      rw [← chKey_inj e]
      exact hr
    · exact q r2 F4 H4 (stA.trans (mono_d st4)) ⟨hr.1.ch x hx rfl, hr.2, t3.stepD f3 st4⟩
theorem sc_fault : FnScope ["machine", "change"] ["machine", "change"] (defScope s_fault) := ⟨rfl, rfl, rfl, by decide +kernel, rfl, by decide +kernel, by decide +kernel⟩
theorem bn_fault : BindN d_fault ["machine", "change"] := fun _ _ _ _ _ _ us hl => match us, hl with | [_, _], _ => rfl
theorem ok_fault (T : Top P w K mg base) : Cal P w K mg base d_fault "fault" 11 ["machine", "change"] (spFault K w) := by
  refine T.cal 18 15 rfl rfl rfl rfl rfl sc_fault bn_fault (fun vs H Q E h => ?_) fun f cdv A outer s H vs Q E hr h => ?_
  · obtain ⟨_, _, _, _, _, _, _, _, rfl, _⟩ := h
    rfl
  have nd := (sc_fault).nd
  refine ⟨_, (pss_one (ps_ret (pe_ix ix_both (pe_cal (ok_seen T) hr (by decide) (by rfl) (pa_cons (pv 0) (pa_cons (pv 1) pa_nil))) pe_int (fun _ _ => rfl)))), ?_⟩
  obtain ⟨F, m, v, c, n, δ, d, x, rfl, hF, M, N, hx, hv, q⟩ := h
  refine ⟨m, rfl, v, rfl, F, m, v, c, n, δ, d, x, rfl, hF, M, N, hx, hv, fun r F1 H1 st hr => ?_⟩
  obtain ⟨⟨p, a, b, rfl, hp, he⟩, N1⟩ := hr
  exact ixB_t (same_t st.fh hp) rfl (q a F1 H1 st ⟨he, N1⟩)

theorem sc_late_commands : FnScope ["machine", "one"] ["machine"] (defScope s_late_commands) := ⟨rfl, rfl, rfl, by decide +kernel, rfl, by decide +kernel, by decide +kernel⟩
theorem bn_late_commands : BindN d_late_commands ["machine"] := fun _ _ _ _ _ _ us hl => match us, hl with | [_], _ => rfl
theorem ok_late_commands (T : Top P w K mg base) : Cal P w K mg base d_late_commands "late_commands" 12 ["machine"] (spLate K w) := by
  refine T.cal 19 16 rfl rfl rfl rfl rfl sc_late_commands bn_late_commands (fun vs H Q E h => ?_) fun f cdv A outer s H vs Q E hr h => ?_
  · obtain ⟨_, _, _, _, _, _, rfl, _⟩ := h
    rfl
  have nd := (sc_late_commands).nd
  refine ⟨_, (pss_one (ps_ret (pe_callTy cl_tup (by rfl) T.n_tuple bt_tuple (pa_cons (pe_lc (own := [("one", 1)]) (g := (gName 1)) (tt := (tB (tIsN (tCall (spFault K w) [] C8.E0 (tCons (tVar 0) (tCons (tMeth (He.ga K "Machine") "does" (spDoes K) [] C8.E0 (tVar 0) (tCons (tVar 1) tNil)) tNil)))))) (te := (tVar 1)) rfl nd (pi_range1 (by rfl) T.n_range (pa_cons (pe_fld (pv 0) (by rfl)) pa_nil)) (blkOk_by (by kernel_rfl)) (fun _ _ _ _ _ => (pg_name (i := 1) nd rfl (.inl rfl))) (fun _ _ _ _ _ => (pts_one (pt_cmp (pc_isN (pe_cal (ok_fault T) hr (by decide) (by rfl) (pa_cons (pv 0) (pa_cons (pe_calM (ok_Machine_does T) hr (by decide) T.cls_ T.me_does (pv 0) (pa_cons (pv 1) pa_nil)) pa_nil))))))) (fun _ _ _ _ _ => (pv 1))) pa_nil)))), ?_⟩
  obtain ⟨F, m, c, n, δ, d, rfl, hF, M, N, q⟩ := h
  have hc := M.wf.c3
  refine ⟨m, rfl, fld_ex T.cls_ T.no_commands hF M.f_commands ⟨(c : Int), rfl, by omega, by omega, ?_⟩⟩
  rw [Int.toNat_natCast]
  refine lc_doH (S := [d, tabA K]) (src_r (F := F)) hF N.there (by rw [sizeLine_eq]; omega) (fun i acc F' H' => Sta K w F' H' c δ d ∧ acc.length ≤ i ∧ (acc.length = i ↔ ∀ x, x < i → NoFault δ c (doesM δ x))) (fun i acc F' H' D u hD _ p => ⟨p.1.lstU hD, p.2⟩) ⟨N, Nat.le_refl _, fun _ x hx => absurd hx (Nat.not_lt_zero x), fun _ => rfl⟩ (fun i y acc F1 H1 hi hy st hp Y N' hY hN => ?_) fun D acc F1 H1 st hD mu hl hp => ?_
  · have hy' : y = vN i := by rw [hy, Int.zero_add] <;> rfl
    subst hy'
    obtain ⟨N1, p1, p2⟩ := hp
    obtain ⟨a, dx, fs, rfl, ha, hl⟩ := M.o_does
    have M1 := M.up st.ff
    refine ⟨rfl, .ref a, rfl, .ref a, rfl, a, dx, fs, rfl, st.fh _ _ (st.ff _ _ ha), hl, vN i, rfl, F1, .ref a, c, n, δ, d, i, rfl, st.fh, M1, hi, fun r F2 H2 st2 hr => ?_⟩
    refine ⟨F2, .ref a, r, c, n, δ, d, i, rfl, st2.fh, M1.up st2.ff, N1.step0 st2, hi, hr, fun r3 F3 H3 st3 hr3 => ?_⟩
    have st23 := st2.up.trans st3
    obtain ⟨he, N3⟩ := hr3
    refine ⟨_, rfl, ?_⟩
    by_cases hnf : NoFault δ c (doesM δ i)
    · rw [he.mpr hnf]
      refine iteT ⟨vN i, rfl, hY _ F3 H3 st23 ⟨N3, ?_, ?_⟩⟩
      · rw [List.length_append]
        show acc.length + 1 ≤ i + 1
        omega
      · rw [List.length_append]
        show acc.length + 1 = i + 1 ↔ _
        refine ⟨fun e x hx => ?_, fun h => ?_⟩
        · by_cases hxi : x = i
          · rw [hxi]
            exact hnf
          · exact p2.mp (by omega) x (by omega)
        · rw [p2.mpr fun x hx => h x (by omega)]
    · have hne : r3 ≠ .non := fun e => hnf (he.mp e)
      rw [decide_eq_false hne]
      refine iteF (hN F3 H3 st23 ⟨N3, by omega, fun e => absurd e (by omega), fun h => absurd (h i (Nat.lt_succ_self i)) hnf⟩)
  · refine ⟨D, acc, rfl, .inl ⟨.inl (.inl mu.at_), fun l hln => ?_⟩⟩
    refine q _ _ _ (st.tup hln) ⟨⟨l, acc, rfl, .inl (.inl upd_same), ?_⟩, hp.1.step0 (Stp.new st.fh hln)⟩
    obtain ⟨_, p1, p2⟩ := hp
    unfold BlindM
    rw [← p2]
    omega

theorem sc_is_blind : FnScope ["machine"] ["machine"] (defScope s_is_blind) := ⟨rfl, rfl, rfl, by decide +kernel, rfl, by decide +kernel, by decide +kernel⟩
theorem bn_is_blind : BindN d_is_blind ["machine"] := fun _ _ _ _ _ _ us hl => match us, hl with | [_], _ => rfl
theorem ok_is_blind (T : Top P w K mg base) : Cal P w K mg base d_is_blind "is_blind" 13 ["machine"] (spBlind K w) := by
  refine T.cal 20 17 rfl rfl rfl rfl rfl sc_is_blind bn_is_blind (fun vs H Q E h => ?_) fun f cdv A outer s H vs Q E hr h => ?_
  · obtain ⟨_, _, _, _, _, _, rfl, _⟩ := h
    rfl
  have nd := (sc_is_blind).nd
  refine ⟨_, (pss_one (ps_ret (pe_cmpR op_lt (pe_callB cl_len (by rfl) T.n_len bt_len (pa_cons (pe_cal (ok_late_commands T) hr (by decide) (by rfl) (pa_cons (pv 0) pa_nil)) pa_nil)) (pe_fld (pv 0) (by rfl)) (nomark _)))), ?_⟩
  obtain ⟨F, m, c, n, δ, d, rfl, hF, M, N, q⟩ := h
  refine ⟨m, rfl, F, m, c, n, δ, d, rfl, hF, M, N, fun r F1 H1 st hr => ?_⟩
  obtain ⟨⟨p, xs, rfl, hp, he⟩, N1⟩ := hr
  refine ⟨p, xs, rfl, .inr (same_t st.fh hp), m, rfl, fld_ex T.cls_ T.no_commands (st.ff.trans st.fh) M.f_commands ⟨_, _, rfl, rfl, ?_⟩⟩
  refine q _ F1 H1 st ⟨⟨_, rfl, ?_⟩, N1⟩
  rw [decide_eq_true_iff, ← he]
  exact Int.ofNat_lt

theorem sc_refuse_blind : FnScope ["machine"] ["machine"] (defScope s_refuse_blind) := ⟨rfl, rfl, rfl, by decide +kernel, rfl, by decide +kernel, by decide +kernel⟩
theorem bn_refuse_blind : BindN d_refuse_blind ["machine"] := fun _ _ _ _ _ _ us hl => match us, hl with | [_], _ => rfl
theorem ok_refuse_blind (T : Top P w K mg base) : Cal P w K mg base d_refuse_blind "refuse_blind" 14 ["machine"] (spRefuse K w) := by
  refine T.cal 21 18 rfl rfl rfl rfl rfl sc_refuse_blind bn_refuse_blind (fun vs H Q E h => ?_) fun f cdv A outer s H vs Q E hr h => ?_
  · obtain ⟨_, _, _, _, _, _, rfl, _⟩ := h
    rfl
  have nd := (sc_refuse_blind).nd
  refine ⟨_, (pss_one (ps_if (pt_val (pe_cal (ok_is_blind T) hr (by decide) (by rfl) (pa_cons (pv 0) pa_nil)))
      (pss_one (ps_raise rfl (takes_of rfl rfl rfl rfl) (pm_err T.err_Blind hr (by decide) (by rfl) (pa_cons pe_int pa_nil))))
      pss_nil)), ?_⟩
  obtain ⟨F, m, c, n, δ, d, rfl, hF, M, N, q, qe⟩ := h
  refine ⟨m, rfl, F, m, c, n, δ, d, rfl, hF, M, N, fun r F1 H1 st hr => ?_⟩
  obtain ⟨⟨b, rfl, hb⟩, N1⟩ := hr
  refine ⟨_, rfl, ?_⟩
  cases b with
  | true => exact iteT (err_read st.fh fun dx F' H' st' hx => qe (hb.mp rfl) dx F' H' (st.trans st'.up) hx (N1.step0 st'))
  | false =>
    refine iteF (q (fun z => ?_) .non F1 H1 st N1)
    have z2 := hb.mpr z
    cases z2

end
end K11


set_option Elab.async false
set_option linter.all false
set_option maxRecDepth 100000
set_option maxHeartbeats 4000000
/-! Machine.__init__, greatest_of, greatest_kernel, fewest_classes. -/
namespace K11
open PySem PySem.Spec PyProof.Rows L2
/-! ### shaped -/
theorem depthAll_le {k : Nat} : ∀ {ds : List PyData}, (∀ x ∈ ds, PyData.depth x ≤ k) → PyData.depthAll ds ≤ k
  | [], _ => by simp [PyData.depthAll]
  | d :: ds, h => by
    have h1 := h d List.mem_cons_self
    have h2 := depthAll_le fun x hx => h x (List.mem_cons_of_mem _ hx)
    simp only [PyData.depthAll]
    omega
theorem canLayAll_le : ∀ {ds : List PyData}, (∀ x ∈ ds, PyData.canLay0 x = true) → PyData.canLayAll0 ds = true
  | [], _ => by simp [PyData.canLayAll0]
  | d :: ds, h => by
    have h1 := h d List.mem_cons_self
    have h2 := canLayAll_le fun x hx => h x (List.mem_cons_of_mem _ hx)
    simp [PyData.canLayAll0, h1, h2]
theorem lay_seq {ds : List PyData} (h : ∀ x ∈ ds, PyData.canLay0 x = true) : PyData.canLay0 (.tuple ds) = true ∧ PyData.canLay0 (.list ds) = true := by
  have z := canLayAll_le h
  exact ⟨by simpa [PyData.canLay0] using z, by simpa [PyData.canLay0] using z⟩
theorem dep_seq {ds : List PyData} {k : Nat} (h : ∀ x ∈ ds, PyData.depth x ≤ k) : PyData.depth (.tuple ds) ≤ k + 1 ∧ PyData.depth (.list ds) ≤ k + 1 := by
  have z := depthAll_le h
  simp only [PyData.depth]
  omega
theorem lay_nD (ns : List Nat) : ∀ x ∈ ns.map nD, PyData.canLay0 x = true := fun x hx => by
  obtain ⟨n, _, rfl⟩ := List.mem_map.mp hx
  simp [PyData.canLay0]
theorem dep_nD (ns : List Nat) : ∀ x ∈ ns.map nD, PyData.depth x ≤ 0 := fun x hx => by
  obtain ⟨n, _, rfl⟩ := List.mem_map.mp hx
  simp [PyData.depth]
theorem shaped_by {d : PyData} {k : Nat} (h : PyData.canLay0 d = true) (h2 : PyData.depth d ≤ k) (hk : k ≤ 64) : SeqAt.shaped d = true := by
  unfold SeqAt.shaped
  rw [h, decide_eq_true (Nat.le_trans h2 hk)] <;> rfl
theorem shaped_tN (ns : List Nat) : SeqAt.shaped (tN ns) = true := shaped_by (lay_seq (lay_nD ns)).1 (dep_seq (dep_nD ns)).1 (by decide)
theorem shaped_lN (ns : List Nat) : SeqAt.shaped (lN ns) = true := shaped_by (lay_seq (lay_nD ns)).2 (dep_seq (dep_nD ns)).2 (by decide)
def spInit (K : PySem.W.Frag) (w : World) : Sp := fun vs H Q _ => ∃ (F0 H0 : Hp) (x dx : Addr) (v : V) (c n : Nat) (δ : List (List Nat)), vs = [.ref x, vN c, v] ∧ Same F0 H0 ∧ H0 x = none ∧ H0 dx = none ∧ dx ≠ x ∧ H = upd (upd H0 dx (.own x)) x (.ins (He.ga K "Machine") dx []) ∧ WF c n δ ∧ Dp K F0 v (.list (δ.map lN)) ∧
  ∀ F' H' d, Stp [] F0 H0 F' H' → H0 d = none → Mach K F' (.ref x) c n δ d → Fnd K w F' H' c δ d → Q .non H'
/-- a word whose kernel no command ahead changes -/
def GreatW (δ : List (List Nat)) (c : Nat) (v : List Nat) : Prop := Word c v ∧ ∀ x, x < c → aheadM δ x (kerM δ v) = kerM δ v
theorem GreatW.is {δ : List (List Nat)} {c : Nat} {v : List Nat} (h : GreatW δ c v) : IsGreat δ c (kerM δ v) := ⟨⟨v, h.1, rfl⟩, h.2⟩
theorem IsGreat.word {δ : List (List Nat)} {c : Nat} {g : List Nat} (h : IsGreat δ c g) : ∃ v, GreatW δ c v ∧ g = kerM δ v := by
  obtain ⟨⟨v, hv, rfl⟩, h⟩ := h
  exact ⟨v, ⟨hv, h⟩, rfl⟩
def spGreat (K : PySem.W.Frag) : Sp := fun vs H Q _ => ∃ (F : Hp) (m : V) (c n : Nat) (δ : List (List Nat)) (d : Addr), vs = [m] ∧ Same F H ∧ Mach K F m c n δ d ∧ ¬ BlindM δ c ∧ Back [] F H Q fun r F' _ => ∃ g, IsGreat δ c g ∧ Dp K F' r (tN g)
def spFoundG (K : PySem.W.Frag) (w : World) : Sp := fun vs H Q _ => ∃ (F : Hp) (m : V) (c n : Nat) (δ : List (List Nat)) (d : Addr), vs = [m, .str "greatest kernel", .ref (He.ga K "greatest_of")] ∧ Same F H ∧ Mach K F m c n δ d ∧ ¬ BlindM δ c ∧ Fnd K w F H c δ d ∧ Back [d] F H Q fun r F' H' => (∃ g, IsGreat δ c g ∧ Dp K F' r (tN g)) ∧ Fnd K w F' H' c δ d
def spGK (K : PySem.W.Frag) (w : World) : Sp := fun vs H Q _ => ∃ (F : Hp) (m : V) (c n : Nat) (δ : List (List Nat)) (d : Addr), vs = [m] ∧ Same F H ∧ Mach K F m c n δ d ∧ ¬ BlindM δ c ∧ Sta K w F H c δ d ∧ Back [d, tabA K] F H Q fun r F' H' => (∃ g, IsGreat δ c g ∧ Dp K F' r (tN g)) ∧ Sta K w F' H' c δ d
def spFew (K : PySem.W.Frag) (w : World) : Sp := fun vs H Q _ => ∃ (F : Hp) (m : V) (c n : Nat) (δ : List (List Nat)) (d : Addr), vs = [m] ∧ Same F H ∧ Mach K F m c n δ d ∧ ¬ BlindM δ c ∧ Sta K w F H c δ d ∧ Back [d, tabA K] F H Q fun r F' H' => (∃ v, GreatW δ c v ∧ r = vN (cls n δ v)) ∧ Sta K w F' H' c δ d
section
variable {P : Program} {w : World} {K : PySem.W.Frag} {mg : Str → Option Value} {base : Heap}
theorem pe_dnewMw {X : Cx} {w0 : World} {pos : Pos} (hw : X.w = w0 := by rfl) : PE X (.Dict [] [] pos) (tDNewM w0) := by
  subst hw
  exact pe_dnewM
theorem sc_Machine_init : FnScope ["self", "commands", "steps", "state", "row", "to"] ["self", "commands", "steps"] (defScope s_Machine_init) := ⟨rfl, rfl, rfl, by decide +kernel, rfl, by decide +kernel, by decide +kernel⟩
theorem bn_Machine_init : BindN d_Machine_init ["self", "commands", "steps"] := fun _ _ _ _ _ _ us hl => match us, hl with | [_, _, _], _ => rfl
theorem ok_Machine_init (T : Top P w K mg base) : CalM P w K mg base d_Machine_init "Machine" "__init__" 4 ["self", "commands", "steps"] (spInit K w) := by
  refine T.calM 6 rfl rfl rfl rfl sc_Machine_init bn_Machine_init (fun vs H Q E h => ?_) fun f cdv A outer s H vs Q E hr h => ?_
  · obtain ⟨_, _, _, _, _, _, _, _, rfl, _⟩ := h
    rfl
  have nd := (sc_Machine_init).nd
  refine ⟨_, (pss_cons (ps_if (pw_or (pt_not (pt_val (pe_cal (ok_is_number T) hr (by decide) (by rfl) (pa_cons (pv 1) pa_nil)))) (pw_or1 (pt_cmpR op_eq (pv 1) pe_int (nomark _)))).pt
      (pss_one ps_never)
      pss_nil)
    (pss_cons (ps_if (pw_or (pt_not (pt_val (pe_cal (ok_is_sequence T) hr (by decide) (by rfl) (pa_cons (pv 2) pa_nil)))) (pw_or1 (pt_cmpR op_eq (pe_callB cl_len (by rfl) T.n_len bt_len (pa_cons (pv 2) pa_nil)) pe_int (nomark _)))).pt
      (pss_one ps_never)
      pss_nil)
    (pss_cons (ps_for (passes_of rfl) rfl (pi_enum (by rfl) T.n_enumerate (pa_cons (pv 2) pa_nil)) (pg_tup rfl (pgs_cons (pg_name (i := 3) nd rfl (.inl rfl)) (pgs_cons (pg_name (i := 4) nd rfl (.inl rfl)) pgs_nil)))
      (pss_one (ps_if (pw_or (pt_not (pt_val (pe_cal (ok_is_sequence T) hr (by decide) (by rfl) (pa_cons (pv 4) pa_nil)))) (pw_or (pt_cmpR op_ne (pe_callB cl_len (by rfl) T.n_len bt_len (pa_cons (pv 4) pa_nil)) (pv 1) (nomark _)) (pw_or1 (pt_not (pt_val (pe_callB (cr_all rfl) (by rfl) T.n_all bt_all (pa_cons (pe_lc (own := [("to", 5)]) (g := (gName 5)) (tt := tYes) (te := (tCall (spIsIx K) [] C8.E0 (tCons (tVar 5) (tCons (tCB (rLen_ K) (tCons (tVar 2) tNil)) tNil)))) rfl nd (pi_list (pv 4)) (blkOk_by (by kernel_rfl)) (fun _ _ _ _ _ => (pg_name (i := 5) nd rfl (.inl rfl))) (fun _ _ _ _ _ => pts_nil) (fun _ _ _ _ _ => (pe_cal (ok_is_index T) hr (by decide) (by rfl) (pa_cons (pv 5) (pa_cons (pe_callB cl_len (by rfl) T.n_len bt_len (pa_cons (pv 2) pa_nil)) pa_nil))))) pa_nil))))))).pt
      (pss_one ps_never)
      pss_nil)))
    (pss_cons (ps_fld (pv 0) (pv 1) (by rfl))
    (pss_cons (ps_fld (pv 0) (pe_callB cl_len (by rfl) T.n_len bt_len (pa_cons (pv 2) pa_nil)) (by rfl))
    (pss_cons (ps_fld (pv 0) (pe_callTy cl_tup (by rfl) T.n_tuple bt_tuple (pa_cons (pe_lc (own := [("row", 4)]) (g := (gName 4)) (tt := tYes) (te := (tCB (rTup_ K) (tCons (tVar 4) tNil))) rfl nd (pi_list (pv 2)) (blkOk_by (by kernel_rfl)) (fun _ _ _ _ _ => (pg_name (i := 4) nd rfl (.inl rfl))) (fun _ _ _ _ _ => pts_nil) (fun _ _ _ _ _ => (pe_callTy cl_tup (by rfl) T.n_tuple bt_tuple (pa_cons (pv 4) pa_nil)))) pa_nil)) (by rfl))
    (pss_one (ps_fld (pv 0) (pe_dnewMw (w0 := w)) (by rfl))))))))), ?_⟩
  obtain ⟨F0, H0, x, dx, v, c, n, δ, rfl, hF, hx, hdx, hne, rfl, W, hv, q⟩ := h
  have st0 : Stp [] F0 H0 F0 (upd H0 dx (.own x)) := Stp.newM hF hdx
  have hx1 : upd H0 dx (.own x) x = none := by rw [upd_ne (Ne.symm hne)]; exact hx
  have st1 : Stp [] F0 H0 F0 (upd (upd H0 dx (.own x)) x (.ins (He.ga K "Machine") dx [])) := st0.trans (Stp.newM st0.fh hx1)
  have mux : Mu F0 (upd (upd H0 dx (.own x)) x (.ins (He.ga K "Machine") dx [])) x (.ins (He.ga K "Machine") dx []) := Mu.new st0.fh hx1
  generalize upd (upd H0 dx (.own x)) x (.ins (He.ga K "Machine") dx []) = H at st1 mux
  have hc := W.c1
  have hn := W.n6
  refine ⟨vN c, rfl, F0, vN c, nD c, rfl, st1.fh, .d (.int _), fun r F2 H2 st2 hr => ⟨_, hr, ?_⟩⟩
  have e1 : isNum (nD c) = true := decide_eq_true (Int.natCast_nonneg c)
  rw [e1]
  replace st1 := st1.trans st2
  replace mux := st2.mu0 mux
  obtain ⟨a, xs, rfl, ha, hall⟩ := hv.lst_inv
  have hxl : xs.length = n := by rw [hall.len, List.length_map, W.len]
  refine iteF ⟨vN c, rfl, rfl, _, rfl, ?_⟩
  have e2 : decide (vN c = .int 0) = false := decide_eq_false fun e => by
    injection e with e
    omega
  rw [e2]
  refine iteF ⟨.ref a, rfl, F2, .ref a, _, rfl, st1.fh, .d (hv.up st1.ff), fun r F3 H3 st3 hr => ⟨_, hr, ?_⟩⟩
  replace st1 := st1.trans st3
  replace mux := st3.mu0 mux
  refine iteF ⟨.ref a, rfl, a, xs, rfl, .inl (same_l (st1.ff.trans st1.fh) ha), rfl, _, rfl, ?_⟩
  have e3 : decide (V.int (xs.length : Nat) = .int 0) = false := decide_eq_false fun e => by
    injection e with e
    have := W.n1
    omega
  rw [e3]
  refine iteF ⟨.ref a, rfl, a, xs, rfl, same_l (st1.ff.trans st1.fh) ha, ?_⟩
  refine for_doG (src_el (same_l st1.ff ha)) (fun i σ H' => ∃ F' y1 y2 y3, Stp [] F0 H0 F' H' ∧ Same F3 F' ∧ Mu F' H' x (.ins (He.ga K "Machine") dx []) ∧ σ = [some (.ref x), some (vN c), some (.ref a), y1, y2, y3]) (fun i σ H' ⟨F', _, _, _, st, e, _⟩ => e.trans st.fh) ⟨F3, none, none, none, st1, Same.refl F3, mux, rfl⟩ (fun i y σ H' H'' hi hy hp => ?_) fun σ H' hp => ?_
  · obtain ⟨F4, y1, y2, y3, st4, e4, mu4, rfl⟩ := hp
    obtain ⟨A, y, rfl, hA, rfl, hy⟩ := hy
    have st' := st4.tup (xs := [.int (i : Nat), y]) hA
    have mu' : Mu _ _ x (.ins (He.ga K "Machine") dx []) := (Stp.new (S := []) (o := .tup [.int (i : Nat), y]) st4.fh hA).mu0 mu4
    refine ⟨A, _, rfl, .inl (.inl upd_same), rfl, _, _, rfl, _, _, rfl, rfl, ?_⟩
    have e5 := e4.trans (Stp.new (S := []) (o := .tup [.int (i : Nat), y]) st4.fh hA).ff
    generalize upd F4 A (.tup [.int (i : Nat), y]) = F5 at st' mu' e5
    generalize upd H' A (.tup [.int (i : Nat), y]) = H5 at st' mu'
    have hin : i < δ.length := by rw [W.len]; omega
    have hd : Dp K F5 y (lN δ[i]) := (hall.at hy (by rw [List.getElem?_map, List.getElem?_eq_getElem hin] <;> rfl)).up st'.ff
    have hrl := W.row _ (List.getElem_mem hin)
    have hrt := W.to _ (List.getElem_mem hin)
    generalize δ[i] = ro at hd hrl hrt
    obtain ⟨b, rfl, hb⟩ := hd.lN_inv
    refine ⟨.ref b, rfl, F5, .ref b, _, rfl, st'.fh, .d hd, fun r6 F6 H6 st6 hr6 => ⟨_, hr6, ?_⟩⟩
    refine iteF ⟨.ref b, rfl, b, _, rfl, .inl (same_l (st6.ff.trans st6.fh) hb), vN c, rfl, rfl, _, rfl, ?_⟩
    have e6 : decide (V.int ((ro.map vN).length : Nat) = vN c) = true := decide_eq_true (by rw [List.length_map, hrl] <;> rfl)
    rw [e6]
    refine iteF ⟨.ref b, rfl, b, rfl, ⟨_, same_l (st6.ff.trans st6.fh) hb⟩, ?_⟩
    have hlen : (ro.map vN).length = c := by rw [List.length_map, hrl]
    have hc3 := W.c3
    have sx := st'.trans st6
    refine lc_do (S := []) (src_l (same_l st6.ff hb)) st6.fh (fun a h => by cases h) (by rw [hlen, sizeLine_eq]; omega) (fun i acc _ _ => acc = (List.replicate i true).map V.bl) rfl (fun i y acc F7 H7 hi hy st7 hp Y N hY hN => ?_) fun D acc F7 H7 st7 hD mu hl2 hp => ?_
    · obtain ⟨t, ht, rfl⟩ := vN_at hy
      refine ⟨rfl, lc_yes ⟨vN t, rfl, .ref a, rfl, a, xs, rfl, .inl (same_l ((sx.trans st7).ff.trans st7.fh) ha), F7, vN t, nD t, _, rfl, st7.fh, .d (.int _), fun r F8 H8 st8 hr => ?_⟩⟩
      refine hY _ F8 H8 st8 ?_
      rw [hp, hr, isIx_nD (by rw [hxl]; exact hrt t (List.mem_of_getElem? ht)), rs_app]
    · refine ⟨D, List.replicate c true, rfl, .inl (.inl ?_), _, rfl, ?_⟩
      · rw [mu.at_, hp, hlen]
      · rw [all_rep]
        refine iteF ⟨F7, _, _, _, sx.trans st7, (e5.trans st6.ff).trans st7.ff, (st6.trans st7).mu0 mu', rfl⟩
  · obtain ⟨F4, y1, y2, y3, st4, e4, mu4, rfl⟩ := hp
    refine ⟨vN c, rfl, .ref x, rfl, x, _, dx, [], rfl, mu4.at_, T.cls_, T.no_commands, (show 0 < 1000 by decide), ?_⟩
    have s5 := st4.write (u := .ins (He.ga K "Machine") dx [("commands", vN c)]) (.inl hx) mu4
    have m5 : Mu F4 (upd H' x (.ins (He.ga K "Machine") dx [("commands", vN c)])) x _ := mu4.wrote
    refine ⟨.ref a, rfl, a, xs, rfl, .inl (same_l (s5.ff.trans s5.fh) ha), .ref x, rfl, x, _, dx, [("commands", vN c)], rfl, m5.at_, T.cls_, T.no_states, (show 1 < 1000 by decide), ?_⟩
    have s6 := s5.write (u := .ins (He.ga K "Machine") dx [("commands", vN c), ("states", .int (xs.length : Nat))]) (.inl hx) m5
    have m6 : Mu F4 _ x (.ins (He.ga K "Machine") dx [("commands", vN c), ("states", .int (xs.length : Nat))]) := m5.wrote
    refine ⟨.ref a, rfl, a, rfl, ⟨_, same_l (s6.ff.trans s6.fh) ha⟩, ?_⟩
    refine lc_do (S := []) (src_l (same_l s6.ff ha)) s6.fh (fun a h => by cases h) (by rw [hxl, sizeLine_eq]; omega) (fun i acc F' _ => DpAll K F' acc ((δ.take i).map tN)) .nil (fun i y acc F7 H7 hi hy st7 hp Y N hY hN => ?_) fun D acc F7 H7 st7 hD mu hl2 hp => ?_
    · have hin : i < δ.length := by rw [W.len]; omega
      have hd : Dp K F7 y (lN δ[i]) := ((hall.at hy (by rw [List.getElem?_map, List.getElem?_eq_getElem hin] <;> rfl)).up s6.ff).up st7.ff
      have e7 : δ[i]? = some δ[i] := List.getElem?_eq_getElem hin
      generalize δ[i] = ro at hd e7
      obtain ⟨b, rfl, hb⟩ := hd.lN_inv
      refine ⟨rfl, lc_yes ⟨.ref b, rfl, b, _, rfl, .inl ⟨same_l st7.fh hb, fun l hl => ?_⟩⟩⟩
      refine hY _ _ _ (Stp.new st7.fh hl) ?_
      rw [take_snoc e7, List.map_append]
      exact (hp.up (Stp.new (S := []) (o := .tup (ro.map vN)) st7.fh hl).ff).snoc (dp_tup st7.fh hl (all_nats ro))
    · refine ⟨D, acc, rfl, .inl ⟨.inl (.inl mu.at_), fun l hl => ?_⟩⟩
      have s8 := (s6.trans st7).tup (xs := acc) hl
      have m8 := (Stp.new (S := []) (o := .tup acc) st7.fh hl).mu0 (st7.mu0 m6)
      have hp' : DpAll K F7 acc (δ.map tN) := by
        rw [hxl, List.take_of_length_le (by rw [W.len]; exact Nat.le_refl _)] at hp
        exact hp
      have d8 : Dp K (upd F7 l (.tup acc)) (.ref l) (.tuple (δ.map tN)) := dp_tup st7.fh hl hp'
      generalize upd F7 l (.tup acc) = F8 at s8 m8 d8
      generalize upd H7 l (.tup acc) = H8 at s8 m8
      refine ⟨.ref x, rfl, x, _, dx, _, rfl, m8.at_, T.cls_, T.no_steps, (show 2 < 1000 by decide), ?_⟩
      have s9 := s8.write (u := .ins (He.ga K "Machine") dx [("commands", vN c), ("states", .int (xs.length : Nat)), ("steps", .ref l)]) (.inl hx) m8
      have m9 : Mu F8 (upd H8 x (.ins (He.ga K "Machine") dx [("commands", vN c), ("states", .int (xs.length : Nat)), ("steps", .ref l)])) x _ := m8.wrote
      refine fun p hp => ⟨.ref x, rfl, ?_⟩
      have s10 := s9.trans (Stp.newM (S := []) (o := mixO w p []) s9.fh hp)
      have hpx : x ≠ p := m9.ne hp
      have m10 := m9.off (u := mixO w p []) hpx
      have mp : Mu F8 _ p (mixO w p []) := Mu.new s9.fh hp
      refine ⟨x, _, dx, _, rfl, m10.at_, T.cls_, T.no_found, (show 3 < 1000 by decide), ?_⟩
      have s11 := s10.write (u := .ins (He.ga K "Machine") dx [("commands", vN c), ("states", .int (xs.length : Nat)), ("steps", .ref l), ("_found", .ref p)]) (.inl hx) m10
      have m11 := m10.wrote (u := .ins (He.ga K "Machine") dx [("commands", vN c), ("states", .int (xs.length : Nat)), ("steps", .ref l), ("_found", .ref p)])
      have mp2 := mp.off (u := .ins (He.ga K "Machine") dx [("commands", vN c), ("states", .int (xs.length : Nat)), ("steps", .ref l), ("_found", .ref p)]) (Ne.symm hpx)
      have s12 := s11.freeze hx m11
      have e12 : Same F8 (upd F8 x (.ins (He.ga K "Machine") dx [("commands", vN c), ("states", .int (xs.length : Nat)), ("steps", .ref l), ("_found", .ref p)])) := fun b u z => by
        rw [upd_ne (ne_of_none z m11.fr)]
        exact z
      have exl : (V.int (xs.length : Nat)) = vN n := by rw [hxl]
      rw [exl] at s12 mp2 e12
      show Q .non (upd (upd (upd H8 x (.ins (He.ga K "Machine") dx [("commands", vN c), ("states", .int (xs.length : Nat)), ("steps", .ref l)])) p (mixO w p [])) x (.ins (He.ga K "Machine") dx [("commands", vN c), ("states", .int (xs.length : Nat)), ("steps", .ref l), ("_found", .ref p)]))
      rw [exl]
      exact q _ _ p s12 (s9.none_ hp) ⟨W, x, dx, _, _, rfl, upd_same, rfl, rfl, rfl, d8.up e12, rfl, rfl, rfl⟩ ⟨[], ⟨mp2.at_, by rw [upd_ne (Ne.symm hpx)]; exact mp2.fr⟩, fun e he => (by cases he), List.nodup_nil⟩

theorem sc_greatest_of : FnScope ["machine", "one", "before", "command"] ["machine"] (defScope s_greatest_of) := ⟨rfl, rfl, rfl, by decide +kernel, rfl, by decide +kernel, by decide +kernel⟩
theorem bn_greatest_of : BindN d_greatest_of ["machine"] := fun _ _ _ _ _ _ us hl => match us, hl with | [_], _ => rfl
theorem ok_greatest_of (T : Top P w K mg base) : Cal P w K mg base d_greatest_of "greatest_of" 4 ["machine"] (spGreat K) := by
  refine T.cal 29 26 rfl rfl rfl rfl rfl sc_greatest_of bn_greatest_of (fun vs H Q E h => ?_) fun f cdv A outer s H vs Q E hr h => ?_
  · obtain ⟨_, _, _, _, _, _, rfl, _⟩ := h
    rfl
  have nd := (sc_greatest_of).nd
  refine ⟨_, (pss_cons (ps_par (i := 1) (j := 2) rfl nd rfl rfl (by decide) rfl rfl (pa_cons (pe_cal (ok_idle T) hr (by decide) (by rfl) (pa_cons (pe_fld (pv 0) (by rfl)) pa_nil)) (pa_cons (pe_tup pa_nil) pa_nil)) (by rfl))
    (pss_cons (ps_while (passes_of rfl) (pt_cmpR (op_neD hr.units) (pv 1) (pv 2) (nomark _))
      (pss_cons (ps_set (i := 2) nd rfl (.inl rfl) (pv 1))
    (pss_one (ps_for (passes_of rfl) rfl (pi_range1 (by rfl) T.n_range (pa_cons (pe_fld (pv 0) (by rfl)) pa_nil)) (pg_name (i := 3) nd rfl (.inl rfl))
      (pss_one (ps_set (i := 1) nd rfl (.inl rfl) (pe_cal (ok_ahead T) hr (by decide) (by rfl) (pa_cons (pv 0) (pa_cons (pv 3) (pa_cons (pv 1) pa_nil))))))))))
    (pss_one (ps_ret (pv 1))))), ?_⟩
  obtain ⟨F, m, c, n, δ, d, rfl, hF, M, hb, q⟩ := h
  have W := M.wf
  have hn := W.n6
  have hc := W.c3
  refine ⟨m, rfl, fld_ex T.cls_ T.no_states hF M.f_states ⟨F, n, rfl, hF, by omega, fun r F1 H1 st1 hr => ?_⟩⟩
  refine ⟨(show 0 ≤ sizeLine from Nat.zero_le _), fun p2 hp2 => ?_⟩
  have s2 := st1.tup (xs := []) hp2
  have d2 : Dp K _ (.ref p2) (tN []) := dp_tup st1.fh hp2 .nil
  have d1 := hr.up (Stp.new (S := []) (o := .tup []) st1.fh hp2).ff
  generalize upd F1 p2 (.tup []) = F2 at s2 d1 d2
  generalize upd H1 p2 (.tup []) = H2 at s2
  rw [← ker_nil W] at d1
  refine ⟨r, .ref p2, rfl, ?_⟩
  refine ⟨fun k σ H' => ∃ F' v1 v2 u w y, σ = [some m, some v1, some v2, y] ∧ Stp [] F H F' H' ∧ Word c w ∧ Dp K F' v1 (tN (kerM δ w)) ∧ Dp K F' v2 (tN u) ∧ (u = kerM δ w → ∀ x, x < c → aheadM δ x (kerM δ w) = kerM δ w) ∧ k = 2 * cls n δ w + (if u = kerM δ w then 0 else 1), ⟨_, F2, r, .ref p2, [], [], none, rfl, s2, fun x hx => (by cases hx), d1, d2, fun e => ?_, rfl⟩, ?_⟩
  · have z := congrArg List.length e
    rw [ker_len W] at z
    have := W.n1
    rw [← z] at this
    exact absurd this (by decide)
  rintro k σ H5 ⟨F5, v1, v2, u, w1, y, rfl, s5, hw, dv1, dv2, hfix, rfl⟩
  refine ⟨v1, rfl, v2, rfl, _, _, dv1.up s5.fh, dv2.up s5.fh, shaped_tN _, shaped_tN _, _, rfl, ?_⟩
  rw [eqv_tN]
  by_cases hu : kerM δ w1 = u
  · rw [decide_eq_true hu]
    refine iteF ⟨v1, rfl, ?_⟩
    exact q _ F5 H5 s5 ⟨_, ⟨⟨w1, hw, rfl⟩, hfix hu.symm⟩, dv1⟩
  · rw [decide_eq_false hu]
    refine iteT ⟨_, fun σ' H' h => h, ?_⟩
    refine ⟨v1, rfl, m, rfl, fld_ex T.cls_ T.no_commands (s5.ff.trans s5.fh) M.f_commands ⟨(c : Int), rfl, by omega, by omega, ?_⟩⟩
    rw [Int.toNat_natCast]
    refine for_do (src_r (F := F5)) (fun i σ H' => ∃ F' v1' w' y, σ = [some m, some v1', some v1, y] ∧ Stp [] F5 H5 F' H' ∧ Word c w' ∧ Coarse δ n w1 w' ∧ Dp K F' v1' (tN (kerM δ w')) ∧ (kerM δ w' = kerM δ w1 → ∀ x, x < i → aheadM δ x (kerM δ w1) = kerM δ w1)) (fun i σ H' h => ?_) ⟨F5, v1, w1, y, rfl, Stp.refl s5.fh, hw, Coarse.refl _, dv1, fun _ x hx => absurd hx (Nat.not_lt_zero x)⟩ (fun i x σ H6 hi hx hp => ?_) fun σ H6 hp => ?_
    · obtain ⟨F', _, _, _, _, st, _⟩ := h
      exact st.ff.trans st.fh
    · have hx' : x = vN i := by rw [hx, Int.zero_add] <;> rfl
      subst hx'
      obtain ⟨F6, v6, w6, y6, rfl, s6, hw6, hco, dv6, hst⟩ := hp
      refine ⟨m, rfl, vN i, rfl, v6, rfl, F6, m, c, n, δ, d, i, v6, _, rfl, s6.fh, M.up (s5.trans s6).ff, hi, dv6, ker_len W w6, fun r7 F7 H7 s7 hr7 => ?_⟩
      rw [ahead_ker W hi] at hr7
      have hwi : Word c (i :: w6) := fun z hz => by
        cases hz with
        | head => exact hi
        | tail _ hz => exact hw6 z hz
      have hc6 := calm_cons W hb hi hw6
      refine ⟨F7, r7, i :: w6, _, rfl, s6.trans s7, hwi, hco.trans hc6, hr7, fun e x hx => ?_⟩
      have e6 : kerM δ w6 = kerM δ w1 := (ker_eq W).mpr ⟨hc6.trans ((ker_eq W).mp e).1, hco⟩
      by_cases hxi : x = i
      · subst hxi
        rw [← e6, ahead_ker W hi, e, e6]
      · exact hst e6 x (by omega)
    · obtain ⟨F6, v6, w6, y6, rfl, s6, hw6, hco, dv6, hst⟩ := hp
      refine ⟨_, ?_, F6, v6, v1, kerM δ w1, w6, y6, rfl, s5.trans s6, hw6, dv6, dv1.up s6.ff, fun e => ?_, rfl⟩
      · have hu' : ¬ u = kerM δ w1 := fun e => hu e.symm
        rw [if_neg hu']
        by_cases e : kerM δ w1 = kerM δ w6
        · rw [if_pos e]
          have z := cls_le W hco
          omega
        · rw [if_neg e]
          have z := cls_lt W hco e
          omega
      · rw [← e]
        exact hst e.symm

theorem ok_found_great (T : Top P w K mg base) : CalM P w K mg base d_Machine_found "Machine" "found" 5 ["self", "word", "work"] (spFoundG K w) := by
  refine T.calM 7 rfl rfl rfl rfl sc_Machine_found bn_Machine_found (fun vs H Q E h => ?_) fun f cdv A outer s H vs Q E hr h => ?_
  · obtain ⟨_, _, _, _, _, _, rfl, _⟩ := h
    rfl
  obtain ⟨⟨fd, Fd, G, b⟩, _⟩ := ok_greatest_of T
  obtain ⟨oc, od, dV, kV, doc, pm, an, cdv2, ct, osl, rfl, lk, hcd, _, _⟩ := Fd.ex
  have Wk := Works.of_fn (X := cxOf (L2.CX P w) P w K mg base ["self", "word", "work"] d_Machine_found.qual d_Machine_found.scope f cdv A outer s H E) (E := C8.E0) lk G (hr.mono (by decide)) b passL
  refine ⟨_, pss_found hr Wk, ?_⟩
  obtain ⟨F, m, c, n, δ, d, rfl, hF, M, hb, N, q⟩ := h
  refine found_read T hF M N (.inl rfl) (.str _) (fun Y hY => ?_) fun r F1 H1 st hr => q r F1 H1 st ⟨hr.1.gr rfl, hr.2⟩
  exact ⟨F, m, c, n, δ, d, rfl, hF, M, hb, fun r F1 H1 st hr => hY r F1 H1 st ⟨fun x _ e => (by cases e), fun _ => hr⟩⟩
theorem Top.g_great (T : Top P w K mg base) : mg "greatest_of" = some (.ref (He.ga K "greatest_of")) := (ok_greatest_of T).mg_
theorem sc_greatest_kernel : FnScope ["machine"] ["machine"] (defScope s_greatest_kernel) := ⟨rfl, rfl, rfl, by decide +kernel, rfl, by decide +kernel, by decide +kernel⟩
theorem bn_greatest_kernel : BindN d_greatest_kernel ["machine"] := fun _ _ _ _ _ _ us hl => match us, hl with | [_], _ => rfl
theorem ok_greatest_kernel (T : Top P w K mg base) : Cal P w K mg base d_greatest_kernel "greatest_kernel" 15 ["machine"] (spGK K w) := by
  refine T.cal 30 27 rfl rfl rfl rfl rfl sc_greatest_kernel bn_greatest_kernel (fun vs H Q E h => ?_) fun f cdv A outer s H vs Q E hr h => ?_
  · obtain ⟨_, _, _, _, _, _, rfl, _⟩ := h
    rfl
  have nd := (sc_greatest_kernel).nd
  refine ⟨_, (pss_cons (ps_expr (pe_cal (ok_refuse_blind T) hr (by decide) (by rfl) (pa_cons (pv 0) pa_nil)))
    (pss_one (ps_ret (pe_calM (ok_found_great T) hr (by decide) T.cls_ T.me_found (pv 0) (pa_cons pe_str (pa_cons (pe_glob (v := .ref (He.ga K "greatest_of")) (by rfl) T.g_great rfl) pa_nil)))))), ?_⟩
  obtain ⟨F, m, c, n, δ, d, rfl, hF, M, hb, N, q⟩ := h
  refine ⟨m, rfl, F, m, c, n, δ, d, rfl, hF, M, N, fun _ r F1 H1 st N1 => ?_, fun z => absurd z hb⟩
  have M1 := M.up st.ff
  obtain ⟨a, dx, fs, rfl, ha, hl⟩ := M.o_found
  refine ⟨_, rfl, a, dx, fs, rfl, st.fh _ _ (st.ff _ _ ha), hl, F1, .ref a, c, n, δ, d, rfl, st.fh, M1, hb, N1.f, fun r2 F2 H2 st2 hr2 => ?_⟩
  exact q r2 F2 H2 (st.trans (mono_d st2)) ⟨hr2.1, hr2.2, N1.t.stepD N1.f st2⟩

theorem sc_fewest_classes : FnScope ["machine"] ["machine"] (defScope s_fewest_classes) := ⟨rfl, rfl, rfl, by decide +kernel, rfl, by decide +kernel, by decide +kernel⟩
theorem bn_fewest_classes : BindN d_fewest_classes ["machine"] := fun _ _ _ _ _ _ us hl => match us, hl with | [_], _ => rfl
theorem ok_fewest_classes (T : Top P w K mg base) : Cal P w K mg base d_fewest_classes "fewest_classes" 16 ["machine"] (spFew K w) := by
  refine T.cal 31 28 rfl rfl rfl rfl rfl sc_fewest_classes bn_fewest_classes (fun vs H Q E h => ?_) fun f cdv A outer s H vs Q E hr h => ?_
  · obtain ⟨_, _, _, _, _, _, rfl, _⟩ := h
    rfl
  have nd := (sc_fewest_classes).nd
  refine ⟨_, (pss_one (ps_ret (pe_lenSetT (by rfl) T.n_len (by rfl) T.n_set (pe_cal (ok_greatest_kernel T) hr (by decide) (by rfl) (pa_cons (pv 0) pa_nil))))), ?_⟩
  obtain ⟨F, m, c, n, δ, d, rfl, hF, M, hb, N, q⟩ := h
  refine ⟨m, rfl, F, m, c, n, δ, d, rfl, hF, M, hb, N, fun r F1 H1 st hr => ?_⟩
  obtain ⟨⟨g, hg, dg⟩, N1⟩ := hr
  obtain ⟨v, hv, rfl⟩ := hg.word
  obtain ⟨b, rfl, hb⟩ := dg.tN_inv
  refine ⟨b, (kerM δ v).map fun (x : Nat) => (x : Int), rfl, ?_, ?_, fun ms hd hm => ?_⟩
  · rw [List.map_map]
    exact same_t st.fh hb
  · rw [List.length_map, ker_len M.wf]
    have := M.wf.n6
    omega
  · exact q _ F1 H1 st ⟨⟨v, hv, by rw [cls_set M.wf v hd hm]⟩, N1⟩

end
end K11


set_option Elab.async false
set_option linter.all false
set_option maxRecDepth 100000
set_option maxHeartbeats 4000000
/-! Parts and kept commands, in plain Lean. -/
namespace K11
open PySem PySem.Spec PyProof.Rows L2
/-- how much of u is found when v is walked -/
def gpart (u : List Nat) : Nat → List Nat → Nat
  | m, [] => m
  | m, x :: v => gpart u (if u[m]? = some x then m + 1 else m) v
theorem gpart_snoc {u : List Nat} {x : Nat} : ∀ {v : List Nat} {m : Nat}, gpart u m (v ++ [x]) = if u[gpart u m v]? = some x then gpart u m v + 1 else gpart u m v
  | [], _ => rfl
  | y :: v, m => gpart_snoc (v := v)
theorem gpart_le {u : List Nat} : ∀ {v : List Nat} {m : Nat}, m ≤ u.length → gpart u m v ≤ u.length
  | [], _, h => h
  | x :: v, m, h => by
    refine gpart_le (v := v) ?_
    by_cases e : u[m]? = some x
    · rw [if_pos e]
      exact (List.getElem?_eq_some_iff.mp e).1
    · rw [if_neg e]
      exact h
theorem gpart_iff {u : List Nat} : ∀ {v : List Nat} {m : Nat}, m ≤ u.length → (gpart u m v = u.length ↔ (u.drop m).Sublist v)
  | [], m, h => by
    show m = u.length ↔ _
    rw [List.sublist_nil, List.drop_eq_nil_iff]
    omega
  | x :: v, m, h => by
    show gpart u (if u[m]? = some x then m + 1 else m) v = u.length ↔ _
    by_cases e : u[m]? = some x
    · rw [if_pos e]
      have hlt := (List.getElem?_eq_some_iff.mp e).1
      rw [gpart_iff (v := v) hlt]
      have e2 : u.drop m = x :: u.drop (m + 1) := by
        rw [List.drop_eq_getElem_cons hlt]
        rw [List.getElem?_eq_getElem hlt] at e
        rw [Option.some.inj e]
      rw [e2, List.cons_sublist_cons]
    · rw [if_neg e, gpart_iff (v := v) h]
      refine ⟨fun z => z.cons x, fun z => ?_⟩
      cases hd : u.drop m with
      | nil => exact List.nil_sublist v
      | cons y r =>
        rw [hd] at z
        have hy : y ≠ x := fun q => by
          refine e ?_
          have q2 : (u.drop m)[0]? = some y := by rw [hd] <;> rfl
          rw [List.getElem?_drop, Nat.add_zero] at q2
          rw [q2, q]
        cases z with
        | cons _ z => exact z
        | cons_cons _ z => exact absurd rfl hy
theorem gpart_all {u v : List Nat} : gpart u 0 v = u.length ↔ u.Sublist v := by
  have z := gpart_iff (u := u) (v := v) (Nat.zero_le _)
  rwa [List.drop_zero] at z
/-! ### kept commands -/
section
variable {c n : Nat} {δ : List (List Nat)} {w : List Nat}
def chg (δ : List (List Nat)) (w : List Nat) (k : Nat) : Bool := decide (kerM δ (w.drop k) ≠ kerM δ (w.drop (k + 1)))
def keptM (δ : List (List Nat)) (w : List Nat) : List Nat := (List.range w.length).filter (chg δ w)
def keptD (δ : List (List Nat)) (w : List Nat) (i : Nat) : List Nat := ((List.range i).map fun t => w.length - 1 - t).filter (chg δ w)
theorem keptD_succ (i : Nat) : keptD δ w (i + 1) = keptD δ w i ++ (if chg δ w (w.length - 1 - i) = true then [w.length - 1 - i] else []) := by
  unfold keptD
  rw [List.range_succ, List.map_append, List.filter_append]
  congr 1
  show List.filter (chg δ w) [w.length - 1 - i] = _
  by_cases h : chg δ w (w.length - 1 - i) = true
  · rw [if_pos h, List.filter_cons_of_pos h] <;> rfl
  · rw [if_neg h, List.filter_cons_of_neg h] <;> rfl
theorem rev_range (n : Nat) : ((List.range n).map fun t => n - 1 - t).reverse = List.range n := by
  refine List.ext_getElem? fun i => ?_
  by_cases h : i < n
  · rw [List.getElem?_reverse (by rw [List.length_map, List.length_range]; exact h), List.length_map, List.length_range, List.getElem?_map, List.getElem?_range (by omega), List.getElem?_range h]
    show some (n - 1 - (n - 1 - i)) = some i
    congr 1
    omega
  · rw [List.getElem?_eq_none (by rw [List.length_reverse, List.length_map, List.length_range]; omega), List.getElem?_eq_none (by rw [List.length_range]; omega)]
theorem keptD_all : (keptD δ w w.length).reverse = keptM δ w := by
  unfold keptD keptM
  rw [← List.filter_reverse, rev_range]
theorem keptM_lt : ∀ k ∈ keptM δ w, k < w.length := fun k hk => List.mem_range.mp (List.mem_filter.mp hk).1
theorem keptM_asc : (keptM δ w).Pairwise (· < ·) := List.Pairwise.filter _ List.pairwise_lt_range
/-- .. from j on -/
def keptF (δ : List (List Nat)) (w : List Nat) (j : Nat) : List Nat := (List.range' j (w.length - j)).filter (chg δ w)
theorem keptF_zero : keptF δ w 0 = keptM δ w := by
  unfold keptF keptM
  rw [List.range_eq_range', Nat.sub_zero]
theorem keptF_end : keptF δ w w.length = [] := by
  unfold keptF
  rw [Nat.sub_self] <;> rfl
theorem keptF_step {j : Nat} (h : j < w.length) : keptF δ w j = if chg δ w j = true then j :: keptF δ w (j + 1) else keptF δ w (j + 1) := by
  unfold keptF
  rw [show w.length - j = (w.length - (j + 1)) + 1 by omega, List.range'_succ]
  by_cases q : chg δ w j = true
  · rw [if_pos q, List.filter_cons_of_pos q]
  · rw [if_neg q, List.filter_cons_of_neg q]
theorem drop_at {j : Nat} (h : j < w.length) : w.drop j = w.getD j 0 :: w.drop (j + 1) := by
  rw [List.drop_eq_getElem_cons h, List.getD_eq_getElem?_getD, List.getElem?_eq_getElem h] <;> rfl
/-- the commands at some places -/
def atW (w : List Nat) (ks : List Nat) : List Nat := ks.map fun k => w.getD k 0
theorem keptF_ker (W : WF c n δ) (hw : Word c w) : ∀ (i j : Nat), i + j = w.length → kerM δ (atW w (keptF δ w j)) = kerM δ (w.drop j)
  | 0, j, e => by
    have e' : j = w.length := by omega
    rw [e', keptF_end, List.drop_length] <;> rfl
  | i + 1, j, e => by
    have hj : j < w.length := by omega
    have ih := keptF_ker W hw i (j + 1) (by omega)
    have hx : w.getD j 0 < c := by
      rw [List.getD_eq_getElem?_getD, List.getElem?_eq_getElem hj]
      exact hw _ (List.getElem_mem hj)
    rw [keptF_step hj]
    by_cases q : chg δ w j = true
    · rw [if_pos q]
      show kerM δ (w.getD j 0 :: atW w (keptF δ w (j + 1))) = _
      rw [← ahead_ker W hx, ih, ahead_ker W hx, drop_at hj]
    · rw [if_neg q, ih]
      unfold chg at q
      rw [decide_eq_true_iff, Classical.not_not] at q
      exact q.symm
theorem kept_ker (W : WF c n δ) (hw : Word c w) : kerM δ (atW w (keptM δ w)) = kerM δ w := by
  have z := keptF_ker W hw w.length 0 (Nat.add_zero _)
  rwa [keptF_zero, List.drop_zero] at z
theorem cls_all (w : List Nat) : cls n δ w ≤ n := by
  unfold cls
  have z := List.length_filter_le (fun s => decide (rep δ w s = s)) (List.range n)
  rwa [List.length_range] at z
theorem keptF_len (W : WF c n δ) (hb : ¬ BlindM δ c) (hw : Word c w) : ∀ (i j : Nat), i + j = w.length → (keptF δ w j).length + cls n δ (w.drop j) ≤ n
  | 0, j, e => by
    have e' : j = w.length := by omega
    rw [e', keptF_end]
    have z := cls_all (δ := δ) (n := n) (w.drop w.length)
    show 0 + _ ≤ n
    omega
  | i + 1, j, e => by
    have hj : j < w.length := by omega
    have ih := keptF_len W hb hw i (j + 1) (by omega)
    have hx : w.getD j 0 < c := by
      rw [List.getD_eq_getElem?_getD, List.getElem?_eq_getElem hj]
      exact hw _ (List.getElem_mem hj)
    have hco : Coarse δ n (w.drop (j + 1)) (w.drop j) := by
      rw [drop_at hj]
      exact calm_cons W hb hx fun y hy => hw y (List.mem_of_mem_drop hy)
    rw [keptF_step hj]
    by_cases q : chg δ w j = true
    · rw [if_pos q]
      unfold chg at q
      have z := cls_lt W hco (Ne.symm (of_decide_eq_true q))
      show (keptF δ w (j + 1)).length + 1 + _ ≤ n
      omega
    · rw [if_neg q]
      have z := cls_le W hco
      omega
theorem kept_len (W : WF c n δ) (hb : ¬ BlindM δ c) (hw : Word c w) : (keptM δ w).length + cls n δ w ≤ n := by
  have z := keptF_len W hb hw w.length 0 (Nat.add_zero _)
  rwa [keptF_zero, List.drop_zero] at z
end
end K11

set_option Elab.async false
set_option linter.all false
set_option maxRecDepth 100000
set_option maxHeartbeats 4000000
/-! is_part, is_places, kept_of_power, kept_commands, is_enough. -/
namespace K11
open PySem PySem.Spec PyProof.Rows L2
theorem map_nD_inj {a b : List Nat} (h : a.map nD = b.map nD) : a = b := nkeys_nat (congrArg nkeys h)
theorem rowOk_inj {c : Nat} {d : PyData} {u v : List Nat} (h : RowOk c d u) (k : RowOk c d v) : u = v := by
  obtain ⟨h1, _⟩ := h
  obtain ⟨k1, _⟩ := k
  rcases h1 with h1 | h1 <;> rcases k1 with k1 | k1
  · rw [h1] at k1
    injection k1 with k1
    exact map_nD_inj k1
  · rw [h1] at k1
    cases k1
  · rw [h1] at k1
    cases k1
  · rw [h1] at k1
    injection k1 with k1
    exact map_nD_inj k1
theorem rowBad_not {c k : Nat} {d : PyData} {w : List Nat} (h : RowOk c d w) (b : RowBad c d k) : False := by
  rcases b with ⟨b, _⟩ | ⟨ds, hd, ⟨x, hx, hb⟩, _⟩
  · rcases h.1 with z | z
    · rw [z] at b
      cases b
    · rw [z] at b
      cases b
  · have e : ds = w.map nD := by
      rcases h.1 with z | z <;> rcases hd with y | y
      · rw [y] at z
        injection z
      · rw [y] at z
        cases z
      · rw [y] at z
        cases z
      · rw [y] at z
        injection z
    rw [e, List.getElem?_map] at hx
    cases hk : w[k]? with
    | none =>
      rw [hk] at hx
      cases hx
    | some t =>
      rw [hk] at hx
      cases hx
      rw [isIx_nD (h.2 t (List.mem_of_getElem? hk))] at hb
      cases hb
theorem ErrS.ofB {K : PySem.W.Frag} {w : World} {c : Nat} {δ : List (List Nat)} {d : Addr} {F H F1 H1 : Hp} {E : XK} {x : Str} {v : V} (e : ErrS K w c δ d F H E x v) (st : Stp [d, tabA K] F H F1 H1) (N : Sta K w F1 H1 c δ d) : ErrB K F1 H1 E x v := fun dx F' H' s hx => e dx F' H' (st.trans s.up) hx (N.step0 s)
theorem ErrS.of {K : PySem.W.Frag} {w : World} {c : Nat} {δ : List (List Nat)} {d : Addr} {F H F1 H1 : Hp} {E : XK} {x : Str} {v : V} (e : ErrS K w c δ d F H E x v) (st : Stp [d, tabA K] F H F1 H1) : ErrS K w c δ d F1 H1 E x v := fun dx F' H' s hx N => e dx F' H' (st.trans s) hx N
theorem great_top {c n : Nat} {δ : List (List Nat)} {v : List Nat} (W : WF c n δ) (G : GreatW δ c v) : ∀ {w : List Nat}, Word c w → kerM δ (w ++ v) = kerM δ v
  | [], _ => rfl
  | x :: w, hw => by
    have hx := hw x List.mem_cons_self
    show kerM δ (x :: (w ++ v)) = _
    rw [← ahead_ker W hx, great_top W G fun y hy => hw y (List.mem_cons_of_mem _ hy), G.2 x hx]
theorem great_coarse {c n : Nat} {δ : List (List Nat)} {v w : List Nat} (W : WF c n δ) (G : GreatW δ c v) (hw : Word c w) : Coarse δ n w v := (coarse_app W w v).trans ((ker_eq W).mp (great_top W G hw)).1
theorem great_cls {c n : Nat} {δ : List (List Nat)} {u v : List Nat} (W : WF c n δ) (G : GreatW δ c u) (G2 : GreatW δ c v) : cls n δ u = cls n δ v := Nat.le_antisymm (cls_le W (great_coarse W G G2.1)) (cls_le W (great_coarse W G2 G.1))
theorem asc_iff : ∀ {ks : List Nat}, (∀ j, j + 1 < ks.length → ks.getD j 0 < ks.getD (j + 1) 0) ↔ ks.Pairwise (· < ·)
  | [] => ⟨fun _ => .nil, fun _ j h => absurd h (Nat.not_lt_zero _)⟩
  | [x] => ⟨fun _ => List.pairwise_singleton _ x, fun _ j h => absurd h (by show ¬ j + 1 < 1; omega)⟩
  | x :: y :: r => by
    have ih := asc_iff (ks := y :: r)
    constructor
    · intro h
      have h1 := ih.mp fun j hj => h (j + 1) (by show j + 1 + 1 < (y :: r).length + 1; omega)
      have h0 : x < y := h 0 (by show 0 + 1 < r.length + 1 + 1; omega)
      refine List.pairwise_cons.mpr ⟨fun z hz => ?_, h1⟩
      cases hz with
      | head => exact h0
      | tail _ hz => exact Nat.lt_trans h0 ((List.pairwise_cons.mp h1).1 z hz)
    · intro h j hj
      obtain ⟨h1, h2⟩ := List.pairwise_cons.mp h
      cases j with
      | zero => exact h1 y List.mem_cons_self
      | succ j => exact ih.mpr h2 j (by have z : j + 1 + 1 < (y :: r).length + 1 := hj; omega)
def spPart (K : PySem.W.Frag) : Sp := fun vs H Q _ => ∃ (F : Hp) (a b : Addr) (u v : List Nat), vs = [.ref a, .ref b] ∧ Same F H ∧ SeqB K F a (u.map vN) ∧ SeqB K F b (v.map vN) ∧ Q (.bl (decide (u.Sublist v))) H
def IsPl (d : PyData) (m : Nat) : Prop := ∃ ks : List Nat, d = tN ks ∧ (∀ k ∈ ks, k < m) ∧ ks.Pairwise (· < ·)
def spPl (K : PySem.W.Frag) : Sp := fun vs H Q _ => ∃ (F : Hp) (v : V) (d : PyData) (m : Nat), vs = [v, vN m] ∧ Same F H ∧ Any K F v d ∧ (∀ ds, d = .tuple ds → ds.length ≤ 1000) ∧ Back [] F H Q fun r _ _ => ∃ b, r = .bl b ∧ (b = true ↔ IsPl d m)
section
variable {P : Program} {w : World} {K : PySem.W.Frag} {mg : Str → Option Value} {base : Heap}
theorem sc_is_part : FnScope ["one", "other", "many", "command"] ["one", "other"] (defScope s_is_part) := ⟨rfl, rfl, rfl, by decide +kernel, rfl, by decide +kernel, by decide +kernel⟩
theorem bn_is_part : BindN d_is_part ["one", "other"] := fun _ _ _ _ _ _ us hl => match us, hl with | [_, _], _ => rfl
theorem ok_is_part (T : Top P w K mg base) : Cal P w K mg base d_is_part "is_part" 1 ["one", "other"] (spPart K) := by
  refine T.cal 24 21 rfl rfl rfl rfl rfl sc_is_part bn_is_part (fun vs H Q E h => ?_) fun f cdv A outer s H vs Q E hr h => ?_
  · obtain ⟨_, _, _, _, _, rfl, _⟩ := h
    rfl
  have nd := (sc_is_part).nd
  refine ⟨_, (pss_cons (ps_set (i := 2) nd rfl (.inl rfl) pe_int)
    (pss_cons (ps_for (passes_of rfl) rfl (pi_either (pi_list (pv 1)) (pi_tup (pv 1))) (pg_name (i := 3) nd rfl (.inl rfl))
      (pss_one (ps_if (pw_and (pt_cmpR op_lt (pv 2) (pe_callB cl_len (by rfl) T.n_len bt_len (pa_cons (pv 0) pa_nil)) (nomark _)) (pw_and1 (pt_cmpR op_eq (pe_ix ix_both (pv 0) (pv 2) (fun _ _ => rfl)) (pv 3) (nomark _)))).pt
      (pss_one (ps_aug (i := 2) nd rfl (.inl rfl) pe_int ip_add))
      pss_nil)))
    (pss_one (ps_ret (pe_cmpR op_eq (pv 2) (pe_callB cl_len (by rfl) T.n_len bt_len (pa_cons (pv 0) pa_nil)) (nomark _)))))), ?_⟩
  obtain ⟨F, a, b, u, v, rfl, hF, hu, hv, q⟩ := h
  refine either_srcB hv hF rfl fun J src => for_do src (fun i σ H' => H' = H ∧ ∃ y, σ = [some (.ref a), some (.ref b), some (vN (gpart u 0 (v.take i))), y]) (fun i σ H' h => by rw [h.1]; exact hF) ⟨rfl, none, rfl⟩ (fun i x σ H' hi hx hp => ?_) fun σ H' hp => ?_
  · obtain ⟨rfl, y, rfl⟩ := hp
    obtain ⟨z, hz, rfl⟩ := vN_at hx
    have hle := gpart_le (u := u) (v := v.take i) (Nat.zero_le _)
    have hsn : gpart u 0 (v.take (i + 1)) = if u[gpart u 0 (v.take i)]? = some z then gpart u 0 (v.take i) + 1 else gpart u 0 (v.take i) := by
      rw [take_snoc hz]
      exact gpart_snoc
    generalize gpart u 0 (v.take i) = mm at hle hsn
    refine ⟨vN mm, rfl, .ref a, rfl, a, _, rfl, hu.up hF, _, _, rfl, rfl, _, rfl, ?_⟩
    by_cases hm : mm < u.length
    · have e1 : decide ((mm : Int) < ((u.map vN).length : Nat)) = true := decide_eq_true (by rw [List.length_map]; exact Int.ofNat_lt.mpr hm)
      have e2 : (u.map vN)[mm]? = some (vN u[mm]) := by rw [List.getElem?_map, List.getElem?_eq_getElem hm] <;> rfl
      have e3 : u[mm]? = some u[mm] := List.getElem?_eq_getElem hm
      generalize u[mm] = um at e2 e3
      rw [e1]
      have key : ∀ Q : VK, Q (vN um) H' → rIxB K (.ref a) (vN mm) H' Q := fun Q q => hu.elim (fun z => ixB_l (same_l hF z) e2 q) fun z => ixB_t (same_t hF z) e2 q
      refine iteT ⟨.ref a, rfl, vN mm, rfl, key _ ⟨vN z, rfl, rfl, _, rfl, ?_⟩⟩
      by_cases hz2 : um = z
      · have e4 : decide (vN um = vN z) = true := decide_eq_true (by rw [hz2])
        rw [e4]
        refine iteT ⟨vN mm, rfl, _, _, rfl, rfl, rfl, some (vN z), ?_⟩
        rw [hsn, e3, hz2, if_pos rfl] <;> rfl
      · have e4 : decide (vN um = vN z) = false := decide_eq_false fun e => hz2 (by injection e with e; exact Int.ofNat_inj.mp e)
        rw [e4]
        refine iteF ⟨rfl, some (vN z), ?_⟩
        rw [hsn, e3, if_neg fun e => hz2 (Option.some.inj e)] <;> rfl
    · have e1 : decide ((mm : Int) < ((u.map vN).length : Nat)) = false := decide_eq_false (by rw [List.length_map]; intro z; exact hm (Int.ofNat_lt.mp z))
      rw [e1]
      refine iteF (iteF ⟨rfl, some (vN z), ?_⟩)
      rw [hsn, List.getElem?_eq_none (by omega), if_neg fun e => by cases e] <;> rfl
  · obtain ⟨rfl, y, rfl⟩ := hp
    refine ⟨_, rfl, .ref a, rfl, a, _, rfl, hu.up hF, rfl, ?_⟩
    rw [List.length_map, List.take_length]
    have e : decide (vN (gpart u 0 v) = V.int ((u.map vN).length : Nat)) = decide (u.Sublist v) := by
      rw [decide_eq_decide, ← gpart_all, List.length_map]
      constructor
      · intro e
        injection e with e
        exact Int.ofNat_inj.mp e
      · intro e
        rw [e]
    rw [e]
    exact q


theorem sc_is_places : FnScope ["value", "many", "at", "k"] ["value", "many"] (defScope s_is_places) := ⟨rfl, rfl, rfl, by decide +kernel, rfl, by decide +kernel, by decide +kernel⟩
theorem bn_is_places : BindN d_is_places ["value", "many"] := fun _ _ _ _ _ _ us hl => match us, hl with | [_, _], _ => rfl
theorem ok_is_places (T : Top P w K mg base) : Cal P w K mg base d_is_places "is_places" 4 ["value", "many"] (spPl K) := by
  refine T.cal 27 24 rfl rfl rfl rfl rfl sc_is_places bn_is_places (fun vs H Q E h => ?_) fun f cdv A outer s H vs Q E hr h => ?_
  · obtain ⟨_, _, _, _, rfl, _⟩ := h
    rfl
  have nd := (sc_is_places).nd
  refine ⟨_, (pss_cons (ps_if (pw_or (pt_not (pt_val (pe_callB call_isA (by rfl) T.n_isinstance bt_isinstance (pa_cons (pv 0) (pa_cons (pe_bltn (v := .ty "tuple") (by rfl) T.n_tuple bt_tuple rfl) pa_nil))))) (pw_or1 (pt_not (pt_val (pe_callB (cr_all rfl) (by rfl) T.n_all bt_all (pa_cons (pe_lc (own := [("at", 2)]) (g := (gName 2)) (tt := tYes) (te := (tCall (spIsIx K) [] C8.E0 (tCons (tVar 2) (tCons (tVar 1) tNil)))) rfl nd (pi_tup (pv 0)) (blkOk_by (by kernel_rfl)) (fun _ _ _ _ _ => (pg_name (i := 2) nd rfl (.inl rfl))) (fun _ _ _ _ _ => pts_nil) (fun _ _ _ _ _ => (pe_cal (ok_is_index T) hr (by decide) (by rfl) (pa_cons (pv 2) (pa_cons (pv 1) pa_nil))))) pa_nil)))))).pt
      (pss_one (ps_ret pe_bl))
      pss_nil)
    (pss_one (ps_ret (pe_callB (cr_all rfl) (by rfl) T.n_all bt_all (pa_cons (pe_lc (own := [("k", 3)]) (g := (gName 3)) (tt := tYes) (te := (tOp rLt_ (tOp (rIxB K) (tVar 0) (tOp rSub_ (tVar 3) (tC (.int 1)))) (tOp (rIxB K) (tVar 0) (tVar 3)))) rfl nd (pi_range2 (by rfl) T.n_range (pa_cons pe_int (pa_cons (pe_callB cl_len (by rfl) T.n_len bt_len (pa_cons (pv 0) pa_nil)) pa_nil))) (blkOk_by (by kernel_rfl)) (fun _ _ _ _ _ => (pg_name (i := 3) nd rfl (.inl rfl))) (fun _ _ _ _ _ => pts_nil) (fun _ _ _ _ _ => (pe_cmpR op_lt (pe_ix ix_both (pv 0) (pe_op op_sub (pv 3) pe_int) (fun _ _ => rfl)) (pe_ix ix_both (pv 0) (pv 3) (fun _ _ => rfl)) (nomark _)))) pa_nil))))), ?_⟩
  obtain ⟨F, v, d, m, rfl, hF, hv, hlen, q⟩ := h
  refine ⟨v, rfl, v, d, "tuple", rfl, rfl, hv.up hF, ?_⟩
  refine ⟨_, rfl, ?_⟩
  have no : (∀ ds, d ≠ .tuple ds) → ¬ IsPl d m := fun h z => by
    obtain ⟨ks, e, _⟩ := z
    exact h _ e
  by_cases ht : ∃ ds, d = .tuple ds
  · obtain ⟨ds, rfl⟩ := ht
    have e1 : isTy (.tuple ds) "tuple" = true := by rw [isTy_tuple]
    rw [e1]
    obtain ⟨b, xs, rfl, hb, hall⟩ : ∃ b xs, v = .ref b ∧ SqT K F b xs ∧ DpAll K F xs ds := by
      cases hv with
      | d h => exact h.tup_inv
    have hl := hlen ds rfl
    have hxl : xs.length = ds.length := hall.len
    refine iteF ⟨.ref b, rfl, b, rfl, ⟨_, same_t hF hb⟩, ?_⟩
    refine lc_do (S := []) (src_t hb) hF (fun a h => by cases h) (by rw [sizeLine_eq]; omega) (fun i acc _ _ => acc = (ds.take i).map fun x => V.bl (isIx x m)) rfl (fun i y acc F2 H2 hi hy st2 hp Y N hY hN => ?_) fun D acc F2 H2 st2 hD mu hl2 hp => ?_
    · have hin : i < ds.length := by omega
      have ei : ds[i]? = some ds[i] := List.getElem?_eq_getElem hin
      refine ⟨rfl, lc_yes ⟨y, rfl, vN m, rfl, F2, y, ds[i], m, rfl, st2.fh, .d ((hall.at hy ei).up st2.ff), fun r F3 H3 st3 hr => ?_⟩⟩
      refine hY _ F3 H3 st3 ?_
      rw [hp, hr, take_snoc ei, List.map_append] <;> rfl
    · refine ⟨D, ds.map fun x => isIx x m, rfl, .inl (.inl ?_), _, rfl, ?_⟩
      · rw [mu.at_, hp, hxl, List.take_length, List.map_map] <;> rfl
      · cases ha : (ds.map fun x => isIx x m).all id with
        | false =>
          refine iteT (q (.bl false) F2 H2 st2 ⟨false, rfl, fun z => (by cases z), fun z => ?_⟩)
          obtain ⟨ks, e, h1, _⟩ := z
          injection e with e
          exfalso
          have z : (ds.map fun x => isIx x m).all id = true := by
            rw [List.all_eq_true]
            intro t ht
            obtain ⟨x, hx, rfl⟩ := List.mem_map.mp ht
            rw [e] at hx
            obtain ⟨k, hk, rfl⟩ := List.mem_map.mp hx
            exact isIx_nD (h1 k hk)
          rw [ha] at z
          cases z
        | true =>
          refine iteF ?_
          obtain ⟨ks, rfl, hks⟩ := all_ix (c := m) (ds := ds) fun x hx => List.all_eq_true.mp ha _ (List.mem_map.mpr ⟨x, hx, rfl⟩)
          have hb2 := same_t st2.ff hb
          have exs : xs = ks.map vN := all_nats_inv hall
          subst exs
          rw [List.length_map] at hxl hl
          refine ⟨.ref b, rfl, b, _, rfl, .inr (same_t st2.fh hb2), 1, _, rfl, ⟨by decide, by decide, by rw [List.length_map]; omega, by rw [List.length_map]; omega⟩, ?_⟩
          have eL : (((ks.map vN).length : Nat) - 1 : Int).toNat = ks.length - 1 := by rw [List.length_map]; omega
          rw [eL]
          have key : ∀ (j : Nat) (F' H' : Hp) (Y : VK), j < ks.length → Same F2 F' → Same F' H' → Y (vN (ks.getD j 0)) H' → rIxB K (.ref b) (vN j) H' Y := fun j F' H' Y hj e1 e2 y => ixB_t (same_t (e1.trans e2) hb2) (by rw [List.getElem?_map, getD_some hj] <;> rfl) y
          refine lc_do (S := []) (src_r (F := F2)) st2.fh (fun a h => by cases h) (by rw [sizeLine_eq]; omega) (fun i acc _ _ => acc = (List.range i).map fun j => V.bl (decide (ks.getD j 0 < ks.getD (j + 1) 0))) rfl (fun i y acc F3 H3 hi hy st3 hp Y N hY hN => ?_) fun D acc F3 H3 st3 hD mu hl2 hp => ?_
          · have hy' : y = vN (i + 1) := by
              rw [hy]
              show V.int (1 + (i : Int)) = V.int ((i + 1 : Nat) : Int)
              congr 1
              omega
            subst hy'
            refine ⟨rfl, lc_yes ⟨.ref b, rfl, vN (i + 1), rfl, _, _, rfl, rfl, ?_⟩⟩
            show rIxB K (.ref b) (.int (((i + 1 : Nat) : Int) - 1)) H3 _
            rw [show ((i + 1 : Nat) : Int) - 1 = ((i : Nat) : Int) by omega]
            refine key i F3 H3 _ (by omega) st3.ff st3.fh ⟨.ref b, rfl, vN (i + 1), rfl, key (i + 1) F3 H3 _ (by omega) st3.ff st3.fh ⟨_, _, rfl, rfl, ?_⟩⟩
            refine hY _ F3 H3 (Stp.refl st3.fh) ?_
            rw [hp, List.range_succ, List.map_append]
            congr 1
            show [V.bl _] = [V.bl _]
            congr 2
            rw [decide_eq_decide]
            exact Int.ofNat_lt
          · refine ⟨D, (List.range (ks.length - 1)).map fun j => decide (ks.getD j 0 < ks.getD (j + 1) 0), rfl, .inl (.inl ?_), ?_⟩
            · rw [mu.at_, hp, List.map_map] <;> rfl
            · refine q _ F3 H3 (st2.trans st3) ⟨_, rfl, ?_⟩
              rw [List.all_eq_true]
              constructor
              · intro h
                refine ⟨ks, rfl, hks, asc_iff.mp fun j hj => ?_⟩
                exact of_decide_eq_true (h _ (List.mem_map.mpr ⟨j, List.mem_range.mpr (by omega), rfl⟩))
              · rintro ⟨ks2, e, _, h⟩ t ht
                injection e with e
                have e := map_nD_inj e
                subst e
                obtain ⟨j, hj, rfl⟩ := List.mem_map.mp ht
                have hj := List.mem_range.mp hj
                exact decide_eq_true (asc_iff.mpr h j (by omega))
  · have e1 : isTy d "tuple" = false := by
      rw [isTy_tuple]
      cases d with
      | tuple ds => exact absurd ⟨_, rfl⟩ ht
      | _ => rfl
    rw [e1]
    exact iteT (iteT (q (.bl false) F H (Stp.refl hF) ⟨false, rfl, fun z => (by cases z), fun z => absurd z (no fun ds e => ht ⟨ds, e⟩)⟩))

end
end K11


set_option Elab.async false
set_option linter.all false
set_option maxRecDepth 100000
set_option maxHeartbeats 4000000
/-! kept_of_power, kept_commands, is_enough. -/
namespace K11
open PySem PySem.Spec PyProof.Rows L2
/-- what a row's asking leaves -/
def AskR (K : PySem.W.Frag) (w : World) (F H : Hp) (c : Nat) (δ : List (List Nat)) (d0 : Addr) (d : PyData) (Q : VK) (E : XK) (R : List Nat → V → Hp → Prop) : Prop :=
  (BlindM δ c → ErrS K w c δ d0 F H E "Blind" (vN 0)) ∧ (¬ BlindM δ c → (∀ w1, RowOk c d w1 → Back [d0, tabA K] F H Q fun r F' H' => R w1 r F' ∧ Sta K w F' H' c δ d0) ∧ ∀ k, RowBad c d k → ErrS K w c δ d0 F H E "InvalidRow" (vN k))
def spKeptP (K : PySem.W.Frag) (w : World) : Sp := fun vs H Q E => ∃ (F : Hp) (m v : V) (c n : Nat) (δ : List (List Nat)) (d0 : Addr) (d : PyData), vs = [m, v, vN 1] ∧ Same F H ∧ Mach K F m c n δ d0 ∧ Sta K w F H c δ d0 ∧ Any K F v d ∧ (∀ w1, RowOk c d w1 → w1.length ≤ 1000) ∧ AskR K w F H c δ d0 d Q E fun w1 r F' => Dp K F' r (tN (keptM δ w1))
def spKept (K : PySem.W.Frag) (w : World) : Sp := fun vs H Q E => ∃ (F : Hp) (m v : V) (c n : Nat) (δ : List (List Nat)) (d0 : Addr) (d : PyData), vs = [m, v] ∧ Same F H ∧ Mach K F m c n δ d0 ∧ Sta K w F H c δ d0 ∧ Any K F v d ∧ (∀ w1, RowOk c d w1 → w1.length ≤ 1000) ∧ AskR K w F H c δ d0 d Q E fun w1 r F' => Dp K F' r (tN (keptM δ w1))
def Enough (δ : List (List Nat)) (n : Nat) (w v : List Nat) (d : PyData) : Prop := ∃ ks : List Nat, d = tN ks ∧ (∀ k ∈ ks, k < w.length) ∧ ks.Pairwise (· < ·) ∧ ks.length + cls n δ v ≤ n ∧ kerM δ (atW w ks) = kerM δ w
def spEnough (K : PySem.W.Frag) (w : World) : Sp := fun vs H Q E => ∃ (F : Hp) (m v v2 : V) (c n : Nat) (δ : List (List Nat)) (d0 : Addr) (d d2 : PyData), vs = [m, v, v2] ∧ Same F H ∧ Mach K F m c n δ d0 ∧ Sta K w F H c δ d0 ∧ Any K F v d ∧ (∀ w1, RowOk c d w1 → w1.length ≤ 1000) ∧ Any K F v2 d2 ∧ (∀ ds, d2 = .tuple ds → ds.length ≤ 1000) ∧
  AskR K w F H c δ d0 d Q E fun w1 r _ => ∃ b, r = .bl b ∧ ∀ g, GreatW δ c g → (b = true ↔ Enough δ n w1 g d2)
theorem src_c {F : Hp} {lo c : Int} {n : Nat} : Src F (Itc lo c n) n fun i x => x = .int (lo + (i : Nat) * c) := ⟨fun i H _ hi => hi, fun i H _ hi => hi, fun i H x H' _ y => y⟩
section
variable {P : Program} {w : World} {K : PySem.W.Frag} {mg : Str → Option Value} {base : Heap}
theorem sc_kept_of_power : FnScope ["machine", "row", "times", "some", "one", "found", "left", "before", "at", "longer"] ["machine", "row", "times"] (defScope s_kept_of_power) := ⟨rfl, rfl, rfl, by decide +kernel, rfl, by decide +kernel, by decide +kernel⟩
theorem bn_kept_of_power : BindN d_kept_of_power ["machine", "row", "times"] := fun _ _ _ _ _ _ us hl => match us, hl with | [_, _, _], _ => rfl
theorem ok_kept_of_power (T : Top P w K mg base) : Cal P w K mg base d_kept_of_power "kept_of_power" 15 ["machine", "row", "times"] (spKeptP K w) := by
  refine T.cal 26 23 rfl rfl rfl rfl rfl sc_kept_of_power bn_kept_of_power (fun vs H Q E h => ?_) fun f cdv A outer s H vs Q E hr h => ?_
  · obtain ⟨_, _, _, _, _, _, _, _, rfl, _⟩ := h
    rfl
  have nd := (sc_kept_of_power).nd
  refine ⟨_, (pss_cons (ps_expr (pe_calE (E := E) (ok_refuse_blind T) hr (by decide) (passes_call (takes_of rfl rfl rfl rfl) fun _ _ _ _ h => h) (by rfl) (pa_cons (pv 0) pa_nil)))
    (pss_cons (ps_set (i := 3) nd rfl (.inl rfl) (pe_calE (E := E) (ok_checked_row T) hr (by decide) (passes_call (takes_of rfl rfl rfl rfl) fun _ _ _ _ h => h) (by rfl) (pa_cons (pv 0) (pa_cons (pv 1) pa_nil))))
    (pss_cons (ps_par3 (i := 4) (j := 5) (l := 6) rfl nd rfl rfl rfl (by decide) (by decide) (by decide) rfl rfl rfl (pa_cons (pe_cal (ok_idle T) hr (by decide) (by rfl) (pa_cons (pe_fld (pv 0) (by rfl)) pa_nil)) (pa_cons (pe_lst pa_nil) (pa_cons (pv 2) pa_nil))) (by rfl))
    (pss_cons (ps_while (passes_of rfl) (pt_cmpR op_gt (pv 6) pe_int (nomark _))
      (pss_cons (ps_aug (i := 6) nd rfl (.inl rfl) pe_int ip_sub)
    (pss_cons (ps_set (i := 7) nd rfl (.inl rfl) (pv 4))
    (pss_cons (ps_for (passes_of rfl) rfl (pi_range3 (by rfl) T.n_range (pa_cons (pe_op op_sub (pe_callB cl_len (by rfl) T.n_len bt_len (pa_cons (pv 3) pa_nil)) pe_int) (pa_cons (pe_un un_neg pe_int) (pa_cons (pe_un un_neg pe_int) pa_nil)))) (pg_name (i := 8) nd rfl (.inl rfl))
      (pss_cons (ps_set (i := 9) nd rfl (.inl rfl) (pe_cal (ok_ahead T) hr (by decide) (by rfl) (pa_cons (pv 0) (pa_cons (pe_ix ix_both (pv 3) (pv 8) (fun _ _ => rfl)) (pa_cons (pv 4) pa_nil)))))
    (pss_one (ps_if (pt_cmpR (op_neD hr.units) (pv 9) (pv 4) (nomark _))
      (pss_cons (ps_expr (pe_bm PySem.F.plainAttrs_list PySem.F.slot_list_append PySem.F.type_list_append mt_append (pv 5) (pa_cons (pe_op op_add (pe_op op_mul (pv 6) (pe_callB cl_len (by rfl) T.n_len bt_len (pa_cons (pv 3) pa_nil))) (pv 8)) pa_nil)))
    (pss_one (ps_set (i := 4) nd rfl (.inl rfl) (pv 9))))
      pss_nil))))
    (pss_one (ps_if (pt_cmpR (op_eqD hr.units) (pv 4) (pv 7) (nomark _))
      (pss_one (ps_set (i := 6) nd rfl (.inl rfl) pe_int))
      pss_nil))))))
    (pss_one (ps_ret (pe_callTy cl_tup (by rfl) T.n_tuple bt_tuple (pa_cons (pe_revL (pv 5)) pa_nil)))))))), ?_⟩
  obtain ⟨F, m, v, c, n, δ, d0, d, rfl, hF, M, N, hv, hwl, qb, qe⟩ := h
  have W := M.wf
  have hn := W.n6
  refine ⟨m, rfl, F, m, c, n, δ, d0, rfl, hF, M, N, fun hb r F1 H1 st1 N1 => ?_, qb⟩
  obtain ⟨q, qr⟩ := qe hb
  have M1 := M.up st1.ff
  refine ⟨m, rfl, v, rfl, F1, m, v, c, n, δ, d0, d, rfl, st1.fh, M1, hv.up st1.ff, fun w1 hw r F2 H2 st2 hr => ?_, fun k hk => (qr k hk).ofB st1 N1⟩
  replace q := q w1 hw
  have hlen := hwl w1 hw
  have N2 := N1.step0 st2
  have M2 := M1.up st2.ff
  replace st2 := st1.trans st2.up
  have hww : Word c w1 := hw.2
  refine ⟨m, rfl, fld_ex T.cls_ T.no_states (st2.ff.trans st2.fh) M.f_states ⟨F2, n, rfl, st2.fh, by omega, fun r3 F3 H3 st3 hr3 => ⟨Nat.zero_le _, fun l hl => ⟨vN 1, rfl, _, _, _, rfl, ?_⟩⟩⟩⟩
  rw [← ker_nil W] at hr3
  have N3 := N2.step0 st3
  have st3' := st2.trans st3.up
  have hlH : H l = none := st3'.none_ hl
  have st4 := st3'.trans (Stp.newM (o := .lst []) st3'.fh hl)
  have N4 : Sta K w F3 (upd H3 l (.lst [])) c δ d0 := N3.lstU (.inl hl)
  have mu4 : Mu F3 (upd H3 l (.lst [])) l (.lst []) := Mu.new st3'.fh hl
  refine ⟨fun k σ H' => ∃ lf : Nat, k = lf ∧ lf ≤ 1 ∧ ∃ F' v1 y7 y8 y9 xs, σ = [some m, some v, some (vN 1), some r, some v1, some (.ref l), some (vN lf), y7, y8, y9] ∧ Stp [d0, tabA K] F H F' H' ∧ Same F2 F' ∧ Sta K w F' H' c δ d0 ∧ Mu F' H' l (.lst xs) ∧ (lf = 1 → xs = [] ∧ Dp K F' v1 (tN (kerM δ []))) ∧ (lf = 0 → xs = (keptD δ w1 w1.length).map vN), ⟨1, 1, rfl, Nat.le_refl _, F3, r3, none, none, none, [], rfl, st4, st3.ff, N4, mu4, fun _ => ⟨rfl, hr3⟩, fun z => (by cases z)⟩, ?_⟩
  rintro k σ H5 ⟨lf, rfl, hlf, F5, v1, y7, y8, y9, xs, rfl, s5, e5, N5, mu5, hl1, hl0⟩
  refine ⟨vN k, rfl, _, _, rfl, rfl, _, rfl, ?_⟩
  have s2 : True := True.intro
  by_cases hk : k = 0
  · subst hk
    have hz : decide ((0 : Int) < ((0 : Nat) : Int)) = false := by decide
    rw [hz]
    have hxs := hl0 rfl
    refine iteF ⟨.ref l, rfl, l, xs, rfl, .inl (.inl mu5.at_), fun p hp => ⟨p, _, rfl, .inl ⟨.inl (.inl upd_same), fun p2 hp2 => ?_⟩⟩⟩
    have s6 := (s5.mlst (xs := xs.reverse) hp).tup (xs := xs.reverse) hp2
    have N6 := (N5.lstU (o := xs.reverse) (.inl hp)).step0 (Stp.new (o := .tup xs.reverse) (s5.mlst (xs := xs.reverse) hp).fh hp2)
    refine q _ _ _ s6 ⟨.of_tN (.inl (.inl ?_)), N6⟩
    rw [upd_same, hxs, ← List.map_reverse, keptD_all]
  · have hk1 : k = 1 := by omega
    subst hk1
    obtain ⟨rfl, dv1⟩ := hl1 rfl
    have hz : decide ((0 : Int) < ((1 : Nat) : Int)) = true := by decide
    rw [hz]
    refine iteT ⟨_, fun σ' H' h => h, ?_⟩
    obtain ⟨b, rfl, hb2⟩ := hr.tN_inv
    have hb5 := same_t e5 hb2
    have hrgc : RgC (((w1.map vN).length : Nat) - 1 : Int) (-1) (-1) w1.length := by
      have z := RgC.neg (i := ((w1.length : Nat) - 1 : Int)) (j := -1) (by omega) (by omega) (by decide) (by decide)
      rw [List.length_map]
      rw [show (((w1.length : Nat) - 1 : Int) - (-1)).toNat = w1.length by omega] at z
      exact z
    refine ⟨vN 1, rfl, _, _, rfl, rfl, v1, rfl, .ref b, rfl, b, _, rfl, .inr (same_t s5.fh hb5), _, _, rfl, rfl, 1, rfl, 1, rfl, _, _, _, w1.length, rfl, hrgc, ?_⟩
    refine for_do (src_c (F := F5)) (fun i σ H' => ∃ F' v1' y8 y9, σ = [some m, some v, some (vN 1), some (.ref b), some v1', some (.ref l), some (vN 0), some v1, y8, y9] ∧ Stp [d0, tabA K] F H F' H' ∧ Same F5 F' ∧ Sta K w F' H' c δ d0 ∧ Mu F' H' l (.lst ((keptD δ w1 i).map vN)) ∧ Dp K F' v1' (tN (kerM δ (w1.drop (w1.length - i))))) (fun i σ H' h => ?_) ⟨F5, v1, y8, y9, rfl, s5, Same.refl _, N5, mu5, by rw [Nat.sub_zero, List.drop_length]; exact dv1⟩ (fun i x σ H6 hi hx hp => ?_) fun σ H6 hp => ?_
    · obtain ⟨F', _, _, _, _, st, e, _⟩ := h
      exact e.trans st.fh
    · have hx' : x = vN (w1.length - 1 - i) := by
        rw [hx, List.length_map]
        show V.int _ = V.int _
        congr 1
        omega
      subst hx'
      obtain ⟨F6, v6, z8, z9, rfl, s6, e6, N6, mu6, dv6⟩ := hp
      have hat : w1.length - 1 - i < w1.length := by omega
      have e7 : w1.drop (w1.length - 1 - i) = w1.getD (w1.length - 1 - i) 0 :: w1.drop (w1.length - i) := by
        rw [drop_at hat, show w1.length - 1 - i + 1 = w1.length - i by omega]
      have hxc : w1.getD (w1.length - 1 - i) 0 < c := hww _ (List.mem_of_getElem? (getD_some hat))
      have dr : Dp K F6 (.ref b) (tN w1) := .of_tN (same_t e6 hb5)
      refine ⟨m, rfl, .ref b, rfl, vN (w1.length - 1 - i), rfl, ix_tN dr s6.fh (getD_some hat) ⟨v6, rfl, F6, m, c, n, δ, d0, _, v6, _, rfl, s6.fh, M.up s6.ff, hxc, dv6, ker_len W _, fun r7 F7 H7 s7 hr7 => ?_⟩⟩
      rw [ahead_ker W hxc, ← e7] at hr7
      have N7 := N6.step0 s7
      have mu7 := s7.mu0 mu6
      have dv7 := dv6.up s7.ff
      have e67 := e6.trans s7.ff
      have s67 := s6.trans s7.up
      refine ⟨r7, rfl, v6, rfl, _, _, hr7.up s67.fh, dv7.up s67.fh, shaped_tN _, shaped_tN _, _, rfl, ?_⟩
      rw [eqv_tN]
      have hch : chg δ w1 (w1.length - 1 - i) = !decide (kerM δ (w1.drop (w1.length - 1 - i)) = kerM δ (w1.drop (w1.length - i))) := by
        unfold chg
        rw [show w1.length - 1 - i + 1 = w1.length - i by omega, decide_not]
      rw [← hch]
      have hks := keptD_succ (δ := δ) (w := w1) i
      have eI : w1.length - (i + 1) = w1.length - 1 - i := by omega
      cases hc : chg δ w1 (w1.length - 1 - i) with
      | false =>
        refine iteF ⟨F7, v6, _, _, rfl, s67, e67, N7, ?_, ?_⟩
        · rw [hc, if_neg (by decide), List.append_nil] at hks
          rw [hks]
          exact mu7
        · rw [hc] at hch
          have hk : kerM δ (w1.drop (w1.length - 1 - i)) = kerM δ (w1.drop (w1.length - i)) := by
            cases hz : decide (kerM δ (w1.drop (w1.length - 1 - i)) = kerM δ (w1.drop (w1.length - i))) with
            | true => exact of_decide_eq_true hz
            | false =>
              rw [hz] at hch
              cases hch
          rw [eI, hk]
          exact dv7
      | true =>
        rw [hc, if_pos rfl] at hks
        have hkl : (keptD δ w1 i).length ≤ i := by
          unfold keptD
          have z := List.length_filter_le (chg δ w1) ((List.range i).map fun t => w1.length - 1 - t)
          rwa [List.length_map, List.length_range] at z
        refine iteT ⟨.ref l, rfl, .inl ⟨rfl, _, .inl (.inl mu7.at_)⟩, vN 0, rfl, .ref b, rfl, b, _, rfl, .inr (same_t (e67.trans s67.fh) hb5), _, _, rfl, rfl, .inl ⟨by decide, by decide⟩, vN (w1.length - 1 - i), rfl, _, _, rfl, rfl, ?_⟩
        have ev : ((0 : Nat) : Int) * ((List.map vN w1).length : Nat) + ((w1.length - 1 - i : Nat) : Int) = ((w1.length - 1 - i : Nat) : Int) := by rw [show ((0 : Nat) : Int) = 0 from rfl, Int.zero_mul, Int.zero_add]
        have hks2 : (keptD δ w1 (i + 1)).map vN = (keptD δ w1 i).map vN ++ [V.int (((0 : Nat) : Int) * ((List.map vN w1).length : Nat) + ((w1.length - 1 - i : Nat) : Int))] := by rw [hks, List.map_append, ev] <;> rfl
        refine ⟨l, _, _, rfl, rfl, mu7.at_, ?_, ?_⟩
        · rw [List.length_map, sizeLine_eq]
          omega
        · refine ⟨r7, rfl, F7, r7, _, _, rfl, s67.write (.inl hlH) mu7, e67, N7.lstU (.inr ⟨_, mu7.at_⟩), ?_, by rw [eI]; exact hr7⟩
          rw [hks2]
          exact mu7.wrote
    · obtain ⟨F6, v6, z8, z9, rfl, s6, e6, N6, mu6, dv6⟩ := hp
      have dv1' := dv1.up e6
      refine ⟨v6, rfl, v1, rfl, _, _, dv6.up s6.fh, dv1'.up s6.fh, shaped_tN _, shaped_tN _, _, rfl, ?_⟩
      cases PyData.eqv (tN (kerM δ (w1.drop (w1.length - w1.length)))) (tN (kerM δ [])) with
      | true => exact iteT ⟨0, (by decide), 0, rfl, (by decide), F6, v6, _, _, _, _, rfl, s6, e5.trans e6, N6, mu6, fun z => (by cases z), fun _ => rfl⟩
      | false => exact iteF ⟨0, (by decide), 0, rfl, (by decide), F6, v6, _, _, _, _, rfl, s6, e5.trans e6, N6, mu6, fun z => (by cases z), fun _ => rfl⟩

theorem sc_kept_commands : FnScope ["machine", "row"] ["machine", "row"] (defScope s_kept_commands) := ⟨rfl, rfl, rfl, by decide +kernel, rfl, by decide +kernel, by decide +kernel⟩
theorem bn_kept_commands : BindN d_kept_commands ["machine", "row"] := fun _ _ _ _ _ _ us hl => match us, hl with | [_, _], _ => rfl
theorem ok_kept_commands (T : Top P w K mg base) : Cal P w K mg base d_kept_commands "kept_commands" 16 ["machine", "row"] (spKept K w) := by
  refine T.cal 25 22 rfl rfl rfl rfl rfl sc_kept_commands bn_kept_commands (fun vs H Q E h => ?_) fun f cdv A outer s H vs Q E hr h => ?_
  · obtain ⟨_, _, _, _, _, _, _, _, rfl, _⟩ := h
    rfl
  have nd := (sc_kept_commands).nd
  refine ⟨_, (pss_one (ps_ret (pe_calE (E := E) (ok_kept_of_power T) hr (by decide) (passes_call (takes_of rfl rfl rfl rfl) fun _ _ _ _ h => h) (by rfl) (pa_cons (pv 0) (pa_cons (pv 1) (pa_cons pe_int pa_nil)))))), ?_⟩
  obtain ⟨F, m, v, c, n, δ, d0, d, rfl, hF, M, N, hv, hwl, q⟩ := h
  exact ⟨m, rfl, v, rfl, F, m, v, c, n, δ, d0, d, rfl, hF, M, N, hv, hwl, q⟩

theorem sc_is_enough : FnScope ["machine", "row", "value", "some", "at"] ["machine", "row", "value"] (defScope s_is_enough) := ⟨rfl, rfl, rfl, by decide +kernel, rfl, by decide +kernel, by decide +kernel⟩
theorem bn_is_enough : BindN d_is_enough ["machine", "row", "value"] := fun _ _ _ _ _ _ us hl => match us, hl with | [_, _, _], _ => rfl
theorem ok_is_enough (T : Top P w K mg base) : Cal P w K mg base d_is_enough "is_enough" 17 ["machine", "row", "value"] (spEnough K w) := by
  refine T.cal 28 25 rfl rfl rfl rfl rfl sc_is_enough bn_is_enough (fun vs H Q E h => ?_) fun f cdv A outer s H vs Q E hr h => ?_
  · obtain ⟨_, _, _, _, _, _, _, _, _, _, rfl, _⟩ := h
    rfl
  have nd := (sc_is_enough).nd
  refine ⟨_, (pss_cons (ps_expr (pe_calE (E := E) (ok_refuse_blind T) hr (by decide) (passes_call (takes_of rfl rfl rfl rfl) fun _ _ _ _ h => h) (by rfl) (pa_cons (pv 0) pa_nil)))
    (pss_cons (ps_set (i := 3) nd rfl (.inr rfl) (pe_calE (E := E) (ok_checked_row T) hr (by decide) (passes_call (takes_of rfl rfl rfl rfl) fun _ _ _ _ h => h) (by rfl) (pa_cons (pv 0) (pa_cons (pv 1) pa_nil))))
    (pss_cons (ps_if (pw_or (pt_not (pt_val (pe_cal (ok_is_places T) hr (by decide) (by rfl) (pa_cons (pv 2) (pa_cons (pe_callB cl_len (by rfl) T.n_len bt_len (pa_cons (pv 3) pa_nil)) pa_nil))))) (pw_or1 (pt_cmpR op_gt (pe_callB cl_len (by rfl) T.n_len bt_len (pa_cons (pv 2) pa_nil)) (pe_op op_sub (pe_fld (pv 0) (by rfl)) (pe_cal (ok_fewest_classes T) hr (by decide) (by rfl) (pa_cons (pv 0) pa_nil))) (nomark _)))).pt
      (pss_one (ps_ret pe_bl))
      pss_nil)
    (pss_one (ps_ret (pe_cmpR (op_eqD hr.units) (pe_cal (ok_kernel T) hr (by decide) (by rfl) (pa_cons (pv 0) (pa_cons (pe_lc (own := [("at", 4)]) (g := (gName 4)) (tt := tYes) (te := (tOp (rIxB K) (tVar 3) (tVar 4))) rfl nd (pi_tup (pv 2)) (blkOk_by (by kernel_rfl)) (fun _ _ _ _ _ => (pg_name (i := 4) nd rfl (.inl rfl))) (fun _ _ _ _ _ => pts_nil) (fun _ _ _ _ _ => (pe_ix ix_both (pv 3) (pv 4) (fun _ _ => rfl)))) pa_nil))) (pe_cal (ok_kernel T) hr (by decide) (by rfl) (pa_cons (pv 0) (pa_cons (pv 3) pa_nil))) (nomark _))))))), ?_⟩
  obtain ⟨F, m, v, v2, c, n, δ, d0, d, d2, rfl, hF, M, N, hv, hwl, hv2, hl2, qb, qe⟩ := h
  have W := M.wf
  have hn := W.n6
  refine ⟨m, rfl, F, m, c, n, δ, d0, rfl, hF, M, N, fun hb r F1 H1 st1 N1 => ?_, qb⟩
  obtain ⟨q, qr⟩ := qe hb
  have M1 := M.up st1.ff
  refine ⟨m, rfl, v, rfl, F1, m, v, c, n, δ, d0, d, rfl, st1.fh, M1, hv.up st1.ff, fun w1 hw r F2 H2 st2 hr => ?_, fun k hk => (qr k hk).ofB st1 N1⟩
  replace q := q w1 hw
  have hlen := hwl w1 hw
  have N2 := N1.step0 st2
  have M2 := M1.up st2.ff
  replace st2 := st1.trans st2.up
  have hww : Word c w1 := hw.2
  obtain ⟨b, rfl, hb2⟩ := hr.tN_inv
  refine ⟨v2, rfl, .ref b, rfl, b, _, rfl, .inr (same_t st2.fh hb2), F2, v2, d2, (w1.map vN).length, rfl, st2.fh, hv2.up st2.ff, hl2, fun r3 F3 H3 st3 hr3 => ?_⟩
  obtain ⟨p, rfl, hp⟩ := hr3
  rw [List.length_map] at hp
  have N3 := N2.step0 st3
  have e23 := st3.ff
  replace st3 := st2.trans st3.up
  refine ⟨_, rfl, ?_⟩
  cases p with
  | false =>
    refine iteT (iteT (q (.bl false) F3 H3 st3 ⟨⟨false, rfl, fun g hg => ⟨fun z => (by cases z), fun z => ?_⟩⟩, N3⟩))
    obtain ⟨ks, e1, e2, e3, _⟩ := z
    exact hp.mpr ⟨ks, e1, e2, e3⟩
  | true =>
    obtain ⟨ks, rfl, hk1, hk2⟩ := hp.mp rfl
    have hkl := hl2 _ rfl
    rw [List.length_map] at hkl
    obtain ⟨b2, rfl, hb3⟩ : ∃ b2, v2 = .ref b2 ∧ SqT K F b2 (ks.map vN) := by
      cases hv2 with
      | d h => exact h.tN_inv
    refine iteF ⟨.ref b2, rfl, b2, _, rfl, .inr (same_t (st3.ff.trans st3.fh) hb3), m, rfl, fld_ex T.cls_ T.no_states (st3.ff.trans st3.fh) M.f_states ⟨m, rfl, F3, m, c, n, δ, d0, rfl, st3.fh, M.up st3.ff, hb, N3, fun r4 F4 H4 st4 hr4 => ?_⟩⟩
    obtain ⟨⟨g, hg, rfl⟩, N4⟩ := hr4
    have hb24 := same_t (e23.trans st4.ff) hb2
    replace st4 := st3.trans st4
    refine ⟨_, _, rfl, rfl, _, _, rfl, rfl, _, rfl, ?_⟩
    have hcl := cls_all (δ := δ) (n := n) g
    by_cases hfew : ks.length + cls n δ g ≤ n
    · have e1 : decide (((n : Nat) : Int) - ((cls n δ g : Nat) : Int) < ((ks.map vN).length : Nat)) = false := decide_eq_false (by rw [List.length_map]; omega)
      rw [e1]
      refine iteF ?_
      have hb4 := same_t st4.ff hb3
      have dr : Dp K F4 (.ref b) (tN w1) := .of_tN hb24
      have hkk : (ks.map vN).length = ks.length := List.length_map ..
      refine ⟨m, rfl, .ref b2, rfl, b2, rfl, ⟨_, same_t st4.fh hb4⟩, ?_⟩
      refine lc_do (S := []) (src_t hb4) st4.fh (fun a h => by cases h) (by rw [sizeLine_eq, hkk]; omega) (fun i acc _ _ => acc = (atW w1 (ks.take i)).map vN) rfl (fun i y acc F5 H5 hi hy st5 hp5 Y N' hY hN => ?_) fun D acc F5 H5 st5 hD mu hl5 hp5 => ?_
      · obtain ⟨t, ht, rfl⟩ := vN_at hy
        refine ⟨rfl, lc_yes ⟨.ref b, rfl, vN t, rfl, ix_tN (dr.up st5.ff) st5.fh (getD_some (hk1 t (List.mem_of_getElem? ht))) (hY _ F5 H5 (Stp.refl st5.fh) ?_)⟩⟩
        rw [hp5, take_snoc ht]
        unfold atW
        rw [List.map_append, List.map_append] <;> rfl
      · rw [hkk, List.take_length] at hp5
        have hall : DpAll K F5 acc ((atW w1 ks).map nD) := by
          rw [hp5]
          exact all_nats _
        obtain ⟨s6, e6, d6⟩ := frz_l st5 hD mu hall
        generalize upd F5 D (.lst acc) = F6 at s6 e6 d6
        have hword : Word c (atW w1 ks) := fun x hx => by
          obtain ⟨k, hk, rfl⟩ := List.mem_map.mp hx
          exact hww _ (List.mem_of_getElem? (getD_some (hk1 k hk)))
        have s46 := st4.trans s6.up
        refine ⟨F6, m, .ref D, c, n, δ, d0, _, rfl, s6.fh, M.up s46.ff, .d d6, fun w' hw' r7 F7 H7 s7 hr7 => ?_, fun k hk => (rowBad_not ⟨.inl rfl, hword⟩ hk).elim⟩
        have e7 := rowOk_inj hw' ⟨.inl rfl, hword⟩
        subst e7
        have s47 := s46.trans s7.up
        have dr7 := (dr.up s6.ff).up s7.ff
        refine ⟨m, rfl, .ref b, rfl, F7, m, .ref b, c, n, δ, d0, _, rfl, s7.fh, M.up s47.ff, .d dr7, fun w' hw' r8 F8 H8 s8 hr8 => ?_, fun k hk => (rowBad_not ⟨.inr rfl, hww⟩ hk).elim⟩
        have e8 := rowOk_inj hw' ⟨.inr rfl, hww⟩
        subst e8
        have s48 := s47.trans s8.up
        have N8 := ((N4.step0 s6).step0 s7).step0 s8
        refine ⟨_, _, (hr7.up s8.ff).up s8.fh, hr8.up s8.fh, shaped_tN _, shaped_tN _, ?_⟩
        rw [eqv_tN]
        refine q _ F8 H8 s48 ⟨⟨_, rfl, fun g2 hg2 => ?_⟩, N8⟩
        rw [decide_eq_true_iff]
        constructor
        · intro e
          exact ⟨ks, rfl, hk1, hk2, by rw [great_cls W hg2 hg]; exact hfew, e⟩
        · rintro ⟨ks2, e, _, _, _, e3⟩
          injection e with e
          have e := map_nD_inj e
          subst e
          exact e3
    · have e1 : decide (((n : Nat) : Int) - ((cls n δ g : Nat) : Int) < ((ks.map vN).length : Nat)) = true := decide_eq_true (by rw [List.length_map]; omega)
      rw [e1]
      refine iteT (q (.bl false) F4 H4 st4 ⟨⟨false, rfl, fun g2 hg2 => ⟨fun z => (by cases z), fun z => ?_⟩⟩, N4⟩)
      obtain ⟨ks2, e, _, _, e3, _⟩ := z
      injection e with e
      have e := map_nD_inj e
      subst e
      rw [great_cls W hg2 hg] at e3
      exact absurd e3 hfew
end
end K11


set_option Elab.async false
set_option linter.all false
set_option maxRecDepth 100000
set_option maxHeartbeats 4000000
/-! The law's draws. -/
namespace K11
open PySem PySem.Spec PyProof.Rows L2
structure DealAt (F H : Hp) (D L : Addr) (ns : List Int) (b : Int) : Prop where
  d : Mu F H D (.lst [.ref L, .int b])
  l : Mu F H L (.lst (ns.map V.int))
  few : ns.length ≤ 48
  pos : ∀ z ∈ ns, 0 ≤ z
  b0 : 0 ≤ b
  b1 : b < 2147483647
/-- a source of draws -/
def Deal (F H : Hp) (D L : Addr) : Prop := ∃ ns b, DealAt F H D L ns b
section
variable {K : PySem.W.Frag} {S : List Addr} {F H F1 H1 : Hp} {D L : Addr} {ns : List Int} {b : Int}
theorem DealAt.ne (h : DealAt F H D L ns b) : D ≠ L := fun e => by
  have z := h.d.at_
  rw [e, h.l.at_] at z
  injection z with z
  injection z with z
  cases ns with
  | nil => cases z
  | cons x r =>
    injection z with z
    cases z
theorem DealAt.step (h : DealAt F H D L ns b) (s : Stp S F H F1 H1) (hD : D ∉ S) (hL : L ∉ S) : DealAt F1 H1 D L ns b := ⟨s.mu h.d hD, s.mu h.l hL, h.few, h.pos, h.b0, h.b1⟩
theorem DealAt.step0 (h : DealAt F H D L ns b) (s : Stp [] F H F1 H1) : DealAt F1 H1 D L ns b := h.step s (fun z => by cases z) fun z => by cases z
theorem DealAt.setL (h : DealAt F H D L ns b) {ms : List Int} (h1 : ms.length ≤ 48) (h2 : ∀ z ∈ ms, 0 ≤ z) : DealAt F (upd H L (.lst (ms.map V.int))) D L ms b := ⟨h.d.off h.ne, h.l.wrote, h1, h2, h.b0, h.b1⟩
theorem DealAt.setD (h : DealAt F H D L ns b) {e : Int} (h1 : 0 ≤ e) (h2 : e < 2147483647) : DealAt F (upd H D (.lst [.ref L, .int e])) D L ns e := ⟨h.d.wrote, h.l.off (Ne.symm h.ne), h.few, h.pos, h1, h2⟩
theorem DealAt.inL : L ∈ [D, L] := List.mem_cons_of_mem _ List.mem_cons_self
theorem DealAt.inD : D ∈ [D, L] := List.mem_cons_self
theorem Deal.step (h : Deal F H D L) (s : Stp S F H F1 H1) (hD : D ∉ S) (hL : L ∉ S) : Deal F1 H1 D L := by
  obtain ⟨ns, b, h⟩ := h
  exact ⟨ns, b, h.step s hD hL⟩
theorem Deal.step0 (h : Deal F H D L) (s : Stp [] F H F1 H1) : Deal F1 H1 D L := h.step s (fun z => by cases z) fun z => by cases z
theorem Deal.there (h : Deal F H D L) : ∀ a ∈ [D, L], H a ≠ none := fun a ha => by
  obtain ⟨ns, b, h⟩ := h
  cases ha with
  | head =>
    rw [h.d.at_]
    simp
  | tail _ ha =>
    rw [List.mem_singleton.mp ha, h.l.at_]
    simp
/-- a list that the deal is not -/
theorem DealAt.upd (h : DealAt F H D L ns b) {p : Addr} {u : HO} (h1 : D ≠ p) (h2 : L ≠ p) : DealAt F (upd H p u) D L ns b := ⟨h.d.off h1, h.l.off h2, h.few, h.pos, h.b0, h.b1⟩
theorem Deal.upd (h : Deal F H D L) {p : Addr} {u : HO} (h1 : D ≠ p) (h2 : L ≠ p) : Deal F (L2.upd H p u) D L := by
  obtain ⟨ns, b, h⟩ := h
  exact ⟨ns, b, h.upd h1 h2⟩
theorem Deal.rs (h : Deal F H D L) : Deal F (K11.rs [D, L] H) D L := by
  obtain ⟨ns, b, h⟩ := h
  exact ⟨ns, b, h.d.rs DealAt.inD, h.l.rs DealAt.inL, h.few, h.pos, h.b0, h.b1⟩
theorem Deal.unrs (h : Deal F (K11.rs [D, L] H) D L) : Deal F H D L := by
  obtain ⟨ns, b, h⟩ := h
  exact ⟨ns, b, h.d.unrs, h.l.unrs, h.few, h.pos, h.b0, h.b1⟩
theorem Deal.of (h : DealAt F H D L ns b) : Deal F H D L := ⟨ns, b, h⟩
theorem lay_iD (ns : List Int) : ∀ x ∈ ns.map PyData.int, PyData.canLay0 x = true := fun x hx => by
  obtain ⟨n, _, rfl⟩ := List.mem_map.mp hx
  simp [PyData.canLay0]
theorem dep_iD (ns : List Int) : ∀ x ∈ ns.map PyData.int, PyData.depth x ≤ 0 := fun x hx => by
  obtain ⟨n, _, rfl⟩ := List.mem_map.mp hx
  simp [PyData.depth]
theorem shaped_lZ (ns : List Int) : SeqAt.shaped (lZ ns) = true := shaped_by (lay_seq (lay_iD ns)).2 (dep_seq (dep_iD ns)).2 (by decide)
theorem dp_lZ {a : Addr} (h : SqL K F a (ns.map V.int)) : Dp K F (.ref a) (lZ ns) := .lst h (all_ints ns)
end
theorem nat_of {x n : Int} (h0 : 0 ≤ x) (h1 : x < n) : ∃ v : Nat, V.int x = vN v ∧ (v : Int) < n := ⟨x.toNat, by show V.int x = V.int (x.toNat : Int); rw [Int.toNat_of_nonneg h0], by rw [Int.toNat_of_nonneg h0]; exact h1⟩
theorem mod_nat {x : Int} {n : Nat} (hn : 1 ≤ n) : ∃ v : Nat, V.int (x % (n : Int)) = vN v ∧ v < n := by
  have h1 : (0 : Int) < n := by omega
  obtain ⟨v, e, h⟩ := nat_of (Int.emod_nonneg x (Int.ne_of_gt h1)) (Int.emod_lt_of_pos x h1)
  exact ⟨v, e, by omega⟩
def spAny (K : PySem.W.Frag) : Sp := fun vs H Q _ => ∃ (F : Hp) (D L : Addr) (n : Nat), vs = [.ref D, vN n] ∧ Same F H ∧ Deal F H D L ∧ 1 ≤ n ∧ n ≤ 1000 ∧ Back [D, L] F H Q fun r F' H' => (∃ v, r = vN v ∧ v < n) ∧ Deal F' H' D L
section
variable {P : Program} {w : World} {K : PySem.W.Frag} {mg : Str → Option Value} {base : Heap}
/-- deal[0] != [] -/
theorem ne_nil_read {F H : Hp} {D L : Addr} {ns : List Int} {b : Int} (h : DealAt F H D L ns b) (hF : Same F H) {σ : L2.St} {Q : VK} (e0 : σ[0]? = some (some (.ref D))) (q : ∀ F' H', Stp [] F H F' H' → Q (.bl (!ns.isEmpty)) H') : tOp (rNeD K) (tOp (rIxB K) (tVar 0) (tC (.int 0))) (tLst tNil) σ H Q := by
  refine ⟨.ref D, e0, ixB_l (i := 0) (.inl (.inl h.d.at_)) rfl ⟨Nat.zero_le _, fun p hp => ?_⟩⟩
  have st := Stp.new (S := []) (o := .lst []) hF hp
  have h2 := h.step0 st
  refine ⟨lZ ns, .list [], dp_lZ (.inl (.inl h2.l.at_)), .lst (.inl (.inl upd_same)) .nil, shaped_lZ _, shaped_lZ [], ?_⟩
  rw [eqv_lnil]
  have e : (ns.map PyData.int).isEmpty = ns.isEmpty := by cases ns <;> rfl
  rw [e]
  exact q _ _ st
theorem sc_law_any : FnScope ["_law_deal", "_law_bound", "_law_rest"] ["_law_deal", "_law_bound"] (defScope s_law_any) := ⟨rfl, rfl, rfl, by decide +kernel, rfl, by decide +kernel, by decide +kernel⟩
theorem bn_law_any : BindN d_law_any ["_law_deal", "_law_bound"] := fun _ _ _ _ _ _ us hl => match us, hl with | [_, _], _ => rfl
theorem ok_law_any (T : Top P w K mg base) : Cal P w K mg base d_law_any "_law_any" 1 ["_law_deal", "_law_bound"] (spAny K) := by
  refine T.cal 33 30 rfl rfl rfl rfl rfl sc_law_any bn_law_any (fun vs H Q E h => ?_) fun f cdv A outer s H vs Q E hr h => ?_
  · obtain ⟨_, _, _, _, rfl, _⟩ := h
    rfl
  have nd := (sc_law_any).nd
  refine ⟨_, (pss_cons (ps_while (passes_of rfl) (pw_and (pt_cmpR (op_neD hr.units) (pe_ix ix_both (pv 0) pe_int (fun _ _ => rfl)) (pe_lst pa_nil) (nomark _)) (pw_and1 (pt_cmpR op_eq (pe_ix ix_both (pe_ix ix_both (pv 0) pe_int (fun _ _ => rfl)) (pe_un un_neg pe_int) (fun _ _ => rfl)) pe_int (nomark _)))).pt
      (pss_one (ps_expr (pe_bm0 PySem.F.plainAttrs_list PySem.F.slot_list_pop PySem.F.type_list_pop mt_pop (pe_ix ix_both (pv 0) pe_int (fun _ _ => rfl))))))
    (pss_cons (ps_if (pt_cmpR (op_neD hr.units) (pe_ix ix_both (pv 0) pe_int (fun _ _ => rfl)) (pe_lst pa_nil) (nomark _))
      (pss_cons (ps_set (i := 2) nd rfl (.inl rfl) (pe_callTy cl_int (by rfl) T.n_int bt_int (pa_cons (pe_bm0 PySem.F.plainAttrs_list PySem.F.slot_list_pop PySem.F.type_list_pop mt_pop (pe_ix ix_both (pv 0) pe_int (fun _ _ => rfl))) pa_nil)))
    (pss_cons (ps_expr (pe_bm PySem.F.plainAttrs_list PySem.F.slot_list_append PySem.F.type_list_append mt_append (pe_ix ix_both (pv 0) pe_int (fun _ _ => rfl)) (pa_cons (pe_op op_fdiv (pv 2) (pv 1)) pa_nil)))
    (pss_one (ps_ret (pe_op op_mod (pv 2) (pv 1))))))
      pss_nil)
    (pss_cons (ps_asg (pe_op op_mod (pe_callTy cl_int (by rfl) T.n_int bt_int (pa_cons (pe_op op_add (pe_op op_mul (pe_ix ix_both (pv 0) pe_int (fun _ _ => rfl)) pe_int) pe_int) pa_nil)) pe_int) (pg_sub (pv 0) pe_int set_list))
    (pss_one (ps_ret (pe_op op_mod (pe_callTy cl_int (by rfl) T.n_int bt_int (pa_cons (pe_op op_fdiv (pe_ix ix_both (pv 0) pe_int (fun _ _ => rfl)) pe_int) pa_nil)) (pv 1))))))), ?_⟩
  obtain ⟨F, D, L, n, rfl, hF, hd, hn, hn2, q⟩ := h
  obtain ⟨ns, b, hd⟩ := hd
  refine ⟨fun k σ H' => ∃ F' ns b, σ = [some (.ref D), some (vN n), none] ∧ Stp [D, L] F H F' H' ∧ DealAt F' H' D L ns b ∧ k = ns.length, ⟨_, F, ns, b, rfl, Stp.refl hF, hd, rfl⟩, ?_⟩
  rintro k σ H5 ⟨F5, ms, b5, rfl, s5, d5, rfl⟩
  refine ne_nil_read d5 s5.fh rfl fun F6 H6 st6 => ⟨_, rfl, ?_⟩
  have d6 := d5.step0 st6
  replace s5 := s5.trans st6.up
  clear st6 d5
  rcases List.eq_nil_or_concat ms with rfl | ⟨ms, z, rfl⟩
  · refine iteF (iteF ?_)
    refine ne_nil_read d6 s5.fh rfl fun F7 H7 st7 => ⟨_, rfl, ?_⟩
    have d7 := d6.step0 st7
    replace s5 := s5.trans st7.up
    clear st7 d6
    refine iteF ?_
    have h0 : (0 : Int) ≤ (b5 * 40693 + 71) % 2147483647 := Int.emod_nonneg _ (by decide)
    have h1 : (b5 * 40693 + 71) % 2147483647 < 2147483647 := Int.emod_lt_of_pos _ (by decide)
    refine ⟨.ref D, rfl, ixB_l (i := 1) (.inl (.inl d7.d.at_)) rfl ⟨_, _, rfl, rfl, .inr (by decide), _, _, rfl, rfl, .inl ⟨_, rfl, _, _, rfl, rfl, (show (0 : Int) < 2147483647 by decide), .ref D, rfl, D, _, 1, 1, rfl, rfl, d7.d.at_, rfl, ?_⟩⟩⟩
    have s8 := s5.write (u := .lst [.ref L, .int ((b5 * 40693 + 71) % 2147483647)]) (.inr DealAt.inD) d7.d
    have d8 := d7.setD h0 h1
    have hn' : (0 : Int) < n := by omega
    obtain ⟨v, ev, hv⟩ := mod_nat (x := (b5 * 40693 + 71) % 2147483647 / 64) hn
    refine ⟨.ref D, rfl, ixB_l (i := 1) (.inl (.inl d8.d.at_)) rfl ⟨_, _, rfl, rfl, ⟨(show (0 : Int) < 64 by decide), (show (64 : Int) < 1073741824 by decide)⟩, .inl ⟨_, rfl, vN n, rfl, _, _, rfl, rfl, hn', ?_⟩⟩⟩
    exact q _ _ _ s8 ⟨⟨v, ev, hv⟩, .of d8⟩
  · rw [List.concat_eq_append] at d6 ⊢
    have e1 : (!(ms ++ [z]).isEmpty) = true := by cases ms <;> rfl
    rw [e1]
    have eL : (ms ++ [z]).map V.int = ms.map V.int ++ [V.int z] := by rw [List.map_append] <;> rfl
    have hL := d6.l.at_
    rw [eL] at hL
    have hms : ms.length + 1 ≤ 48 := by have z := d6.few; rwa [List.length_append] at z
    have hz0 : 0 ≤ z := d6.pos z (List.mem_append_right _ List.mem_cons_self)
    refine iteT ⟨.ref D, rfl, ixB_l (i := 0) (.inl (.inl d6.d.at_)) rfl ⟨1, rfl, .inl ⟨L, _, -1, .int z, rfl, rfl, .inl (.inl hL), atI_last _ _, rfl, _, rfl, ?_⟩⟩⟩
    by_cases hz : z = 0
    · rw [decide_eq_true (by rw [hz])]
      refine iteT ⟨_, fun σ' H' h => h, ?_⟩
      refine ⟨.ref D, rfl, ixB_l (i := 0) (.inl (.inl d6.d.at_)) rfl ⟨.inl ⟨rfl, _, .inl (.inl hL)⟩, L, _, .int z, rfl, rfl, hL, ?_, ?_⟩⟩
      · rw [List.length_append]
        show (ms.map V.int ++ [V.int z])[(ms.map V.int).length + 1 - 1]? = _
        rw [Nat.add_sub_cancel, List.getElem?_append_right (Nat.le_refl _), Nat.sub_self] <;> rfl
      · rw [List.dropLast_concat]
        refine ⟨_, ?_, F6, ms, b5, rfl, s5.write (.inr DealAt.inL) d6.l, d6.setL (by omega) fun y hy => d6.pos y (List.mem_append_left _ hy), rfl⟩
        rw [List.length_append]
        show ms.length < ms.length + 1
        omega
    · rw [decide_eq_false (fun e => hz (by injection e))]
      refine iteF ?_
      refine ne_nil_read d6 s5.fh rfl fun F7 H7 st7 => ⟨_, rfl, ?_⟩
      have d7 := d6.step0 st7
      replace s5 := s5.trans st7.up
      rw [e1]
      have hL7 := d7.l.at_
      rw [eL] at hL7
      refine iteT ⟨.ref D, rfl, ixB_l (i := 0) (.inl (.inl d7.d.at_)) rfl ⟨.inl ⟨rfl, _, .inl (.inl hL7)⟩, L, _, .int z, rfl, rfl, hL7, ?_, ?_⟩⟩
      · rw [List.length_append]
        show (ms.map V.int ++ [V.int z])[(ms.map V.int).length + 1 - 1]? = _
        rw [Nat.add_sub_cancel, List.getElem?_append_right (Nat.le_refl _), Nat.sub_self] <;> rfl
      · rw [List.dropLast_concat]
        have s8 := s5.write (u := .lst (ms.map V.int)) (.inr DealAt.inL) d7.l
        have d8 := d7.setL (ms := ms) (by omega) fun y hy => d7.pos y (List.mem_append_left _ hy)
        refine .inl ⟨z, rfl, ?_⟩
        have hn' : (0 : Int) < n := by omega
        refine ⟨.ref D, rfl, ixB_l (i := 0) (.inl (.inl d8.d.at_)) rfl ⟨.inl ⟨rfl, _, .inl (.inl d8.l.at_)⟩, .int z, rfl, vN n, rfl, _, _, rfl, rfl, ⟨hn', by omega⟩, L, _, .int (z / (n : Int)), rfl, rfl, d8.l.at_, by rw [List.length_map, sizeLine_eq]; omega, ?_⟩⟩
        have s9 := s8.write (u := .lst (ms.map V.int ++ [V.int (z / (n : Int))])) (.inr DealAt.inL) d8.l
        have d9 := d8.setL (ms := ms ++ [z / (n : Int)]) (by rw [List.length_append]; exact hms) fun y hy => by
          rcases List.mem_append.mp hy with h | h
          · exact d7.pos y (List.mem_append_left _ h)
          · rw [List.mem_singleton.mp h]
            exact Int.ediv_nonneg hz0 (by omega)
        rw [List.map_append] at d9
        obtain ⟨v, ev, hv⟩ := mod_nat (x := z) hn
        refine ⟨.int z, rfl, vN n, rfl, _, _, rfl, rfl, hn', ?_⟩
        exact q _ _ _ s9 ⟨⟨v, ev, hv⟩, .of d9⟩
end
end K11


set_option Elab.async false
set_option linter.all false
set_option maxRecDepth 100000
set_option maxHeartbeats 4000000
/-! _law_of, _law_mixed, _law_row, _law_columns, _law_draw. -/
namespace K11
open PySem PySem.Spec PyProof.Rows L2
def spOf (K : PySem.W.Frag) : Sp := fun vs H Q _ => ∃ (F : Hp) (D L a : Addr) (xs : List V), vs = [.ref D, .ref a] ∧ Same F H ∧ Deal F H D L ∧ SqL K F a xs ∧ 1 ≤ xs.length ∧ xs.length ≤ 1000 ∧ Back [D, L] F H Q fun r F' H' => r ∈ xs ∧ Deal F' H' D L
/-- small data -/
def Sm (ds : List PyData) : Prop := ds.length ≤ 1000 ∧ ∀ x ∈ ds, PyData.canLay0 x = true ∧ PyData.depth x ≤ 8
theorem Sm.shaped {ds : List PyData} (h : Sm ds) : SeqAt.shaped (.list ds) = true := shaped_by (lay_seq fun x hx => (h.2 x hx).1).2 (dep_seq fun x hx => (h.2 x hx).2).2 (by decide)
def spMixed (K : PySem.W.Frag) : Sp := fun vs H Q _ => ∃ (F : Hp) (D L : Addr) (v : V) (ds : List PyData), vs = [.ref D, v] ∧ Same F H ∧ Deal F H D L ∧ Dp K F v (.list ds) ∧ Sm ds ∧ Back [D, L] F H Q fun r F' H' => (∃ es, es.Perm ds ∧ Dp K F' r (.list es)) ∧ Deal F' H' D L
def spRowL (K : PySem.W.Frag) : Sp := fun vs H Q _ => ∃ (F : Hp) (D L : Addr) (c n : Nat), vs = [.ref D, vN c, vN n] ∧ Same F H ∧ Deal F H D L ∧ 1 ≤ c ∧ c ≤ 1000 ∧ n ≤ 1000 ∧ Back [D, L] F H Q fun r F' H' => (∃ w, Word c w ∧ w.length = n ∧ Dp K F' r (tN w)) ∧ Deal F' H' D L
theorem Mu.frzO {F H : Hp} {l p : Addr} {o u : HO} (m : Mu F H l o) (h : l ≠ p) : Mu (L2.upd F p u) H l o := ⟨m.at_, by rw [upd_ne h]; exact m.fr⟩
theorem Deal.frz {F H : Hp} {D L p : Addr} {u : HO} (h : Deal F H D L) (h1 : D ≠ p) (h2 : L ≠ p) : Deal (L2.upd F p u) H D L := by
  obtain ⟨ns, b, h⟩ := h
  exact ⟨ns, b, h.d.frzO h1, h.l.frzO h2, h.few, h.pos, h.b0, h.b1⟩
theorem erase_perm {α : Type} {x : α} : ∀ {l : List α} {j : Nat}, l[j]? = some x → (x :: l.eraseIdx j).Perm l
  | [], _, h => by simp at h
  | y :: l, 0, h => by
    cases h
    exact List.Perm.refl _
  | y :: l, j + 1, h => (List.Perm.swap y x _).trans ((erase_perm (l := l) (j := j) h).cons y)
theorem DpAll.erase {K : PySem.W.Frag} {F : Hp} : ∀ {xs : List V} {ds : List PyData} (k : Nat), DpAll K F xs ds → DpAll K F (xs.eraseIdx k) (ds.eraseIdx k)
  | _, _, _, .nil => .nil
  | _, _, 0, .cons _ t => t
  | _, _, k + 1, .cons a t => .cons a (DpAll.erase k t)
section
variable {P : Program} {w : World} {K : PySem.W.Frag} {mg : Str → Option Value} {base : Heap}
theorem sc_law_of : FnScope ["_law_deal", "_law_some"] ["_law_deal", "_law_some"] (defScope s_law_of) := ⟨rfl, rfl, rfl, by decide +kernel, rfl, by decide +kernel, by decide +kernel⟩
theorem bn_law_of : BindN d_law_of ["_law_deal", "_law_some"] := fun _ _ _ _ _ _ us hl => match us, hl with | [_, _], _ => rfl
theorem ok_law_of (T : Top P w K mg base) : Cal P w K mg base d_law_of "_law_of" 2 ["_law_deal", "_law_some"] (spOf K) := by
  refine T.cal 34 31 rfl rfl rfl rfl rfl sc_law_of bn_law_of (fun vs H Q E h => ?_) fun f cdv A outer s H vs Q E hr h => ?_
  · obtain ⟨_, _, _, _, _, rfl, _⟩ := h
    rfl
  have nd := (sc_law_of).nd
  refine ⟨_, (pss_one (ps_ret (pe_ix ix_both (pv 1) (pe_cal (ok_law_any T) hr (by decide) (by rfl) (pa_cons (pv 0) (pa_cons (pe_callB cl_len (by rfl) T.n_len bt_len (pa_cons (pv 1) pa_nil)) pa_nil))) (fun _ _ => rfl)))), ?_⟩
  obtain ⟨F, D, L, a, xs, rfl, hF, hd, ha, h1, h2, q⟩ := h
  refine ⟨.ref a, rfl, .ref D, rfl, .ref a, rfl, a, xs, rfl, .inl (same_l hF ha), F, D, L, xs.length, rfl, hF, hd, h1, h2, fun r F' H' st hr => ?_⟩
  obtain ⟨⟨i, rfl, hi⟩, d'⟩ := hr
  exact ixB_l (same_l (st.ff.trans st.fh) ha) (List.getElem?_eq_getElem hi) (q _ F' H' st ⟨List.getElem_mem hi, d'⟩)

theorem sc_law_mixed : FnScope ["_law_deal", "_law_some", "_law_left", "_law_found"] ["_law_deal", "_law_some"] (defScope s_law_mixed) := ⟨rfl, rfl, rfl, by decide +kernel, rfl, by decide +kernel, by decide +kernel⟩
theorem bn_law_mixed : BindN d_law_mixed ["_law_deal", "_law_some"] := fun _ _ _ _ _ _ us hl => match us, hl with | [_, _], _ => rfl
theorem ok_law_mixed (T : Top P w K mg base) : Cal P w K mg base d_law_mixed "_law_mixed" 2 ["_law_deal", "_law_some"] (spMixed K) := by
  refine T.cal 35 32 rfl rfl rfl rfl rfl sc_law_mixed bn_law_mixed (fun vs H Q E h => ?_) fun f cdv A outer s H vs Q E hr h => ?_
  · obtain ⟨_, _, _, _, _, rfl, _⟩ := h
    rfl
  have nd := (sc_law_mixed).nd
  refine ⟨_, (pss_cons (ps_par (i := 2) (j := 3) rfl nd rfl rfl (by decide) rfl rfl (pa_cons (pe_callTy cl_lst (by rfl) T.n_list bt_list (pa_cons (pv 1) pa_nil)) (pa_cons (pe_lst pa_nil) pa_nil)) (by rfl))
    (pss_cons (ps_while (passes_of rfl) (pt_cmpR (op_neD hr.units) (pv 2) (pe_lst pa_nil) (nomark _))
      (pss_one (ps_expr (pe_bm PySem.F.plainAttrs_list PySem.F.slot_list_append PySem.F.type_list_append mt_append (pv 3) (pa_cons (pe_bm PySem.F.plainAttrs_list PySem.F.slot_list_pop PySem.F.type_list_pop mt_popAt (pv 2) (pa_cons (pe_cal (ok_law_any T) hr (by decide) (by rfl) (pa_cons (pv 0) (pa_cons (pe_callB cl_len (by rfl) T.n_len bt_len (pa_cons (pv 2) pa_nil)) pa_nil))) pa_nil)) pa_nil)))))
    (pss_one (ps_ret (pv 3))))), ?_⟩
  obtain ⟨F, D, L, v, ds, rfl, hF, hd, hv, hs, q⟩ := h
  obtain ⟨a, xs, rfl, ha, hall⟩ := hv.lst_inv
  refine ⟨.ref a, rfl, a, xs, rfl, .inl (same_l hF ha), fun l hl => ⟨Nat.zero_le _, fun f hf => ⟨_, _, rfl, ?_⟩⟩⟩
  have s1 : Stp [D, L] F H F _ := Stp.newM (o := .lst xs) hF hl
  have ml := Mu.new (o := .lst xs) hF hl
  have s2 := s1.trans (Stp.newM (o := .lst []) s1.fh hf)
  have mf := Mu.new (o := .lst []) s1.fh hf
  have hlf := ml.ne hf
  have ml2 := ml.off (u := .lst []) hlf
  have hfH : H f = none := s1.none_ hf
  have hD : ∀ x ∈ [D, L], H x ≠ none := hd.there
  have hDl : D ≠ l := fun e => hD D DealAt.inD (by rw [e]; exact hl)
  have hLl : L ≠ l := fun e => hD L DealAt.inL (by rw [e]; exact hl)
  have hDf : D ≠ f := fun e => hD D DealAt.inD (by rw [e]; exact hfH)
  have hLf : L ≠ f := fun e => hD L DealAt.inL (by rw [e]; exact hfH)
  have d2 : Deal F _ D L := (hd.upd (u := .lst xs) hDl hLl).upd (u := .lst []) hDf hLf
  have hlS : l ∉ [D, L] := notin_of hD hl
  have hfS : f ∉ [D, L] := notin_of hD hfH
  refine ⟨fun k σ H' => ∃ F' xs ys as bs, σ = [some (.ref D), some (.ref a), some (.ref l), some (.ref f)] ∧ Stp [D, L] F H F' H' ∧ Deal F' H' D L ∧ Mu F' H' l (.lst xs) ∧ Mu F' H' f (.lst ys) ∧ DpAll K F' xs as ∧ DpAll K F' ys bs ∧ (as ++ bs).Perm ds ∧ k = as.length, ⟨_, F, xs, [], ds, [], rfl, s2, d2, ml2, mf, hall, .nil, by rw [List.append_nil], rfl⟩, ?_⟩
  rintro k σ H5 ⟨F5, xs, ys, as, bs, rfl, s5, d5, ml, mf, ax, ay, hp, rfl⟩
  have hmem : ∀ x, x ∈ as ∨ x ∈ bs → x ∈ ds := fun x hx => hp.mem_iff.mp (List.mem_append.mpr hx)
  have hle : as.length + bs.length ≤ 1000 := by rw [← List.length_append, hp.length_eq]; exact hs.1
  have hsa : Sm as := ⟨by omega, fun x hx => hs.2 x (hmem x (.inl hx))⟩
  refine ⟨.ref l, rfl, Nat.zero_le _, fun p hpn => ?_⟩
  have st6 := Stp.new (S := []) (o := .lst []) s5.fh hpn
  have s6 := s5.trans st6.up
  have d6 := d5.step0 st6
  have ml6 := st6.mu0 ml
  have mf6 := st6.mu0 mf
  refine ⟨.list as, .list [], .lst (.inl (.inl ml6.at_)) ((ax.up st6.ff).up s6.fh), .lst (.inl (.inl upd_same)) .nil, hsa.shaped, shaped_lZ [], _, rfl, ?_⟩
  rw [eqv_lnil]
  generalize upd F5 p (.lst []) = F6 at s6 d6 ml6 mf6 st6
  generalize upd H5 p (.lst []) = H6 at s6 d6 ml6 mf6 st6
  cases as with
  | nil =>
    refine iteF ⟨.ref f, rfl, ?_⟩
    have hd7 := frz_l s6 hfH mf6 (ay.up st6.ff)
    exact q _ _ _ hd7.1 ⟨⟨bs, hp, hd7.2.2⟩, d6.frz hDf hLf⟩
  | cons d0 ar =>
    refine iteT ⟨_, fun σ' H' h => h, ?_⟩
    have hxl : xs.length = ar.length + 1 := ax.len
    have hl1 : (d0 :: ar).length = ar.length + 1 := rfl
    rw [hl1] at hle
    refine ⟨.ref f, rfl, .inl ⟨rfl, _, .inl (.inl mf6.at_)⟩, .ref l, rfl, .inl ⟨rfl, _, .inl (.inl ml6.at_)⟩, .ref D, rfl, .ref l, rfl, l, xs, rfl, .inl (.inl (.inl ml6.at_)), F6, D, L, xs.length, rfl, s6.fh, d6, by omega, by omega, fun r F7 H7 st7 hr => ?_⟩
    obtain ⟨⟨i, rfl, hi⟩, d7⟩ := hr
    have ml7 := st7.mu ml6 hlS
    have mf7 := st7.mu mf6 hfS
    have s7 := s6.trans st7
    obtain ⟨j, hj, hx, hjl, _⟩ := atI_get (atI_nat (List.getElem?_eq_getElem hi))
    generalize xs[i] = y at hx
    have hj2 : j < (d0 :: ar).length := by rw [hl1]; omega
    have ed : (d0 :: ar)[j]? = some (d0 :: ar)[j] := List.getElem?_eq_getElem hj2
    have dy : Dp K F5 y (d0 :: ar)[j] := ax.at hx ed
    generalize (d0 :: ar)[j] = dj at ed dy
    have hperm := erase_perm ed
    have hel := List.length_eraseIdx_of_lt hj2
    have ax2 := DpAll.erase j ax
    generalize hes : (d0 :: ar).eraseIdx j = es at hperm hel ax2
    have e57 := st6.ff.trans st7.ff
    refine ⟨l, xs, i, j, y, rfl, rfl, ml7.at_, by omega, by omega, hj, hx, ?_⟩
    have s8 := s7.write (u := .lst (xs.eraseIdx j)) (.inl hl) ml7
    have ml8 := ml7.wrote (u := .lst (xs.eraseIdx j))
    have mf8 := mf7.off (u := .lst (xs.eraseIdx j)) (Ne.symm hlf)
    have d8 := d7.upd (u := .lst (xs.eraseIdx j)) hDl hLl
    generalize L2.upd H7 l (.lst (xs.eraseIdx j)) = H8 at s8 ml8 mf8 d8
    refine ⟨f, ys, y, rfl, rfl, mf8.at_, by rw [ay.len, sizeLine_eq]; omega, ?_⟩
    refine ⟨_, ?_, F7, _, _, es, bs ++ [dj], rfl, s8.write (.inl hfH) mf8, d8.upd hDf hLf, ml8.off hlf, mf8.wrote, ax2.up e57, (ay.up e57).snoc (dy.up e57), ?_, rfl⟩
    · rw [hel]
      show ar.length + 1 - 1 < ar.length + 1
      omega
    · refine List.Perm.trans ?_ hp
      refine List.Perm.trans ?_ (hperm.append_right bs)
      rw [← List.append_assoc]
      refine List.Perm.trans (List.perm_append_comm) ?_
      exact List.Perm.refl _

theorem sc_law_row : FnScope ["_law_deal", "_law_commands", "_law_length", "_law_turn"] ["_law_deal", "_law_commands", "_law_length"] (defScope s_law_row) := ⟨rfl, rfl, rfl, by decide +kernel, rfl, by decide +kernel, by decide +kernel⟩
theorem bn_law_row : BindN d_law_row ["_law_deal", "_law_commands", "_law_length"] := fun _ _ _ _ _ _ us hl => match us, hl with | [_, _, _], _ => rfl
theorem ok_law_row (T : Top P w K mg base) : Cal P w K mg base d_law_row "_law_row" 2 ["_law_deal", "_law_commands", "_law_length"] (spRowL K) := by
  refine T.cal 39 36 rfl rfl rfl rfl rfl sc_law_row bn_law_row (fun vs H Q E h => ?_) fun f cdv A outer s H vs Q E hr h => ?_
  · obtain ⟨_, _, _, _, _, rfl, _⟩ := h
    rfl
  have nd := (sc_law_row).nd
  refine ⟨_, (pss_one (ps_ret (pe_callTy cl_tup (by rfl) T.n_tuple bt_tuple (pa_cons (pe_lc (own := [("_law_turn", 3)]) (g := (gName 3)) (tt := tYes) (te := (tCall (spAny K) [] C8.E0 (tCons (tVar 0) (tCons (tVar 1) tNil)))) rfl nd (pi_range1 (by rfl) T.n_range (pa_cons (pv 2) pa_nil)) (blkOk_by (by kernel_rfl)) (fun _ _ _ _ _ => (pg_name (i := 3) nd rfl (.inl rfl))) (fun _ _ _ _ _ => pts_nil) (fun _ _ _ _ _ => (pe_cal (ok_law_any T) hr (by decide) (by rfl) (pa_cons (pv 0) (pa_cons (pv 1) pa_nil))))) pa_nil)))), ?_⟩
  obtain ⟨F, D, L, c, n, rfl, hF, hd, h1, h2, h3, q⟩ := h
  refine ⟨vN n, rfl, (n : Int), rfl, by omega, by omega, ?_⟩
  rw [Int.toNat_natCast]
  refine lc_do (S := [D, L]) (src_r (F := F)) hF hd.there (by rw [sizeLine_eq]; omega) (fun i acc F' H' => Deal F' H' D L ∧ ∃ w, acc = w.map vN ∧ Word c w ∧ w.length = i) ⟨hd.rs, [], rfl, fun x hx => (by cases hx), rfl⟩ (fun i y acc F2 H2 hi hy st2 hp Y N hY hN => ?_) fun D' acc F2 H2 st2 hD mu hl hp => ?_
  · obtain ⟨d2, w1, rfl, hw, hl⟩ := hp
    refine ⟨rfl, lc_yes ⟨.ref D, rfl, vN c, rfl, F2, D, L, c, rfl, st2.fh, d2.unrs, h1, h2, fun r F3 H3 st3 hr => ?_⟩⟩
    obtain ⟨⟨v, rfl, hv⟩, d3⟩ := hr
    refine hY _ F3 H3 st3 ⟨d3.rs, w1 ++ [v], by rw [List.map_append] <;> rfl, fun x hx => ?_, by rw [List.length_append, hl] <;> rfl⟩
    rcases List.mem_append.mp hx with z | z
    · exact hw x z
    · rw [List.mem_singleton.mp z]
      exact hv
  · obtain ⟨d2, w1, rfl, hw, hl⟩ := hp
    refine ⟨D', _, rfl, .inl ⟨.inl (.inl mu.at_), fun p hp => ?_⟩⟩
    have st3 := Stp.new (S := []) (o := .tup (w1.map vN)) st2.fh hp
    exact q _ _ _ (st2.trans st3.up) ⟨⟨w1, hw, hl, .of_tN (.inl (.inl upd_same))⟩, d2.unrs.step0 st3⟩

end
end K11


set_option Elab.async false
set_option linter.all false
set_option maxRecDepth 100000
set_option maxHeartbeats 4000000
/-! _law_columns, _law_draw. -/
namespace K11
open PySem PySem.Spec PyProof.Rows L2
/-- the rows of some columns -/
def rowsOf (cs : List (List Nat)) (n : Nat) : List (List Nat) := (List.range n).map fun s => cs.map fun col => col.getD s 0
theorem rowsOf_at {cs : List (List Nat)} {n s : Nat} (h : s < n) : (rowsOf cs n)[s]? = some (cs.map fun col => col.getD s 0) := by
  unfold rowsOf
  rw [List.getElem?_map, List.getElem?_range h] <;> rfl
theorem rowsOf_len (cs : List (List Nat)) (n : Nat) : (rowsOf cs n).length = n := by
  unfold rowsOf
  rw [List.length_map, List.length_range]
theorem rowsOf_wf {cs : List (List Nat)} {c n : Nat} (h1 : cs.length = c) (h2 : ∀ col ∈ cs, col.length = n ∧ ∀ t ∈ col, t < n) (hn : 1 ≤ n) (hn6 : n ≤ 6) (hc : 1 ≤ c) (hc3 : c ≤ 3) : WF c n (rowsOf cs n) where
  len := rowsOf_len cs n
  row := fun r hr => by
    unfold rowsOf at hr
    obtain ⟨s, _, rfl⟩ := List.mem_map.mp hr
    rw [List.length_map, h1]
  to := fun r hr t ht => by
    unfold rowsOf at hr
    obtain ⟨s, hs, rfl⟩ := List.mem_map.mp hr
    obtain ⟨col, hc, rfl⟩ := List.mem_map.mp ht
    obtain ⟨e1, e2⟩ := h2 col hc
    have hs' := List.mem_range.mp hs
    exact e2 _ (List.mem_of_getElem? (getD_some (by rw [e1]; exact hs')))
  n1 := hn
  n6 := hn6
  c1 := hc
  c3 := hc3
def spCols (K : PySem.W.Frag) : Sp := fun vs H Q _ => ∃ (F : Hp) (v : V) (cs : List (List Nat)) (n : Nat), vs = [v] ∧ Same F H ∧ Dp K F v (.list (cs.map lN)) ∧ 1 ≤ cs.length ∧ cs.length ≤ 1000 ∧ n ≤ 1000 ∧ (∀ col ∈ cs, col.length = n) ∧ Back [] F H Q fun r F' _ => Dp K F' r (.list ((rowsOf cs n).map lN))
def spDraw (K : PySem.W.Frag) : Sp := fun vs H Q _ => ∃ (F : Hp) (a : Addr) (zs : List Int), vs = [.ref a, .int 11] ∧ Same F H ∧ SqL K F a (zs.map V.int) ∧ zs.length ≤ 1000 ∧ ∀ D L F' H', Stp [] F H F' H' → Deal F' H' D L → H D = none → H L = none → Q (.ref D) H'
theorem cut_nat (xs : List V) (k : Nat) : cutV xs none (some ((k : Nat) : Int)) = xs.take k := by
  unfold cutV
  rw [HT.sIx_none, HT.sIx_nat, List.drop_zero, Nat.sub_zero]
  by_cases h : k ≤ xs.length
  · rw [Nat.min_eq_left h]
  · rw [Nat.min_eq_right (by omega), List.take_of_length_le (Nat.le_refl _), List.take_of_length_le (by omega)]
section
variable {P : Program} {w : World} {K : PySem.W.Frag} {mg : Str → Option Value} {base : Heap}
theorem sc_law_columns : FnScope ["_law_columns_here", "_law_state", "_law_column_here"] ["_law_columns_here"] (defScope s_law_columns) := ⟨rfl, rfl, rfl, by decide +kernel, rfl, by decide +kernel, by decide +kernel⟩
theorem bn_law_columns : BindN d_law_columns ["_law_columns_here"] := fun _ _ _ _ _ _ us hl => match us, hl with | [_], _ => rfl
theorem ok_law_columns (T : Top P w K mg base) : Cal P w K mg base d_law_columns "_law_columns" 1 ["_law_columns_here"] (spCols K) := by
  refine T.cal 36 33 rfl rfl rfl rfl rfl sc_law_columns bn_law_columns (fun vs H Q E h => ?_) fun f cdv A outer s H vs Q E hr h => ?_
  · obtain ⟨_, _, _, _, rfl, _⟩ := h
    rfl
  have nd := (sc_law_columns).nd
  refine ⟨_, (pss_one (ps_ret (pe_lc (own := [("_law_state", 1)]) (g := (gName 1)) (tt := tYes) (te := (tLc (iList K (tVar 0)) (gName 2) tYes (tOp (rIxB K) (tVar 2) (tVar 1)) [2])) rfl nd (pi_range1 (by rfl) T.n_range (pa_cons (pe_callB cl_len (by rfl) T.n_len bt_len (pa_cons (pe_ix ix_both (pv 0) pe_int (fun _ _ => rfl)) pa_nil)) pa_nil)) (blkOk_by (by kernel_rfl)) (fun _ _ _ _ _ => (pg_name (i := 1) nd rfl (.inr rfl))) (fun _ _ _ _ _ => pts_nil) (fun _ _ _ _ _ => (pe_lc (own := [("_law_column_here", 2)]) (g := (gName 2)) (tt := tYes) (te := (tOp (rIxB K) (tVar 2) (tVar 1))) rfl nd (pi_list (pv 0)) (blkOk_by (by kernel_rfl)) (fun _ _ _ _ _ => (pg_name (i := 2) nd rfl (.inl rfl))) (fun _ _ _ _ _ => pts_nil) (fun _ _ _ _ _ => (pe_ix ix_both (pv 2) (pv 1) (fun _ _ => rfl)))))))), ?_⟩
  obtain ⟨F, v, cs, n, rfl, hF, hv, h1, h2, h3, hcol, q⟩ := h
  obtain ⟨a, xs, rfl, ha, hall⟩ := hv.lst_inv
  have hxl : xs.length = cs.length := by rw [hall.len, List.length_map]
  have e0 : cs[0]? = some cs[0] := List.getElem?_eq_getElem h1
  have hn0 := hcol cs[0] (List.getElem_mem h1)
  refine ⟨.ref a, rfl, ixB_dl (i := 0) hv hF (by rw [List.getElem?_map, e0] <;> rfl) fun u hu => ?_⟩
  obtain ⟨b0, rfl, hb0⟩ := hu.lN_inv
  refine ⟨b0, _, rfl, .inl (same_l hF hb0), (n : Int), by rw [List.length_map, hn0], by omega, by omega, ?_⟩
  rw [Int.toNat_natCast]
  refine lc_do (S := []) (src_r (F := F)) hF (fun a h => by cases h) (by rw [sizeLine_eq]; omega) (fun i acc F' _ => DpAll K F' acc (((rowsOf cs n).take i).map lN)) .nil (fun i y acc F2 H2 hi hy st2 hp Y N hY hN => ?_) fun D acc F2 H2 st2 hD mu hl hp => ?_
  · have hy' : y = vN i := by rw [hy, Int.zero_add] <;> rfl
    subst hy'
    refine ⟨rfl, lc_yes ⟨.ref a, rfl, a, rfl, ⟨_, same_l (st2.ff.trans st2.fh) ha⟩, ?_⟩⟩
    refine lc_do (S := []) (src_l (same_l st2.ff ha)) st2.fh (fun a h => by cases h) (by rw [hxl, sizeLine_eq]; omega) (fun j acc _ _ => acc = ((cs.take j).map fun col => col.getD i 0).map vN) rfl (fun j z acc F3 H3 hj hz st3 hp3 Y3 N3 hY3 hN3 => ?_) fun D3 acc3 F3 H3 st3 hD3 mu3 hl3 hp3 => ?_
    · have hjl : j < cs.length := by omega
      have ej : cs[j]? = some cs[j] := List.getElem?_eq_getElem hjl
      have hcj := hcol cs[j] (List.getElem_mem hjl)
      have hd : Dp K F3 z (lN cs[j]) := ((hall.at hz (by rw [List.getElem?_map, ej] <;> rfl)).up st2.ff).up st3.ff
      generalize cs[j] = col at ej hcj hd
      refine ⟨rfl, lc_yes ⟨z, rfl, vN i, rfl, ixB_dl hd st3.fh (get_nD (getD_some (by rw [hcj]; exact hi))) fun u hu => ?_⟩⟩
      refine hY3 _ F3 H3 (Stp.refl st3.fh) ?_
      rw [hu.int_inv, hp3, take_snoc ej, List.map_append, List.map_append] <;> rfl
    · have hall3 : DpAll K F3 acc3 ((cs.map fun col => col.getD i 0).map nD) := by
        rw [hp3, hxl, List.take_length]
        exact all_nats _
      obtain ⟨s6, e6, d6⟩ := frz_l st3 hD3 mu3 hall3
      refine hY _ _ _ s6 ?_
      rw [take_snoc (rowsOf_at hi), List.map_append]
      exact ((hp.up st3.ff).up e6).snoc d6
  · rw [List.take_of_length_le (by rw [rowsOf_len]; exact Nat.le_refl _)] at hp
    obtain ⟨s6, e6, d6⟩ := frz_l st2 hD mu hp
    exact q _ _ _ s6 d6

theorem sc_law_draw : FnScope ["_law_script", "_law_salt", "_law_cells", "_law_cell", "_law_blend"] ["_law_script", "_law_salt"] (defScope s_law_draw) := ⟨rfl, rfl, rfl, by decide +kernel, rfl, by decide +kernel, by decide +kernel⟩
theorem bn_law_draw : BindN d_law_draw ["_law_script", "_law_salt"] := fun _ _ _ _ _ _ us hl => match us, hl with | [_, _], _ => rfl
theorem ok_law_draw (T : Top P w K mg base) : Cal P w K mg base d_law_draw "_law_draw" 1 ["_law_script", "_law_salt"] (spDraw K) := by
  refine T.cal 32 29 rfl rfl rfl rfl rfl sc_law_draw bn_law_draw (fun vs H Q E h => ?_) fun f cdv A outer s H vs Q E hr h => ?_
  · obtain ⟨_, _, _, rfl, _⟩ := h
    rfl
  have nd := (sc_law_draw).nd
  refine ⟨_, (pss_cons (ps_setLc (i := 2) (by rfl) nd rfl rfl (sw_true rfl rfl rfl (by decide +kernel)) (own := [("_law_cell", 3)]) (g := (gName 3)) (tt := tYes) (te := (tCB rAbs_ (tCons (tCB rInt_ (tCons (tVar 3) tNil)) tNil))) (pi_list (pe_slice sl_list (pv 0) po_none (po_some pe_int))) (blkOk_by (by kernel_rfl)) (fun _ _ _ _ _ => (pg_name (i := 3) nd rfl (.inl rfl))) (fun _ _ _ _ _ => pts_nil) (fun _ _ _ _ _ => (pe_callB cl_abs (by rfl) T.n_abs bt_abs (pa_cons (pe_callTy cl_int (by rfl) T.n_int bt_int (pa_cons (pv 3) pa_nil)) pa_nil))))
    (pss_cons (ps_set (i := 4) nd rfl (.inl rfl) (pe_op op_add pe_int (pe_op op_mul pe_int (pv 1))))
    (pss_cons (ps_for (passes_of rfl) rfl (pi_list (pv 2)) (pg_name (i := 3) nd rfl (.inl rfl))
      (pss_one (ps_set (i := 4) nd rfl (.inl rfl) (pe_op op_mod (pe_callTy cl_int (by rfl) T.n_int bt_int (pa_cons (pe_op op_add (pe_op op_add (pe_op op_mul (pv 4) pe_int) (pe_op op_mod (pv 3) pe_int)) pe_int) pa_nil)) pe_int))))
    (pss_one (ps_ret (pe_lst (pa_cons (pe_revL (pe_lc (own := [("_law_cell", 3)]) (g := (gName 3)) (tt := (tTest (tOp rGe_ (tVar 3) (tOp (rI CPow fun i j => .int (i ^ j.toNat)) (tC (.int 10)) (tC (.int 18)))))) (te := (tVar 3)) rfl nd (pi_list (pv 2)) (blkOk_by (by kernel_rfl)) (fun _ _ _ _ _ => (pg_name (i := 3) nd rfl (.inl rfl))) (fun _ _ _ _ _ => (pts_one (pt_cmpR op_ge (pv 3) (pe_op op_pow pe_int pe_int) (nomark _)))) (fun _ _ _ _ _ => (pv 3)))) (pa_cons (pv 4) pa_nil)))))))), ?_⟩
  obtain ⟨F, a, zs, rfl, hF, ha, hl, q⟩ := h
  refine ⟨.ref a, rfl, 48, rfl, a, _, rfl, same_l hF ha, fun p hp => ⟨p, rfl, ⟨_, .inl (.inl upd_same)⟩, ?_⟩⟩
  have s1 := Stp.new (S := []) (o := .lst (cutV (zs.map V.int) none (some 48))) hF hp
  have hsr := src_l (K := K) (F := upd F p (.lst (cutV (zs.map V.int) none (some 48)))) (.inl (.inl upd_same) : SqL K _ p (cutV (zs.map V.int) none (some 48)))
  rw [show cutV (zs.map V.int) none (some 48) = (zs.take 48).map V.int from cut_nat _ 48 ▸ List.map_take.symm] at s1 hsr ⊢
  have h48 : (zs.take 48).length ≤ 48 := by rw [List.length_take]; omega
  generalize zs.take 48 = ys at s1 hsr h48 ⊢
  generalize upd F p (.lst (ys.map V.int)) = F1 at s1 hsr
  generalize upd H p (.lst (ys.map V.int)) = H1 at s1
  have hyl : (ys.map V.int).length = ys.length := List.length_map ..
  refine lc_do (S := []) hsr s1.fh (fun a h => by cases h) (by rw [sizeLine_eq, hyl]; omega) (fun i acc _ _ => ∃ cs : List Int, acc = cs.map V.int ∧ cs.length = i ∧ ∀ z ∈ cs, 0 ≤ z) ⟨[], rfl, rfl, fun z hz => by cases hz⟩ (fun i y acc F2 H2 hi hy st2 hp Y N hY hN => ?_) fun D acc F2 H2 st2 hD mu hl hp => ?_
  · obtain ⟨cs, rfl, hcl, hcp⟩ := hp
    have hi' : i < ys.length := by omega
    rw [List.getElem?_map, List.getElem?_eq_getElem hi'] at hy
    cases hy
    refine ⟨rfl, lc_yes ⟨_, rfl, .inl ⟨_, rfl, _, rfl, hY _ F2 H2 (Stp.refl st2.fh) ⟨cs ++ [_], by rw [List.map_append] <;> rfl, by rw [List.length_append, hcl] <;> rfl, fun z hz => ?_⟩⟩⟩⟩
    rcases List.mem_append.mp hz with h | h
    · exact hcp z h
    · rw [List.mem_singleton.mp h]
      split <;> omega
  · obtain ⟨cs, rfl, hcl, hcp⟩ := hp
    rw [hyl] at hcl
    have s3 := (s1.trans st2).freeze (s1.none_ hD) mu
    have hsr2 : SqL K (upd F2 D (.lst (cs.map V.int))) D (cs.map V.int) := .inl (.inl upd_same)
    generalize upd F2 D (.lst (cs.map V.int)) = F3 at s3 hsr2
    have hcl2 : (cs.map V.int).length = cs.length := List.length_map ..
    refine ⟨.int 11, rfl, _, _, rfl, rfl, .inl ⟨by decide, by decide⟩, _, _, rfl, rfl, .ref D, rfl, D, rfl, ⟨_, same_l s3.fh hsr2⟩, ?_⟩
    refine for_do (src_l hsr2) (fun i σ H' => H' = H2 ∧ ∃ y b, σ = [some (.ref a), some (.int 11), some (.ref D), y, some (.int b)] ∧ 0 ≤ b ∧ b < 2147483647) (fun i σ H' h => by rw [h.1]; exact s3.fh) ⟨rfl, none, _, rfl, by decide, by decide⟩ (fun i x σ H' hi hx hp => ?_) fun σ H' hp => ?_
    · obtain ⟨rfl, y, b, rfl, hb0, hb1⟩ := hp
      obtain ⟨z, rfl⟩ : ∃ z, x = V.int z := by
        rw [List.getElem?_map] at hx
        cases e : cs[i]? with
        | none =>
          rw [e] at hx
          cases hx
        | some z =>
          rw [e] at hx
          exact ⟨z, (Option.some.inj hx).symm⟩
      refine ⟨.int b, rfl, _, _, rfl, rfl, .inr (by decide), .int z, rfl, _, _, rfl, rfl, (show (0 : Int) < 2147483549 by decide), _, _, rfl, rfl, _, _, rfl, rfl, .inl ⟨_, rfl, _, _, rfl, rfl, (show (0 : Int) < 2147483647 by decide), rfl, _, _, rfl, Int.emod_nonneg _ (by decide), Int.emod_lt_of_pos _ (by decide)⟩⟩
    · obtain ⟨rfl, y, b, rfl, hb0, hb1⟩ := hp
      refine ⟨.ref D, rfl, D, rfl, ⟨_, same_l s3.fh hsr2⟩, ?_⟩
      refine lc_do (S := []) (src_l hsr2) s3.fh (fun a h => by cases h) (by rw [sizeLine_eq, hcl2]; omega) (fun i acc _ _ => ∃ ms : List Int, acc = ms.map V.int ∧ ms.length ≤ i ∧ ∀ z ∈ ms, 0 ≤ z) ⟨[], rfl, Nat.le_refl _, fun z hz => by cases hz⟩ (fun i y acc F4 H4 hi hy st4 hp Y N hY hN => ?_) fun D4 acc F4 H4 st4 hD4 mu4 hl4 hp4 => ?_
      · obtain ⟨ms, rfl, hml, hmp⟩ := hp
        have hi' : i < cs.length := by omega
        rw [List.getElem?_map, List.getElem?_eq_getElem hi'] at hy
        cases hy
        have hz0 := hcp _ (List.getElem_mem hi')
        generalize cs[i] = z at hz0
        refine ⟨rfl, .int z, rfl, _, _, rfl, rfl, ⟨by decide, by decide, by decide⟩, _, _, rfl, rfl, _, rfl, ?_⟩
        cases decide ((10 : Int) ^ ((18 : Int).toNat) ≤ z) with
        | true =>
          refine iteT ⟨_, rfl, hY _ F4 H4 (Stp.refl st4.fh) ⟨ms ++ [z], by rw [List.map_append] <;> rfl, by rw [List.length_append]; show ms.length + 1 ≤ _; omega, fun y hy => ?_⟩⟩
          rcases List.mem_append.mp hy with h | h
          · exact hmp y h
          · rw [List.mem_singleton.mp h]
            exact hz0
        | false => exact iteF (hN F4 H4 (Stp.refl st4.fh) ⟨ms, rfl, by omega, hmp⟩)
      · obtain ⟨ms, rfl, hml, hmp⟩ := hp4
        refine ⟨D4, _, rfl, .inl (.inl mu4.at_), fun L hL => ⟨.int b, rfl, two_le, fun D5 hD5 => ?_⟩⟩
        have s5 := s3.trans st4
        have s6 := s5.trans (Stp.newM (S := []) (o := .lst (ms.map V.int).reverse) s5.fh hL)
        have mL : Mu F4 _ L (.lst (ms.map V.int).reverse) := Mu.new s5.fh hL
        have s7 := s6.trans (Stp.newM (S := []) (o := .lst [.ref L, .int b]) s6.fh hD5)
        have mD : Mu F4 _ D5 (.lst [.ref L, .int b]) := Mu.new s6.fh hD5
        have hne := mL.ne hD5
        have mL2 := mL.off (u := .lst [.ref L, .int b]) hne
        refine q D5 L _ _ s7 (.of ⟨mD, ?_, by rw [List.length_reverse]; omega, fun z hz => hmp z (List.mem_reverse.mp hz), hb0, hb1⟩) (s6.none_ hD5) (s5.none_ hL)
        exact ⟨by rw [List.map_reverse]; exact mL2.at_, mL2.fr⟩
end
end K11


set_option Elab.async false
set_option linter.all false
set_option maxRecDepth 100000
set_option maxHeartbeats 4000000
/-! _law_led, _law_effect, _law_behind. -/
namespace K11
open PySem PySem.Spec PyProof.Rows L2
/-- the steps as data -/
def StD (K : PySem.W.Frag) (F : Hp) (v : V) (δ : List (List Nat)) : Prop := Dp K F v (.list (δ.map lN))
theorem StD.up {K : PySem.W.Frag} {F H : Hp} {v : V} {δ : List (List Nat)} (h : StD K F v δ) (e : Same F H) : StD K H v δ := L2.Dp.up h e
theorem StD.get {K : PySem.W.Frag} {F : Hp} {v : V} {c n : Nat} {δ : List (List Nat)} (h : StD K F v δ) (W : WF c n δ) {s x : Nat} (hs : s < n) (hx : x < c) {H : Hp} (e : Same F H) {Y : VK} (y : Y (vN (dl δ s x)) H) : rIxB K v (vN s) H fun u H' => rIxB K u (vN x) H' Y := by
  obtain ⟨r, h1, h2, _⟩ := W.dl_at hs hx
  refine ixB_dl h e (by rw [List.getElem?_map, h1] <;> rfl) fun u hu => ixB_dl hu e (get_nD h2) fun z hz => ?_
  rw [hz.int_inv]
  exact y
def spLedL (K : PySem.W.Frag) : Sp := fun vs H Q _ => ∃ (F : Hp) (v : V) (c n : Nat) (δ : List (List Nat)) (s : Nat) (a : Addr) (w : List Nat), vs = [v, vN s, .ref a] ∧ Same F H ∧ StD K F v δ ∧ WF c n δ ∧ s < n ∧ SeqB K F a (w.map vN) ∧ Word c w ∧ Q (vN (ledM δ s w)) H
def spEffL (K : PySem.W.Frag) : Sp := fun vs H Q _ => ∃ (F : Hp) (v : V) (c n : Nat) (δ : List (List Nat)) (a : Addr) (w : List Nat), vs = [v, .ref a] ∧ Same F H ∧ StD K F v δ ∧ WF c n δ ∧ SeqB K F a (w.map vN) ∧ Word c w ∧ Back [] F H Q fun r F' _ => Dp K F' r (tN (effM δ w))
/-- the kernels of what is left of a row -/
def behM (δ : List (List Nat)) (w : List Nat) : List (List Nat) := (List.range (w.length + 1)).map fun k => kerM δ (w.drop k)
def spBeh (K : PySem.W.Frag) : Sp := fun vs H Q _ => ∃ (F : Hp) (v : V) (c n : Nat) (δ : List (List Nat)) (a : Addr) (w : List Nat), vs = [v, .ref a] ∧ Same F H ∧ StD K F v δ ∧ WF c n δ ∧ SeqB K F a (w.map vN) ∧ Word c w ∧ w.length ≤ 1000 ∧ Back [] F H Q fun r F' _ => Dp K F' r (.list ((behM δ w).map tN))
theorem idx_l {K : PySem.W.Frag} {F H1 : Hp} {a : Addr} {ns : List Nat} {s i : Nat} {Y : VK} (hs : ns[i]? = some s) (hl : SqL K F a (ns.map vN)) (e : Same F H1) (y : Y (vN (ns.idxOf s)) H1) : rIndex K (.ref a) [vN s] H1 Y := by
  obtain ⟨f1, f2⟩ := idx_first (List.mem_of_getElem? hs)
  have g1 := get_vN f1
  have g2 : eqV (vN s) (vN s) = true := by rw [vN_eq]; exact decide_eq_true rfl
  have g3 : ∀ (m : Nat) (z' : V), m < ns.idxOf s → (ns.map vN)[m]? = some z' → eqV z' (vN s) = false := fun m z' hm hz => by
    obtain ⟨t, ht, rfl⟩ := vN_at hz
    rw [vN_eq]
    exact decide_eq_false (f2 m t hm ht)
  exact ⟨a, _, _, _, _, rfl, rfl, same_l e hl, rfl, flat_ns ns, g1, g2, g3, y⟩
/-- a row walked from its end -/
theorem rev_src {K : PySem.W.Frag} {F H : Hp} {a : Addr} {xs : List V} {σ : L2.St} {i : Nat} {R : It → Hp → Prop} (hk : SeqB K F a xs) (e : Same F H) (e0 : σ[i]? = some (some (.ref a))) (h : ∀ J F' H', Stp [] F H F' H' → Src F' J xs.length (fun i x => xs.reverse[i]? = some x) → R J H') :
    iEither (iList K (tRevL K (tVar i))) (iTup K (tRevT K (tVar i))) σ H R := by
  have hl : xs.length = xs.reverse.length := (List.length_reverse ..).symm
  rcases hk with hk | hk
  · refine .inl ⟨.ref a, e0, a, xs, rfl, same_l e hk, fun p hp => ⟨p, rfl, ⟨_, .inl (.inl upd_same)⟩, h _ (upd F p (.lst xs.reverse)) _ (Stp.new e hp) ?_⟩⟩
    rw [hl]
    exact src_l (.inl (.inl upd_same))
  · refine .inr ⟨.ref a, e0, a, xs, rfl, same_t e hk, fun p hp => ⟨p, rfl, ⟨_, .inl (.inl upd_same)⟩, h _ (upd F p (.tup xs.reverse)) _ (Stp.new e hp) ?_⟩⟩
    rw [hl]
    exact src_t (.inl (.inl upd_same))
theorem eff_cons {δ : List (List Nat)} {c n x s : Nat} (W : WF c n δ) (hx : x < c) (hs : s < n) (u : List Nat) : (effM δ u)[dl δ s x]? = some (ledM δ s (x :: u)) := by
  obtain ⟨_, _, _, h⟩ := W.dl_at hs hx
  exact eff_at u (by rw [W.len]; exact h)
theorem drop_rev {w : List Nat} {i z : Nat} (h : w.reverse[i]? = some z) : i < w.length ∧ w.drop (w.length - (i + 1)) = z :: w.drop (w.length - i) := by
  have hi : i < w.length := by
    have q := (List.getElem?_eq_some_iff.mp h).1
    rwa [List.length_reverse] at q
  refine ⟨hi, ?_⟩
  rw [List.getElem?_reverse hi] at h
  have hlt : w.length - (i + 1) < w.length := by omega
  rw [List.drop_eq_getElem_cons hlt, show w.length - (i + 1) + 1 = w.length - i by omega]
  rw [show w.length - 1 - i = w.length - (i + 1) by omega, List.getElem?_eq_getElem hlt] at h
  rw [Option.some.inj h]
section
variable {P : Program} {w : World} {K : PySem.W.Frag} {mg : Str → Option Value} {base : Heap}
theorem sc_law_led : FnScope ["_law_steps", "_law_state", "_law_row_here", "_law_command"] ["_law_steps", "_law_state", "_law_row_here"] (defScope s_law_led) := ⟨rfl, rfl, rfl, by decide +kernel, rfl, by decide +kernel, by decide +kernel⟩
theorem bn_law_led : BindN d_law_led ["_law_steps", "_law_state", "_law_row_here"] := fun _ _ _ _ _ _ us hl => match us, hl with | [_, _, _], _ => rfl
theorem ok_law_led (T : Top P w K mg base) : Cal P w K mg base d_law_led "_law_led" 1 ["_law_steps", "_law_state", "_law_row_here"] (spLedL K) := by
  refine T.cal 40 37 rfl rfl rfl rfl rfl sc_law_led bn_law_led (fun vs H Q E h => ?_) fun f cdv A outer s H vs Q E hr h => ?_
  · obtain ⟨_, _, _, _, _, _, _, _, rfl, _⟩ := h
    rfl
  have nd := (sc_law_led).nd
  refine ⟨_, (pss_cons (ps_for (passes_of rfl) rfl (pi_either (pi_list (pv 2)) (pi_tup (pv 2))) (pg_name (i := 3) nd rfl (.inl rfl))
      (pss_one (ps_set (i := 1) nd rfl (.inl rfl) (pe_ix ix_both (pe_ix ix_both (pv 0) (pv 1) (fun _ _ => rfl)) (pv 3) (fun _ _ => rfl)))))
    (pss_one (ps_ret (pv 1)))), ?_⟩
  obtain ⟨F, v, c, n, δ, s, a, w, rfl, hF, hv, W, hs, hw, hc, q⟩ := h
  refine either_srcB hw hF rfl fun J src => for_do src (fun i σ H' => H' = H ∧ ∃ y, σ = [some v, some (vN (ledM δ s (w.take i))), some (.ref a), y]) (fun i σ H' h => by rw [h.1]; exact hF) ⟨rfl, none, rfl⟩ (fun i x σ H' hi hx hp => ?_) fun σ H' hp => ?_
  · obtain ⟨rfl, y, rfl⟩ := hp
    obtain ⟨z, hz, rfl⟩ := vN_at hx
    have hin : ledM δ s (w.take i) < n := W.led_lt _ _ hs fun u hu => hc u (List.mem_of_mem_take hu)
    have hzc := hc z (List.mem_of_getElem? hz)
    obtain ⟨r, h1, h2, _⟩ := W.dl_at hin hzc
    refine ⟨v, rfl, _, rfl, ixB_dl hv hF (by rw [List.getElem?_map, h1] <;> rfl) fun u hu => ⟨_, rfl, ixB_dl hu hF (get_nD h2) fun y hy => ?_⟩⟩
    rw [hy.int_inv]
    refine ⟨rfl, some (vN z), ?_⟩
    rw [take_snoc hz, led_snoc] <;> rfl
  · obtain ⟨rfl, y, rfl⟩ := hp
    refine ⟨_, rfl, ?_⟩
    rw [List.length_map, List.take_length]
    exact q

theorem sc_law_effect : FnScope ["_law_steps", "_law_row_here", "_law_state"] ["_law_steps", "_law_row_here"] (defScope s_law_effect) := ⟨rfl, rfl, rfl, by decide +kernel, rfl, by decide +kernel, by decide +kernel⟩
theorem bn_law_effect : BindN d_law_effect ["_law_steps", "_law_row_here"] := fun _ _ _ _ _ _ us hl => match us, hl with | [_, _], _ => rfl
theorem ok_law_effect (T : Top P w K mg base) : Cal P w K mg base d_law_effect "_law_effect" 2 ["_law_steps", "_law_row_here"] (spEffL K) := by
  refine T.cal 41 38 rfl rfl rfl rfl rfl sc_law_effect bn_law_effect (fun vs H Q E h => ?_) fun f cdv A outer s H vs Q E hr h => ?_
  · obtain ⟨_, _, _, _, _, _, _, rfl, _⟩ := h
    rfl
  have nd := (sc_law_effect).nd
  refine ⟨_, (pss_one (ps_ret (pe_callTy cl_tup (by rfl) T.n_tuple bt_tuple (pa_cons (pe_lc (own := [("_law_state", 2)]) (g := (gName 2)) (tt := tYes) (te := (tCall (spLedL K) [] C8.E0 (tCons (tVar 0) (tCons (tVar 2) (tCons (tVar 1) tNil))))) rfl nd (pi_range1 (by rfl) T.n_range (pa_cons (pe_callB cl_len (by rfl) T.n_len bt_len (pa_cons (pv 0) pa_nil)) pa_nil)) (blkOk_by (by kernel_rfl)) (fun _ _ _ _ _ => (pg_name (i := 2) nd rfl (.inl rfl))) (fun _ _ _ _ _ => pts_nil) (fun _ _ _ _ _ => (pe_cal (ok_law_led T) hr (by decide) (by rfl) (pa_cons (pv 0) (pa_cons (pv 2) (pa_cons (pv 1) pa_nil)))))) pa_nil)))), ?_⟩
  obtain ⟨F, v, c, n, δ, a, w, rfl, hF, hv, W, hw, hc, q⟩ := h
  have hn := W.n6
  obtain ⟨b, xs, rfl, hb, hall⟩ := hv.lst_inv
  have hxl : xs.length = n := by rw [hall.len, List.length_map, W.len]
  refine ⟨.ref b, rfl, b, xs, rfl, .inl (same_l hF hb), (n : Int), by rw [hxl], by omega, by omega, ?_⟩
  rw [Int.toNat_natCast]
  refine lc_do (S := []) (src_r (F := F)) hF (fun a h => by cases h) (by rw [sizeLine_eq]; omega) (fun i acc _ _ => acc = ((effM δ w).take i).map vN) rfl (fun i y acc F2 H2 hi hy st2 hp Y N hY hN => ?_) fun D acc F2 H2 st2 hD mu hl hp => ?_
  · have hy' : y = vN i := by rw [hy, Int.zero_add] <;> rfl
    subst hy'
    refine ⟨rfl, lc_yes ⟨.ref b, rfl, vN i, rfl, .ref a, rfl, F2, .ref b, c, n, δ, i, a, w, rfl, st2.fh, hv.up st2.ff, W, hi, hw.up st2.ff, hc, ?_⟩⟩
    refine hY _ F2 H2 (Stp.refl st2.fh) ?_
    rw [hp, take_snoc (eff_at w (by rw [W.len]; exact hi)), List.map_append] <;> rfl
  · refine ⟨D, acc, rfl, .inl ⟨.inl (.inl mu.at_), fun l hl => ?_⟩⟩
    refine q _ _ _ (st2.tup hl) (.of_tN (.inl (.inl ?_)))
    rw [upd_same, hp, List.take_of_length_le (by rw [eff_len, W.len]; exact Nat.le_refl _)]

theorem sc_law_behind : FnScope ["_law_steps", "_law_row_here", "_law_led_here", "_law_found", "_law_command", "_law_state"] ["_law_steps", "_law_row_here"] (defScope s_law_behind) := ⟨rfl, rfl, rfl, by decide +kernel, rfl, by decide +kernel, by decide +kernel⟩
theorem bn_law_behind : BindN d_law_behind ["_law_steps", "_law_row_here"] := fun _ _ _ _ _ _ us hl => match us, hl with | [_, _], _ => rfl
theorem ok_law_behind (T : Top P w K mg base) : Cal P w K mg base d_law_behind "_law_behind" 1 ["_law_steps", "_law_row_here"] (spBeh K) := by
  refine T.cal 47 44 rfl rfl rfl rfl rfl sc_law_behind bn_law_behind (fun vs H Q E h => ?_) fun f cdv A outer s H vs Q E hr h => ?_
  · obtain ⟨_, _, _, _, _, _, _, rfl, _⟩ := h
    rfl
  have nd := (sc_law_behind).nd
  refine ⟨_, (pss_cons (ps_set (i := 2) nd rfl (.inr rfl) (pe_listRg rfl (by rfl) T.n_list (prg_1 (by rfl) T.n_range (pe_callB cl_len (by rfl) T.n_len bt_len (pa_cons (pv 0) pa_nil)))))
    (pss_cons (ps_set (i := 3) nd rfl (.inl rfl) (pe_lst (pa_cons (pe_callTy cl_tup (by rfl) T.n_tuple bt_tuple (pa_cons (pv 2) pa_nil)) pa_nil)))
    (pss_cons (ps_for (passes_of rfl) rfl (pi_either (pi_list (pe_revL (pv 1))) (pi_tup (pe_revT (pv 1)))) (pg_name (i := 4) nd rfl (.inr rfl))
      (pss_cons (ps_set (i := 2) nd rfl (.inr rfl) (pe_lc (own := [("_law_state", 5)]) (g := (gName 5)) (tt := tYes) (te := (tOp (rIxB K) (tVar 2) (tOp (rIxB K) (tOp (rIxB K) (tVar 0) (tVar 5)) (tVar 4)))) rfl nd (pi_range1 (by rfl) T.n_range (pa_cons (pe_callB cl_len (by rfl) T.n_len bt_len (pa_cons (pv 0) pa_nil)) pa_nil)) (blkOk_by (by kernel_rfl)) (fun _ _ _ _ _ => (pg_name (i := 5) nd rfl (.inl rfl))) (fun _ _ _ _ _ => pts_nil) (fun _ _ _ _ _ => (pe_ix ix_both (pv 2) (pe_ix ix_both (pe_ix ix_both (pv 0) (pv 5) (fun _ _ => rfl)) (pv 4) (fun _ _ => rfl)) (fun _ _ => rfl)))))
    (pss_one (ps_expr (pe_bm PySem.F.plainAttrs_list PySem.F.slot_list_append PySem.F.type_list_append mt_append (pv 3) (pa_cons (pe_callTy cl_tup (by rfl) T.n_tuple bt_tuple (pa_cons (pe_lc (own := [("_law_state", 5)]) (g := (gName 5)) (tt := tYes) (te := (tBM K "list" (rIndex K) (tVar 2) (tCons (tVar 5) tNil))) rfl nd (pi_list (pv 2)) (blkOk_by (by kernel_rfl)) (fun _ _ _ _ _ => (pg_name (i := 5) nd rfl (.inl rfl))) (fun _ _ _ _ _ => pts_nil) (fun _ _ _ _ _ => (pe_bm PySem.F.plainAttrs_list PySem.F.slot_list_index PySem.F.type_list_index mt_index (pv 2) (pa_cons (pv 5) pa_nil)))) pa_nil)) pa_nil))))))
    (pss_one (ps_ret (pe_revL (pv 3))))))), ?_⟩
  obtain ⟨F, v, c, n, δ, a, w, rfl, hF, hv, W, hw, hc, hwl, q⟩ := h
  have hn := W.n6
  obtain ⟨b, xs, rfl, hb, hall⟩ := hv.lst_inv
  have hxl : xs.length = n := by rw [hall.len, List.length_map, W.len]
  refine ⟨.ref b, rfl, b, xs, rfl, .inl (same_l hF hb), _, rfl, RgOk.of_le (by omega) (by omega) (by omega) (by omega), fun p hp => ⟨.ref p, rfl, p, _, rfl, .inl ⟨.inl (.inl upd_same), fun p2 hp2 => ⟨(show 1 ≤ sizeLine by decide), fun f hf => ?_⟩⟩⟩⟩
  rw [hxl, rgV_nat] at hp2 hf ⊢
  have s1 := Stp.new (S := []) (o := .lst ((List.range n).map vN)) hF hp
  have dl1 : Dp K (upd F p (.lst ((List.range n).map vN))) (.ref p) (lN (List.range n)) := dp_lst hF hp (all_nats _)
  have s2 := s1.tup (xs := (List.range n).map vN) hp2
  have dl2 : Dp K _ (.ref p2) (tN (List.range n)) := dp_tup s1.fh hp2 (all_nats _)
  replace dl1 := dl1.up (Stp.new (S := []) (o := .tup ((List.range n).map vN)) s1.fh hp2).ff
  generalize upd (upd F p (.lst ((List.range n).map vN))) p2 (.tup ((List.range n).map vN)) = F2 at s2 dl1 dl2
  generalize upd (upd H p (.lst ((List.range n).map vN))) p2 (.tup ((List.range n).map vN)) = H2 at s2 hf ⊢
  have hfH := s2.none_ hf
  have s3 := s2.trans (Stp.newM (S := []) (o := .lst [.ref p2]) s2.fh hf)
  have mf : Mu F2 (upd H2 f (.lst [.ref p2])) f (.lst [.ref p2]) := Mu.new s2.fh hf
  rw [← ker_nil W] at dl2
  have er : List.range n = effM δ [] := by
    refine List.ext_getElem? fun i => ?_
    by_cases hi : i < n
    · rw [List.getElem?_range hi, eff_at [] (by rw [W.len]; exact hi)] <;> rfl
    · rw [List.getElem?_eq_none (by rw [List.length_range]; omega), List.getElem?_eq_none (by rw [eff_len, W.len]; omega)]
  rw [er] at dl1
  refine rev_src (hw.up s3.ff) s3.fh rfl fun J F4 H4 s4 src => ?_
  rw [List.length_map] at src
  have e24 := s4.ff
  have s4' := s3.trans s4
  have mf4 := s4.mu0 mf
  refine for_do src (fun i σ H' => ∃ F' le y1 y2 fl, σ = [some (.ref b), some (.ref a), some le, some (.ref f), y1, y2] ∧ Stp [] F H F' H' ∧ Same F4 F' ∧ Dp K F' le (lN (effM δ (w.drop (w.length - i)))) ∧ Mu F' H' f (.lst fl) ∧ DpAll K F' fl ((List.range (i + 1)).map fun j => tN (kerM δ (w.drop (w.length - j))))) (fun i σ H' h => ?_) ⟨F4, _, none, none, _, rfl, s4', Same.refl _, ?_, mf4, ?_⟩ (fun i x σ H' hi hx hp => ?_) fun σ H' hp => ?_
  · obtain ⟨F', _, _, _, _, _, st, e, _⟩ := h
    exact e.trans st.fh
  · rw [Nat.sub_zero, List.drop_length]
    exact dl1.up e24
  · rw [show ((List.range (0 + 1)).map fun j => tN (kerM δ (w.drop (w.length - j)))) = [tN (kerM δ (w.drop (w.length - 0)))] from rfl, Nat.sub_zero, List.drop_length]
    exact .cons (dl2.up e24) .nil
  · obtain ⟨F5, le, y1, y2, fl, rfl, s5, e5, dle, mf5, dfl⟩ := hp
    rw [← List.map_reverse] at hx
    obtain ⟨z, hz, rfl⟩ := vN_at hx
    obtain ⟨_, hdr⟩ := drop_rev hz
    have hzc : z < c := hc z (List.mem_reverse.mp (List.mem_of_getElem? hz))
    generalize hu : w.drop (w.length - i) = u at dle hdr
    refine ⟨.ref b, rfl, b, xs, rfl, .inl (same_l (s5.ff.trans s5.fh) hb), (n : Int), by rw [hxl], by omega, by omega, ?_⟩
    rw [Int.toNat_natCast]
    refine lc_do (S := []) (src_r (F := F5)) s5.fh (fun a h => by cases h) (by rw [sizeLine_eq]; omega) (fun j acc _ _ => acc = ((effM δ (z :: u)).take j).map vN) rfl (fun j y acc F6 H6 hj hy st6 hp Y N hY hN => ?_) fun D acc F6 H6 st6 hD mu hl hp => ?_
    · have hy' : y = vN j := by rw [hy, Int.zero_add] <;> rfl
      subst hy'
      obtain ⟨r, h1, h2, _⟩ := W.dl_at hj hzc
      refine ⟨rfl, lc_yes ⟨le, rfl, .ref b, rfl, vN j, rfl, ixB_dl ((hv.up s5.ff).up st6.ff) st6.fh (by rw [List.getElem?_map, h1] <;> rfl) fun uu huu => ⟨vN z, rfl, ixB_dl huu st6.fh (get_nD h2) fun yy hyy => ?_⟩⟩⟩
      rw [hyy.int_inv]
      refine ixB_dl (dle.up st6.ff) st6.fh (get_nD (eff_cons W hzc hj u)) fun q1 hq1 => ?_
      rw [hq1.int_inv]
      refine hY _ F6 H6 (Stp.refl st6.fh) ?_
      rw [hp, take_snoc (eff_at (z :: u) (by rw [W.len]; exact hj)), List.map_append] <;> rfl
    · rw [List.take_of_length_le (by rw [eff_len, W.len]; exact Nat.le_refl _)] at hp
      have hall6 : DpAll K F6 acc ((effM δ (z :: u)).map nD) := by
        rw [hp]
        exact all_nats _
      have hsq : SqL K (upd F6 D (.lst acc)) D ((effM δ (z :: u)).map vN) := by
        rw [hp]
        exact .inl (.inl upd_same)
      obtain ⟨s6, e6, d6⟩ := frz_l st6 hD mu hall6
      have mf6 := (st6.mu0 mf5).frzO (p := D) (u := .lst acc) (mf5.ne hD)
      generalize upd F6 D (.lst acc) = F7 at s6 e6 d6 hsq mf6
      have s7 := s5.trans s6
      have hel : ((effM δ (z :: u)).map vN).length = n := by rw [List.length_map, eff_len, W.len]
      refine ⟨.ref f, rfl, .inl ⟨rfl, _, .inl (.inl mf6.at_)⟩, .ref D, rfl, D, rfl, ⟨_, same_l s7.fh hsq⟩, ?_⟩
      refine lc_do (S := []) (src_l hsq) s7.fh (fun a h => by cases h) (by rw [sizeLine_eq, hel]; omega) (fun j acc _ _ => acc = ((kerM δ (z :: u)).take j).map vN) rfl (fun j y acc F8 H8 hj hy st8 hp8 Y N hY hN => ?_) fun D2 acc2 F8 H8 st8 hD2 mu2 hl2 hp8 => ?_
      · obtain ⟨t, ht, rfl⟩ := vN_at hy
        refine ⟨rfl, lc_yes ⟨.ref D, rfl, .inl ⟨rfl, _, same_l (st8.ff.trans st8.fh) hsq⟩, vN t, rfl, idx_l ht hsq (st8.ff.trans st8.fh) (hY _ F8 H8 (Stp.refl st8.fh) ?_)⟩⟩
        rw [hp8]
        unfold kerM
        rw [take_snoc (kerOf_at ht), List.map_append] <;> rfl
      · rw [hel, List.take_of_length_le (by rw [ker_len W]; exact Nat.le_refl _)] at hp8
        have mf8 := st8.mu0 mf6
        refine ⟨D2, acc2, rfl, .inl ⟨.inl (.inl mu2.at_), fun p9 hp9 => ?_⟩⟩
        have st9 := Stp.new (S := []) (o := .tup acc2) st8.fh hp9
        have mf9 := st9.mu0 mf8
        have s9 := (s7.trans st8).trans st9
        have e9 := st8.ff.trans st9.ff
        have d9 : Dp K (upd F8 p9 (.tup acc2)) (.ref p9) (tN (kerM δ (z :: u))) := dp_tup st8.fh hp9 (by rw [hp8]; exact all_nats _)
        generalize upd F8 p9 (.tup acc2) = F9 at s9 e9 mf9 d9
        generalize upd H8 p9 (.tup acc2) = H9 at s9 mf9 ⊢
        have hfl : fl.length = i + 1 := by rw [dfl.len, List.length_map, List.length_range]
        have hfH0 : H f = none := hfH
        refine ⟨f, fl, .ref p9, rfl, rfl, mf9.at_, by rw [hfl, sizeLine_eq]; omega, F9, .ref D, _, _, fl ++ [.ref p9], rfl, s9.write (.inl hfH0) mf9, ((e5.trans st6.ff).trans e6).trans e9, ?_, mf9.wrote, ?_⟩
        · rw [hdr]
          exact d6.up e9
        · rw [List.range_succ, List.map_append]
          refine (((dfl.up st6.ff).up e6).up e9).snoc ?_
          show Dp K F9 (.ref p9) (tN (kerM δ (w.drop (w.length - (i + 1)))))
          rw [hdr]
          exact d9
  · obtain ⟨F5, le, y1, y2, fl, rfl, s5, e5, dle, mf5, dfl⟩ := hp
    refine ⟨.ref f, rfl, f, fl, rfl, .inl (.inl mf5.at_), fun p3 hp3 => ?_⟩
    refine q _ _ _ (s5.lst (xs := fl.reverse) hp3) (dp_lst s5.fh hp3 ?_)
    have z := dfl.rev
    have e : ((List.range (w.length + 1)).map fun j => tN (kerM δ (w.drop (w.length - j)))).reverse = (behM δ w).map tN := by
      unfold behM
      rw [List.map_map]
      refine List.ext_getElem? fun i => ?_
      by_cases hi : i < w.length + 1
      · rw [List.getElem?_reverse (by rw [List.length_map, List.length_range]; exact hi), List.length_map, List.length_range, List.getElem?_map, List.getElem?_map, List.getElem?_range (by omega), List.getElem?_range hi]
        show some (tN (kerM δ (w.drop (w.length - (w.length + 1 - 1 - i))))) = some (tN (kerM δ (w.drop i)))
        rw [show w.length - (w.length + 1 - 1 - i) = i by omega]
      · rw [List.getElem?_eq_none (by rw [List.length_reverse, List.length_map, List.length_range]; omega), List.getElem?_eq_none (by rw [List.length_map, List.length_range]; omega)]
    rw [← e]
    exact z

end
end K11


set_option Elab.async false
set_option linter.all false
set_option maxRecDepth 100000
set_option maxHeartbeats 4000000
/-! _law_blind, _law_places, _law_part, _law_least. -/
namespace K11
open PySem PySem.Spec PyProof.Rows L2
/-- tuples of states -/
def Kers (n : Nat) (ks : List (List Nat)) : Prop := ∀ κ ∈ ks, κ.length = n ∧ ∀ t ∈ κ, t < n
/-- some kernel is torn by a command -/
def Torn (c n : Nat) (δ : List (List Nat)) (ks : List (List Nat)) : Prop := ∃ κ ∈ ks, ∃ s x, s < n ∧ x < c ∧ κ.getD (dl δ s x) 0 ≠ κ.getD (dl δ (κ.getD s 0) x) 0
def spBlindL (K : PySem.W.Frag) : Sp := fun vs H Q _ => ∃ (F : Hp) (v v2 : V) (c n : Nat) (δ : List (List Nat)) (ks : List (List Nat)), vs = [v, v2] ∧ Same F H ∧ StD K F v δ ∧ WF c n δ ∧ Dp K F v2 (.list (ks.map tN)) ∧ Kers n ks ∧ ∀ b, (b = true ↔ Torn c n δ ks) → Q (.bl b) H
def spPlL (K : PySem.W.Frag) : Sp := fun vs H Q _ => ∃ (F : Hp) (v : V) (d : PyData) (m : Nat), vs = [v, vN m] ∧ Same F H ∧ Any K F v d ∧ ∀ b, (b = true ↔ IsPl d m) → Q (.bl b) H
def spPartL (K : PySem.W.Frag) : Sp := fun vs H Q _ => ∃ (F : Hp) (a b : Addr) (u v : List Nat), vs = [.ref a, .ref b] ∧ Same F H ∧ SeqB K F a (u.map vN) ∧ SeqB K F b (v.map vN) ∧ u.length ≤ 1000 ∧ v.length ≤ 1000 ∧ Back [] F H Q fun r _ _ => r = .bl (decide (u.Sublist v))
section
variable {P : Program} {w : World} {K : PySem.W.Frag} {mg : Str → Option Value} {base : Heap}
theorem sc_law_blind : FnScope ["_law_steps", "_law_listed", "_law_one", "_law_state", "_law_command"] ["_law_steps", "_law_listed"] (defScope s_law_blind) := ⟨rfl, rfl, rfl, by decide +kernel, rfl, by decide +kernel, by decide +kernel⟩
theorem bn_law_blind : BindN d_law_blind ["_law_steps", "_law_listed"] := fun _ _ _ _ _ _ us hl => match us, hl with | [_, _], _ => rfl
theorem ok_law_blind (T : Top P w K mg base) : Cal P w K mg base d_law_blind "_law_blind" 1 ["_law_steps", "_law_listed"] (spBlindL K) := by
  refine T.cal 46 43 rfl rfl rfl rfl rfl sc_law_blind bn_law_blind (fun vs H Q E h => ?_) fun f cdv A outer s H vs Q E hr h => ?_
  · obtain ⟨_, _, _, _, _, _, _, rfl, _⟩ := h
    rfl
  have nd := (sc_law_blind).nd
  refine ⟨_, (pss_cons (ps_for (passes_of rfl) rfl (pi_list (pv 1)) (pg_name (i := 2) nd rfl (.inl rfl))
      (pss_one (ps_for (passes_of rfl) rfl (pi_range1 (by rfl) T.n_range (pa_cons (pe_callB cl_len (by rfl) T.n_len bt_len (pa_cons (pv 0) pa_nil)) pa_nil)) (pg_name (i := 3) nd rfl (.inl rfl))
      (pss_one (ps_for (passes_of rfl) rfl (pi_range1 (by rfl) T.n_range (pa_cons (pe_callB cl_len (by rfl) T.n_len bt_len (pa_cons (pe_ix ix_both (pv 0) pe_int (fun _ _ => rfl)) pa_nil)) pa_nil)) (pg_name (i := 4) nd rfl (.inl rfl))
      (pss_one (ps_if (pt_cmpR op_ne (pe_ix ix_both (pv 2) (pe_ix ix_both (pe_ix ix_both (pv 0) (pv 3) (fun _ _ => rfl)) (pv 4) (fun _ _ => rfl)) (fun _ _ => rfl)) (pe_ix ix_both (pv 2) (pe_ix ix_both (pe_ix ix_both (pv 0) (pe_ix ix_both (pv 2) (pv 3) (fun _ _ => rfl)) (fun _ _ => rfl)) (pv 4) (fun _ _ => rfl)) (fun _ _ => rfl)) (nomark _))
      (pss_one (ps_ret pe_bl))
      pss_nil)))))))
    (pss_one (ps_ret pe_bl))), ?_⟩
  obtain ⟨F, v, v2, c, n, δ, ks, rfl, hF, hv, W, hv2, hk, q⟩ := h
  have hn := W.n6
  have hc := W.c3
  have hv' := hv
  obtain ⟨b, xs, rfl, hb, hall⟩ := L2.Dp.lst_inv hv'
  have hxl : xs.length = n := by rw [hall.len, List.length_map, W.len]
  obtain ⟨b2, ys, rfl, hb2, hall2⟩ := hv2.lst_inv
  have hyl : ys.length = ks.length := by rw [hall2.len, List.length_map]
  refine ⟨.ref b2, rfl, b2, rfl, ⟨_, same_l hF hb2⟩, ?_⟩
  refine for_do (src_l hb2) (fun i σ H' => H' = H ∧ (∃ y1 y2 y3, σ = [some (.ref b), some (.ref b2), y1, y2, y3]) ∧ ∀ κ ∈ ks.take i, ∀ s x, s < n → x < c → κ.getD (dl δ s x) 0 = κ.getD (dl δ (κ.getD s 0) x) 0) (fun i σ H' h => by rw [h.1]; exact hF) ⟨rfl, ⟨none, none, none, rfl⟩, fun κ h => by cases h⟩ (fun i x σ H1 hi hx hp => ?_) fun σ H' hp => ?_
  · obtain ⟨rfl, ⟨y1, y2, y3, rfl⟩, hgood⟩ := hp
    have hi' : i < ks.length := by omega
    have ei : ks[i]? = some ks[i] := List.getElem?_eq_getElem hi'
    have hmem := List.getElem_mem hi'
    have dκ : Dp K F x (tN ks[i]) := hall2.at hx (by rw [List.getElem?_map, ei] <;> rfl)
    obtain ⟨hkl, hkt⟩ := hk _ hmem
    have hksn := take_snoc ei
    generalize ks[i] = κ at ei hmem dκ hkl hkt hksn
    refine ⟨.ref b, rfl, b, xs, rfl, .inl (same_l hF hb), (n : Int), by rw [hxl], by omega, by omega, ?_⟩
    rw [Int.toNat_natCast]
    refine for_do (src_r (F := F)) (fun s σ H' => H' = H1 ∧ (∃ y2 y3, σ = [some (.ref b), some (.ref b2), some x, y2, y3]) ∧ ∀ s', s' < s → ∀ x, x < c → κ.getD (dl δ s' x) 0 = κ.getD (dl δ (κ.getD s' 0) x) 0) (fun i σ H' h => by rw [h.1]; exact hF) ⟨rfl, ⟨y2, y3, rfl⟩, fun s h => absurd h (Nat.not_lt_zero s)⟩ (fun s z σ H2 hs hz hp => ?_) fun σ H' hp => ?_
    · obtain ⟨rfl, ⟨y2, y3, rfl⟩, hg2⟩ := hp
      have hz' : z = vN s := by rw [hz, Int.zero_add] <;> rfl
      subst hz'
      obtain ⟨r0, e0, hr0, _⟩ := W.get W.n1
      refine ⟨.ref b, rfl, ixB_dl (i := 0) hv hF (by rw [List.getElem?_map, e0] <;> rfl) fun u hu => ?_⟩
      obtain ⟨b0, rfl, hb0⟩ := hu.lN_inv
      refine ⟨b0, _, rfl, .inl (same_l hF hb0), (c : Int), by rw [List.length_map, hr0], by omega, by omega, ?_⟩
      rw [Int.toNat_natCast]
      refine for_do (src_r (F := F)) (fun t σ H' => H' = H2 ∧ (∃ y3, σ = [some (.ref b), some (.ref b2), some x, some (vN s), y3]) ∧ ∀ x, x < t → κ.getD (dl δ s x) 0 = κ.getD (dl δ (κ.getD s 0) x) 0) (fun i σ H' h => by rw [h.1]; exact hF) ⟨rfl, ⟨y3, rfl⟩, fun s h => absurd h (Nat.not_lt_zero s)⟩ (fun t z σ H3 ht hz hp => ?_) fun σ H' hp => ?_
      · obtain ⟨rfl, ⟨y3, rfl⟩, hg3⟩ := hp
        have hz' : z = vN t := by rw [hz, Int.zero_add] <;> rfl
        subst hz'
        have hks : κ.getD s 0 < n := hkt _ (List.mem_of_getElem? (getD_some (by rw [hkl]; exact hs)))
        obtain ⟨ra, a1, a2, a3⟩ := W.dl_at hs ht
        obtain ⟨rb, b1, b2', b3⟩ := W.dl_at hks ht
        refine ⟨x, rfl, .ref b, rfl, vN s, rfl, ixB_dl hv hF (by rw [List.getElem?_map, a1] <;> rfl) fun uu huu => ⟨vN t, rfl, ixB_dl huu hF (get_nD a2) fun yy hyy => ?_⟩⟩
        rw [hyy.int_inv]
        refine ix_tN dκ hF (getD_some (by rw [hkl]; exact a3)) ⟨x, rfl, .ref b, rfl, x, rfl, vN s, rfl, ix_tN dκ hF (getD_some (by rw [hkl]; exact hs)) (ixB_dl hv hF (by rw [List.getElem?_map, b1] <;> rfl) fun uu huu => ⟨vN t, rfl, ixB_dl huu hF (get_nD b2') fun yy hyy => ?_⟩)⟩
        rw [hyy.int_inv]
        refine ix_tN dκ hF (getD_some (by rw [hkl]; exact b3)) ⟨rfl, _, rfl, ?_⟩
        rw [dec_vN]
        by_cases he : κ.getD (dl δ s t) 0 = κ.getD (dl δ (κ.getD s 0) t) 0
        · rw [decide_eq_true he]
          refine iteF ⟨rfl, ⟨_, rfl⟩, fun x hx => ?_⟩
          by_cases hxt : x = t
          · rw [hxt]
            exact he
          · exact hg3 x (by omega)
        · rw [decide_eq_false he]
          exact iteT (q true ⟨fun _ => ⟨κ, hmem, s, t, hs, ht, he⟩, fun _ => rfl⟩)
      · obtain ⟨rfl, ⟨y3, rfl⟩, hg3⟩ := hp
        refine ⟨rfl, ⟨_, _, rfl⟩, fun s' hs' => ?_⟩
        by_cases hss : s' = s
        · rw [hss]
          exact hg3
        · exact hg2 s' (by omega)
    · obtain ⟨rfl, ⟨y2, y3, rfl⟩, hg2⟩ := hp
      refine ⟨rfl, ⟨_, _, _, rfl⟩, fun κ' hκ' => ?_⟩
      rw [hksn] at hκ'
      rcases List.mem_append.mp hκ' with z | z
      · exact hgood κ' z
      · rw [List.mem_singleton.mp z]
        exact fun s x hs hx => hg2 s hs x hx
  · obtain ⟨rfl, ⟨y1, y2, y3, rfl⟩, hgood⟩ := hp
    rw [hyl, List.take_length] at hgood
    refine q false ⟨fun z => (by cases z), fun z => ?_⟩
    obtain ⟨κ, hκ, s, x, hs, hx, he⟩ := z
    exact absurd (hgood κ hκ s x hs hx) he


theorem sc_law_places : FnScope ["_law_value", "_law_many", "_law_last", "_law_at"] ["_law_value", "_law_many"] (defScope s_law_places) := ⟨rfl, rfl, rfl, by decide +kernel, rfl, by decide +kernel, by decide +kernel⟩
theorem bn_law_places : BindN d_law_places ["_law_value", "_law_many"] := fun _ _ _ _ _ _ us hl => match us, hl with | [_, _], _ => rfl
theorem ok_law_places (T : Top P w K mg base) : Cal P w K mg base d_law_places "_law_places" 1 ["_law_value", "_law_many"] (spPlL K) := by
  refine T.cal 49 46 rfl rfl rfl rfl rfl sc_law_places bn_law_places (fun vs H Q E h => ?_) fun f cdv A outer s H vs Q E hr h => ?_
  · obtain ⟨_, _, _, _, rfl, _⟩ := h
    rfl
  have nd := (sc_law_places).nd
  refine ⟨_, (pss_cons (ps_if (pt_not (pt_val (pe_callB call_isA (by rfl) T.n_isinstance bt_isinstance (pa_cons (pv 0) (pa_cons (pe_bltn (v := .ty "tuple") (by rfl) T.n_tuple bt_tuple rfl) pa_nil)))))
      (pss_one (ps_ret pe_bl))
      pss_nil)
    (pss_cons (ps_set (i := 2) nd rfl (.inl rfl) (pe_un un_neg pe_int))
    (pss_cons (ps_for (passes_of rfl) rfl (pi_tup (pv 0)) (pg_name (i := 3) nd rfl (.inl rfl))
      (pss_cons (ps_if (pw_or (pt_not (pt_val (pe_callB call_isA (by rfl) T.n_isinstance bt_isinstance (pa_cons (pv 3) (pa_cons (pe_bltn (v := .ty "int") (by rfl) T.n_int bt_int rfl) pa_nil))))) (pw_or (pt_val (pe_callB call_isA (by rfl) T.n_isinstance bt_isinstance (pa_cons (pv 3) (pa_cons (pe_bltn (v := .ty "bool") (by rfl) T.n_bool bt_bool rfl) pa_nil)))) (pw_or1 (pt_not (pt_chain op_lt op_lt (pv 2) (pv 3) (pv 1)))))).pt
      (pss_one (ps_ret pe_bl))
      pss_nil)
    (pss_one (ps_set (i := 2) nd rfl (.inl rfl) (pv 3)))))
    (pss_one (ps_ret pe_bl))))), ?_⟩
  obtain ⟨F, v, d, m, rfl, hF, hv, q⟩ := h
  refine ⟨v, rfl, v, d, "tuple", rfl, rfl, hv.up hF, ?_⟩
  refine ⟨_, rfl, ?_⟩
  by_cases ht : ∃ ds, d = .tuple ds
  · obtain ⟨ds, rfl⟩ := ht
    have e1 : isTy (.tuple ds) "tuple" = true := by rw [isTy_tuple]
    rw [e1]
    obtain ⟨b, xs, rfl, hb, hall⟩ : ∃ b xs, v = .ref b ∧ SqT K F b xs ∧ DpAll K F xs ds := by
      cases hv with
      | d h => exact h.tup_inv
    have hxl : xs.length = ds.length := hall.len
    refine iteF ⟨1, rfl, .ref b, rfl, b, rfl, ⟨_, same_t hF hb⟩, ?_⟩
    refine for_do (src_t hb) (fun i σ H' => H' = H ∧ ∃ y last ks, σ = [some (.ref b), some (vN m), some (.int last), y] ∧ ds.take i = ks.map nD ∧ (∀ k ∈ ks, k < m) ∧ ks.Pairwise (· < ·) ∧ (∀ k : Nat, k ∈ ks → (k : Int) ≤ last) ∧ -1 ≤ last ∧ (last = -1 ∨ ∃ k : Nat, k ∈ ks ∧ last = (k : Int))) (fun i σ H' h => by rw [h.1]; exact hF) ⟨rfl, none, -1, [], rfl, rfl, fun k h => (by cases h), .nil, fun k h => (by cases h), by decide, .inl rfl⟩ (fun i x σ H1 hi hx hp => ?_) fun σ H' hp => ?_
    · obtain ⟨rfl, y, last, ks, rfl, hks, h1, h2, h3, h4, h5⟩ := hp
      have hi' : i < ds.length := by omega
      have ei : ds[i]? = some ds[i] := List.getElem?_eq_getElem hi'
      have hd : Dp K F x ds[i] := hall.at hx ei
      generalize ds[i] = d at ei hd
      have bad : (∀ k : Nat, d = nD k → (last < (k : Int) ∧ k < m) → False) → Q (.bl false) H1 := fun hbad => q false ⟨fun z => (by cases z), fun z => by
        obtain ⟨ks2, e, g1, g2⟩ := z
        injection e with e
        rw [e, List.getElem?_map] at ei
        cases hk : ks2[i]? with
        | none =>
          rw [hk] at ei
          cases ei
        | some k =>
          rw [hk] at ei
          have ek : d = nD k := (Option.some.inj ei).symm
          refine (hbad k ek ⟨?_, g1 k (List.mem_of_getElem? hk)⟩).elim
          rcases h5 with h5 | ⟨k', hk', h5⟩
          · omega
          · have e3 : ks2.take i = ks := map_nD_inj (by rw [← hks, e, List.map_take])
            rw [← e3] at hk'
            obtain ⟨j, hj, ej⟩ := List.mem_iff_getElem.mp hk'
            rw [List.length_take] at hj
            rw [List.getElem_take] at ej
            have hil := (List.getElem?_eq_some_iff.mp hk).1
            have z := (List.pairwise_iff_getElem.mp g2) j i (by omega) hil (by omega)
            rw [List.getElem?_eq_getElem hil] at hk
            rw [ej, Option.some.inj hk] at z
            omega⟩
      refine ⟨x, rfl, x, d, "int", rfl, rfl, .d (hd.up hF), ?_⟩
      refine ⟨_, rfl, ?_⟩
      rw [isTy_int]
      cases d with
      | int j =>
        obtain rfl := hd.int_inv
        refine iteF ⟨_, rfl, _, _, "bool", rfl, rfl, .d (hd.up hF), _, rfl, ?_⟩
        rw [isTy_bool]
        refine iteF ⟨.int last, rfl, .int j, rfl, _, _, rfl, rfl, _, rfl, ?_⟩
        by_cases hl : last < j
        · rw [decide_eq_true hl]
          refine iteT ⟨vN m, rfl, _, _, rfl, rfl, _, rfl, ?_⟩
          by_cases hm : j < (m : Int)
          · rw [decide_eq_true hm]
            refine iteF ⟨.int j, rfl, rfl, some (.int j), j, ks ++ [j.toNat], rfl, ?_, ?_, ?_, ?_, by omega, ?_⟩
            · rw [take_snoc ei, hks, List.map_append]
              congr 1
              show [PyData.int j] = [PyData.int (j.toNat : Int)]
              rw [Int.toNat_of_nonneg (by omega)]
            · intro k hk
              rcases List.mem_append.mp hk with h | h
              · exact h1 k h
              · rw [List.mem_singleton.mp h]
                omega
            · rw [List.pairwise_append]
              refine ⟨h2, List.pairwise_singleton _ _, fun a ha b hb => ?_⟩
              rw [List.mem_singleton.mp hb]
              have z := h3 a ha
              omega
            · intro k hk
              rcases List.mem_append.mp hk with h | h
              · have z := h3 k h
                omega
              · rw [List.mem_singleton.mp h]
                omega
            · exact .inr ⟨_, List.mem_append_right _ List.mem_cons_self, by omega⟩
          · rw [decide_eq_false hm]
            exact iteT (bad fun k e h => hm (by injection e with e; omega))
        · rw [decide_eq_false hl]
          exact iteF ⟨_, rfl, iteT (bad fun k e h => hl (by injection e with e; omega))⟩
      | bool c =>
        refine iteF ⟨_, rfl, _, _, "bool", rfl, rfl, .d (hd.up hF), _, rfl, ?_⟩
        rw [isTy_bool]
        exact iteT (bad fun k e => by cases e)
      | none => exact iteT (bad fun k e => by cases e)
      | str c => exact iteT (bad fun k e => by cases e)
      | list c => exact iteT (bad fun k e => by cases e)
      | tuple c => exact iteT (bad fun k e => by cases e)
      | dict c => exact iteT (bad fun k e => by cases e)
    · obtain ⟨rfl, y, last, ks, rfl, hks, h1, h2, h3, h4, h5⟩ := hp
      rw [hxl, List.take_length] at hks
      exact q true ⟨fun _ => ⟨ks, by rw [hks], h1, h2⟩, fun _ => rfl⟩
  · have e1 : isTy d "tuple" = false := by
      rw [isTy_tuple]
      cases d with
      | tuple ds => exact absurd ⟨_, rfl⟩ ht
      | _ => rfl
    rw [e1]
    refine iteT (q false ⟨fun z => (by cases z), fun z => ?_⟩)
    obtain ⟨ks, e, _⟩ := z
    exact absurd ⟨_, e⟩ ht


/-- l == [], l a list of numbers -/
theorem nil_read {F H : Hp} {l : Addr} {ns : List Nat} {Y : VK} (hl : SqL K H l (ns.map vN)) (hF : Same F H) {σ : L2.St} {i : Nat} (e0 : σ[i]? = some (some (.ref l))) (q : ∀ F' H', Stp [] F H F' H' → Y (.bl ns.isEmpty) H') : tOp (rEqD K) (tVar i) (tLst tNil) σ H Y := by
  refine ⟨.ref l, e0, Nat.zero_le _, fun p hp => ?_⟩
  have st := Stp.new (S := []) (o := .lst []) hF hp
  refine ⟨lN ns, .list [], .of_lN (same_l st.same hl), .lst (.inl (.inl upd_same)) .nil, shaped_lN _, shaped_lZ [], ?_⟩
  rw [eqv_lnil]
  have e : (ns.map nD).isEmpty = ns.isEmpty := by cases ns <;> rfl
  rw [e]
  exact q _ _ st
theorem nnil_read {F H : Hp} {l : Addr} {ns : List Nat} {Y : VK} (hl : SqL K H l (ns.map vN)) (hF : Same F H) {σ : L2.St} {i : Nat} (e0 : σ[i]? = some (some (.ref l))) (q : ∀ F' H', Stp [] F H F' H' → Y (.bl (!ns.isEmpty)) H') : tOp (rNeD K) (tVar i) (tLst tNil) σ H Y := by
  refine ⟨.ref l, e0, Nat.zero_le _, fun p hp => ?_⟩
  have st := Stp.new (S := []) (o := .lst []) hF hp
  refine ⟨lN ns, .list [], .of_lN (same_l st.same hl), .lst (.inl (.inl upd_same)) .nil, shaped_lN _, shaped_lZ [], ?_⟩
  rw [eqv_lnil]
  have e : (ns.map nD).isEmpty = ns.isEmpty := by cases ns <;> rfl
  rw [e]
  exact q _ _ st
theorem sc_law_part : FnScope ["_law_one", "_law_other", "_law_left", "_law_command"] ["_law_one", "_law_other"] (defScope s_law_part) := ⟨rfl, rfl, rfl, by decide +kernel, rfl, by decide +kernel, by decide +kernel⟩
theorem bn_law_part : BindN d_law_part ["_law_one", "_law_other"] := fun _ _ _ _ _ _ us hl => match us, hl with | [_, _], _ => rfl
theorem ok_law_part (T : Top P w K mg base) : Cal P w K mg base d_law_part "_law_part" 1 ["_law_one", "_law_other"] (spPartL K) := by
  refine T.cal 51 48 rfl rfl rfl rfl rfl sc_law_part bn_law_part (fun vs H Q E h => ?_) fun f cdv A outer s H vs Q E hr h => ?_
  · obtain ⟨_, _, _, _, _, rfl, _⟩ := h
    rfl
  have nd := (sc_law_part).nd
  refine ⟨_, (pss_cons (ps_set (i := 2) nd rfl (.inl rfl) (pe_callTy cl_lst (by rfl) T.n_list bt_list (pa_cons (pv 0) pa_nil)))
    (pss_cons (ps_for (passes_of rfl) rfl (pi_either (pi_list (pe_revL (pv 1))) (pi_tup (pe_revT (pv 1)))) (pg_name (i := 3) nd rfl (.inl rfl))
      (pss_one (ps_if (pw_and (pt_cmpR (op_neD hr.units) (pv 2) (pe_lst pa_nil) (nomark _)) (pw_and1 (pt_cmpR op_eq (pe_ix ix_list (pv 2) (pe_un un_neg pe_int) (fun _ _ => rfl)) (pv 3) (nomark _)))).pt
      (pss_one (ps_expr (pe_bm0 PySem.F.plainAttrs_list PySem.F.slot_list_pop PySem.F.type_list_pop mt_pop (pv 2))))
      pss_nil)))
    (pss_one (ps_ret (pe_cmpR (op_eqD hr.units) (pv 2) (pe_lst pa_nil) (nomark _)))))), ?_⟩
  obtain ⟨F, a, b, u, v, rfl, hF, hu, hv, hul, hvl, q⟩ := h
  refine ⟨.ref a, rfl, a, _, rfl, hu.up hF, fun l hl => ?_⟩
  have s1 : Stp [] F H F _ := Stp.newM (o := .lst (u.map vN)) hF hl
  have m1 := Mu.new (o := .lst (u.map vN)) hF hl
  refine rev_src hv s1.fh rfl fun J F4 H4 s4 src => ?_
  rw [List.length_map] at src
  have m4 := s4.mu0 m1
  refine for_do src (fun i σ H' => ∃ F' y, σ = [some (.ref a), some (.ref b), some (.ref l), y] ∧ Stp [] F H F' H' ∧ Same F4 F' ∧ Mu F' H' l (.lst (((u.reverse.drop (gpart u.reverse 0 (v.reverse.take i))).reverse).map vN))) (fun i σ H' h => ?_) ⟨F4, none, rfl, s1.trans s4, Same.refl _, ?_⟩ (fun i x σ H' hi hx hp => ?_) fun σ H' hp => ?_
  · obtain ⟨F', _, _, st, e, _⟩ := h
    exact e.trans st.fh
  · rw [List.take_zero]
    show Mu F4 H4 l (.lst (((u.reverse.drop 0).reverse).map vN))
    rw [List.drop_zero, List.reverse_reverse]
    exact m4
  · obtain ⟨F5, y, rfl, s5, e5, m5⟩ := hp
    rw [← List.map_reverse] at hx
    obtain ⟨z, hz, rfl⟩ := vN_at hx
    have hle := gpart_le (u := u.reverse) (v := v.reverse.take i) (Nat.zero_le _)
    have hsn : gpart u.reverse 0 (v.reverse.take (i + 1)) = if u.reverse[gpart u.reverse 0 (v.reverse.take i)]? = some z then gpart u.reverse 0 (v.reverse.take i) + 1 else gpart u.reverse 0 (v.reverse.take i) := by
      rw [take_snoc hz]
      exact gpart_snoc
    generalize gpart u.reverse 0 (v.reverse.take i) = mm at hle hsn m5
    rw [hsn]
    generalize u.reverse = ur at hle m5 ⊢
    refine nnil_read (.inl (.inl m5.at_)) s5.fh rfl fun F6 H6 s6 => ⟨_, rfl, ?_⟩
    have m6 := s6.mu0 m5
    replace s5 := s5.trans s6
    replace e5 := e5.trans s6.ff
    by_cases hm : mm < ur.length
    · have e1 : ur[mm]? = some ur[mm] := List.getElem?_eq_getElem hm
      have e2 : ur.drop mm = ur[mm] :: ur.drop (mm + 1) := List.drop_eq_getElem_cons hm
      generalize ur[mm] = um at e1 e2
      rw [e2, List.reverse_cons, List.map_append] at m6
      have hne : (!((ur.drop mm).reverse).isEmpty) = true := by
        rw [e2, List.reverse_cons]
        cases (ur.drop (mm + 1)).reverse <;> rfl
      rw [hne]
      refine iteT ⟨.ref l, rfl, 1, rfl, l, _, -1, vN um, rfl, rfl, .inl (.inl m6.at_), atI_last _ _, vN z, rfl, rfl, _, rfl, ?_⟩
      rw [dec_vN, e1]
      by_cases hz2 : um = z
      · rw [decide_eq_true hz2, if_pos (by rw [hz2])]
        refine iteT ⟨.ref l, rfl, .inl ⟨rfl, _, .inl (.inl m6.at_)⟩, l, _, vN um, rfl, rfl, m6.at_, ?_, F6, some (vN z), rfl, s5.write (.inl hl) m6, e5, ?_⟩
        · rw [List.length_append]
          show (((ur.drop (mm + 1)).reverse).map vN ++ [vN um])[(((ur.drop (mm + 1)).reverse).map vN).length + 1 - 1]? = _
          rw [Nat.add_sub_cancel, List.getElem?_append_right (Nat.le_refl _), Nat.sub_self] <;> rfl
        · have z := m6.wrote (u := .lst (((ur.drop (mm + 1)).reverse).map vN))
          have e3 : (((ur.drop (mm + 1)).reverse).map vN ++ [um].map vN).dropLast = ((ur.drop (mm + 1)).reverse).map vN := List.dropLast_concat
          rw [e3]
          exact z
      · rw [decide_eq_false hz2, if_neg fun e => hz2 (Option.some.inj e)]
        refine iteF ⟨F6, some (vN z), rfl, s5, e5, ?_⟩
        rw [e2, List.reverse_cons, List.map_append]
        exact m6
    · have e2 : ur.drop mm = [] := List.drop_eq_nil_of_le (by omega)
      rw [e2]
      refine iteF (iteF ⟨F6, some (vN z), rfl, s5, e5, ?_⟩)
      rw [List.getElem?_eq_none (by omega), if_neg fun e => by cases e]
      exact m6
  · obtain ⟨F5, y, rfl, s5, e5, m5⟩ := hp
    refine nil_read (.inl (.inl m5.at_)) s5.fh rfl fun F6 H6 s6 => ?_
    refine q _ F6 H6 (s5.trans s6) ?_
    have e1 : v.reverse.take v.length = v.reverse := by rw [List.take_of_length_le (by rw [List.length_reverse]; exact Nat.le_refl _)]
    rw [e1]
    congr 1
    rw [Bool.eq_iff_iff, List.isEmpty_iff, decide_eq_true_iff, List.reverse_eq_nil_iff, List.drop_eq_nil_iff]
    have hall := gpart_all (u := u.reverse) (v := v.reverse)
    rw [List.reverse_sublist] at hall
    rw [← hall]
    have hle2 := gpart_le (u := u.reverse) (v := v.reverse) (m := 0) (Nat.zero_le _)
    omega

end
end K11


set_option Elab.async false
set_option linter.all false
set_option maxRecDepth 100000
set_option maxHeartbeats 4000000
/-! _law_least, _law_kernels. -/
namespace K11
open PySem PySem.Spec PyProof.Rows L2
theorem set_count : ∀ {κ : List Nat} {m m2 : List Int}, m.Nodup → m2.Nodup → (∀ x, x ∈ m ↔ x ∈ κ.map fun (x : Nat) => (x : Int)) → (∀ x, x ∈ m2 ↔ x ∈ κ.map fun (x : Nat) => (x : Int)) → m.length = m2.length := fun h1 h2 e1 e2 =>
  Nat.le_antisymm (nodup_len h1 fun x hx => (e2 x).mpr ((e1 x).mp hx)) (nodup_len h2 fun x hx => (e1 x).mpr ((e2 x).mp hx))
/-- k is the number of κ's distinct ones -/
def Cnt (κ : List Nat) (k : Nat) : Prop := ∃ m : List Int, m.Nodup ∧ (∀ x, x ∈ m ↔ x ∈ κ.map fun (x : Nat) => (x : Int)) ∧ k = m.length
theorem Cnt.eq {κ : List Nat} {a b : Nat} (h : Cnt κ a) (k : Cnt κ b) : a = b := by
  obtain ⟨m, h1, h2, rfl⟩ := h
  obtain ⟨m2, k1, k2, rfl⟩ := k
  exact set_count h1 k1 h2 k2
def spLeast (K : PySem.W.Frag) : Sp := fun vs H Q _ => ∃ (F : Hp) (v : V) (ks : List (List Nat)) (n : Nat), vs = [v] ∧ Same F H ∧ Dp K F v (.list (ks.map tN)) ∧ 1 ≤ ks.length ∧ ks.length ≤ 50000 ∧ (∀ κ ∈ ks, κ.length = n) ∧ n ≤ 1000 ∧ Back [] F H Q fun r _ _ => ∃ (k : Nat), r = vN k ∧ (∃ κ ∈ ks, Cnt κ k) ∧ ∀ κ ∈ ks, ∀ j, Cnt κ j → k ≤ j
section
variable {P : Program} {w : World} {K : PySem.W.Frag} {mg : Str → Option Value} {base : Heap}
theorem sc_law_least : FnScope ["_law_listed", "_law_one"] ["_law_listed"] (defScope s_law_least) := ⟨rfl, rfl, rfl, by decide +kernel, rfl, by decide +kernel, by decide +kernel⟩
theorem bn_law_least : BindN d_law_least ["_law_listed"] := fun _ _ _ _ _ _ us hl => match us, hl with | [_], _ => rfl
theorem ok_law_least (T : Top P w K mg base) : Cal P w K mg base d_law_least "_law_least" 1 ["_law_listed"] (spLeast K) := by
  refine T.cal 52 49 rfl rfl rfl rfl rfl sc_law_least bn_law_least (fun vs H Q E h => ?_) fun f cdv A outer s H vs Q E hr h => ?_
  · obtain ⟨_, _, _, _, rfl, _⟩ := h
    rfl
  have nd := (sc_law_least).nd
  refine ⟨_, (pss_one (ps_ret (pe_callB (cr_min rfl) (by rfl) T.n_min bt_min (pa_cons (pe_lc (own := [("_law_one", 1)]) (g := (gName 1)) (tt := tYes) (te := (tLenSetT K (tVar 1))) rfl nd (pi_list (pv 0)) (blkOk_by (by kernel_rfl)) (fun _ _ _ _ _ => (pg_name (i := 1) nd rfl (.inl rfl))) (fun _ _ _ _ _ => pts_nil) (fun _ _ _ _ _ => (pe_lenSetT (by rfl) T.n_len (by rfl) T.n_set (pv 1)))) pa_nil)))), ?_⟩
  obtain ⟨F, v, ks, n, rfl, hF, hv, h1, h2, h3, hn, q⟩ := h
  obtain ⟨a, xs, rfl, ha, hall⟩ := hv.lst_inv
  have hxl : xs.length = ks.length := by rw [hall.len, List.length_map]
  refine ⟨.ref a, rfl, a, rfl, ⟨_, same_l hF ha⟩, ?_⟩
  refine lc_do (S := []) (src_l ha) hF (fun a h => by cases h) (by rw [hxl, sizeLine_eq]; omega) (fun i acc _ _ => ∃ ns : List Nat, acc = ns.map vN ∧ ns.length = i ∧ ∀ (j k : Nat) (κ : List Nat), ks[j]? = some κ → ns[j]? = some k → Cnt κ k) (by refine ⟨[], rfl, rfl, fun j k κ _ h => ?_⟩; cases h) (fun i y acc F2 H2 hi hy st2 hp Y N hY hN => ?_) fun D acc F2 H2 st2 hD mu hl hp => ?_
  · obtain ⟨ns, rfl, hnl, hc⟩ := hp
    have hi' : i < ks.length := by omega
    have ei : ks[i]? = some ks[i] := List.getElem?_eq_getElem hi'
    have hk := h3 _ (List.getElem_mem hi')
    have hd : Dp K F2 y (tN ks[i]) := (hall.at hy (by rw [List.getElem?_map, ei] <;> rfl)).up st2.ff
    generalize ks[i] = κ at ei hk hd
    obtain ⟨b, rfl, hb⟩ := hd.tN_inv
    refine ⟨rfl, lc_yes ⟨_, rfl, b, κ.map fun (x : Nat) => (x : Int), rfl, ?_, by rw [List.length_map]; omega, fun m hm1 hm2 => ?_⟩⟩
    · rw [List.map_map]
      exact same_t st2.fh hb
    · refine hY _ F2 H2 (Stp.refl st2.fh) ⟨ns ++ [m.length], by rw [List.map_append] <;> rfl, by rw [List.length_append, hnl] <;> rfl, fun j k κ' hj hk' => ?_⟩
      by_cases hji : j < ns.length
      · rw [List.getElem?_append_left hji] at hk'
        exact hc j k κ' hj hk'
      · have hji2 : j = i := by
          have z := (List.getElem?_eq_some_iff.mp hk').1
          rw [List.length_append] at z
          have z2 : j < ns.length + 1 := z
          omega
        rw [hji2, ei] at hj
        cases hj
        rw [hji2, ← hnl, List.getElem?_append_right (Nat.le_refl _), Nat.sub_self] at hk'
        cases hk'
        exact ⟨m, hm1, hm2, rfl⟩
  · obtain ⟨ns, rfl, hnl, hc⟩ := hp
    rw [hxl] at hnl
    have key : ∀ κ ∈ ks, ∃ k ∈ ns, Cnt κ k := fun κ hκ => by
      obtain ⟨j, hj, e⟩ := List.mem_iff_getElem.mp hκ
      have hj2 : j < ns.length := by omega
      exact ⟨ns[j], List.getElem_mem hj2, hc j _ κ (by rw [← e]; exact List.getElem?_eq_getElem hj) (List.getElem?_eq_getElem hj2)⟩
    have key2 : ∀ k ∈ ns, ∃ κ ∈ ks, Cnt κ k := fun k hk => by
      obtain ⟨j, hj, e⟩ := List.mem_iff_getElem.mp hk
      have hj2 : j < ks.length := by omega
      exact ⟨ks[j], List.getElem_mem hj2, hc j k _ (List.getElem?_eq_getElem hj2) (by rw [← e]; exact List.getElem?_eq_getElem hj)⟩
    refine ⟨D, ns.map fun (x : Nat) => (x : Int), rfl, ?_, by rw [List.length_map, hnl]; exact h1, fun mm hmm hle => ?_⟩
    · rw [List.map_map]
      exact .inl (.inl mu.at_)
    · obtain ⟨k, hk, rfl⟩ := List.mem_map.mp hmm
      refine q _ F2 H2 st2 ⟨k, rfl, key2 k hk, fun κ hκ j hj => ?_⟩
      obtain ⟨k', hk', hc'⟩ := key κ hκ
      rw [hj.eq hc']
      exact Int.ofNat_le.mp (hle _ (List.mem_map.mpr ⟨k', hk', rfl⟩))

end
end K11


set_option Elab.async false
set_option linter.all false
set_option maxRecDepth 100000
set_option maxHeartbeats 4000000
/-! All kernels, in plain Lean. -/
namespace K11
open PySem PySem.Spec PyProof.Rows L2
def code6 : List Nat → Nat
  | [] => 0
  | d :: l => d + 6 * code6 l
theorem code6_inj : ∀ {a b : List Nat}, a.length = b.length → (∀ x ∈ a, x < 6) → (∀ x ∈ b, x < 6) → code6 a = code6 b → a = b
  | [], [], _, _, _, _ => rfl
  | x :: a, [], h, _, _, _ => by cases h
  | [], y :: b, h, _, _, _ => by cases h
  | x :: a, y :: b, h, ha, hb, e => by
    have e' : x + 6 * code6 a = y + 6 * code6 b := e
    have h1 := ha x List.mem_cons_self
    have h2 := hb y List.mem_cons_self
    have e1 : code6 a = code6 b := by omega
    have e2 : x = y := by omega
    rw [e2, code6_inj (by simpa using h) (fun z hz => ha z (List.mem_cons_of_mem _ hz)) (fun z hz => hb z (List.mem_cons_of_mem _ hz)) e1]
theorem code6_lt : ∀ {a : List Nat}, (∀ x ∈ a, x < 6) → code6 a < 6 ^ a.length
  | [], _ => by decide
  | x :: a, h => by
    have h1 := h x List.mem_cons_self
    have h2 := code6_lt fun z hz => h z (List.mem_cons_of_mem _ hz)
    show x + 6 * code6 a < 6 ^ (a.length + 1)
    rw [Nat.pow_succ]
    omega
/-- how the search for all kernels stands: T are to be done -/
structure KBfs (δ : List (List Nat)) (c n : Nat) (T : List Nat → Prop) (M : List (List Nat)) : Prop where
  ker : ∀ κ ∈ M, ∃ w, Word c w ∧ κ = kerM δ w
  nd : M.Nodup
  st : kerM δ [] ∈ M
  cl : ∀ κ ∈ M, T κ ∨ ∀ x, x < c → aheadM δ x κ ∈ M
section
variable {c n : Nat} {δ : List (List Nat)} {T U : List Nat → Prop} {M : List (List Nat)} {κ : List Nat} {x : Nat}
theorem ker_lt (W : WF c n δ) (w : List Nat) : ∀ t ∈ kerM δ w, t < n := fun t ht => by
  have z := kerOf_lt ht
  rwa [eff_len, W.len] at z
theorem KBfs.weak (b : KBfs δ c n T M) (h : ∀ κ ∈ M, T κ → U κ) : KBfs δ c n U M := ⟨b.ker, b.nd, b.st, fun κ hκ => (b.cl κ hκ).imp (h κ hκ) id⟩
theorem KBfs.init : KBfs δ c n (fun κ => κ = kerM δ []) [kerM δ []] := ⟨fun κ h => ⟨[], fun x hx => (by cases hx), List.mem_singleton.mp h⟩, List.pairwise_singleton _ _, List.mem_singleton.mpr rfl, fun κ h => .inl (List.mem_singleton.mp h)⟩
theorem KBfs.add (b : KBfs δ c n T M) (W : WF c n δ) (hκ : κ ∈ M) (hx : x < c) (hn : aheadM δ x κ ∉ M) : KBfs δ c n (fun g => T g ∨ g = aheadM δ x κ) (M ++ [aheadM δ x κ]) where
  ker := fun g hg => by
    rcases List.mem_append.mp hg with z | z
    · exact b.ker g z
    · obtain ⟨w, hw, rfl⟩ := b.ker κ hκ
      rw [List.mem_singleton] at z
      refine ⟨x :: w, fun y hy => ?_, by rw [z, ahead_ker W hx]⟩
      cases hy with
      | head => exact hx
      | tail _ hy => exact hw y hy
  nd := by
    rw [List.nodup_append]
    refine ⟨b.nd, List.pairwise_singleton _ _, fun a ha y hy e => ?_⟩
    rw [List.mem_singleton.mp hy] at e
    rw [e] at ha
    exact hn ha
  st := List.mem_append_left _ b.st
  cl := fun g hg => by
    rcases List.mem_append.mp hg with z | z
    · exact (b.cl g z).imp .inl fun h y hy => List.mem_append_left _ (h y hy)
    · exact .inl (.inr (List.mem_singleton.mp z))
theorem KBfs.done (b : KBfs δ c n (fun g => T g ∨ g = κ) M) (h : ∀ x, x < c → aheadM δ x κ ∈ M) : KBfs δ c n T M := ⟨b.ker, b.nd, b.st, fun g hg => by
  rcases b.cl g hg with (z | z) | z
  · exact .inl z
  · exact .inr (by rw [z]; exact h)
  · exact .inr z⟩
theorem KBfs.all (b : KBfs δ c n (fun _ => False) M) (W : WF c n δ) : ∀ w, Word c w → kerM δ w ∈ M
  | [], _ => b.st
  | x :: w, hw => by
    have ih := b.all W w fun y hy => hw y (List.mem_cons_of_mem _ hy)
    have hx := hw x List.mem_cons_self
    rw [← ahead_ker W hx]
    exact ((b.cl _ ih).elim (fun z => z.elim) id) x hx
theorem KBfs.few (b : KBfs δ c n T M) (W : WF c n δ) : M.length ≤ 46656 := by
  have hs : ∀ κ ∈ M, κ.length = n ∧ ∀ t ∈ κ, t < 6 := fun κ hκ => by
    obtain ⟨w, _, rfl⟩ := b.ker κ hκ
    exact ⟨ker_len W w, fun t ht => Nat.lt_of_lt_of_le (ker_lt W w t ht) W.n6⟩
  have h1 : (M.map code6).Nodup := nodup_map b.nd fun a ha b hb e => code6_inj ((hs a ha).1.trans (hs b hb).1.symm) (hs a ha).2 (hs b hb).2 e
  have h2 := nodup_len (ys := List.range (6 ^ n)) h1 fun z hz => by
    obtain ⟨κ, hκ, rfl⟩ := List.mem_map.mp hz
    have q := code6_lt (hs κ hκ).2
    rw [(hs κ hκ).1] at q
    exact List.mem_range.mpr q
  rw [List.length_map, List.length_range] at h2
  have h3 : 6 ^ n ≤ 6 ^ 6 := Nat.pow_le_pow_right (by decide) W.n6
  have h4 : 6 ^ 6 = 46656 := by decide
  omega
end
end K11

set_option Elab.async false
set_option linter.all false
set_option maxRecDepth 100000
set_option maxHeartbeats 4000000
/-! _law_kernels. -/
namespace K11
open PySem PySem.Spec PyProof.Rows L2
/-- all kernels, each once -/
def AllK (δ : List (List Nat)) (c : Nat) (L : List (List Nat)) : Prop := (∀ κ ∈ L, ∃ w, Word c w ∧ κ = kerM δ w) ∧ ∀ w, Word c w → kerM δ w ∈ L
def spKersL (K : PySem.W.Frag) : Sp := fun vs H Q _ => ∃ (F : Hp) (v : V) (c n : Nat) (δ : List (List Nat)), vs = [vN c, v] ∧ Same F H ∧ StD K F v δ ∧ WF c n δ ∧ Back [] F H Q fun r F' _ => ∃ L, Dp K F' r (.list (L.map tN)) ∧ AllK δ c L ∧ L.length ≤ 46656
theorem hr65 {k : Nat} {A : Around} (hr : Room k A) : A.units + 65 < cLine := by
  have := hr.un
  omega
theorem lay_tN (L : List (List Nat)) : ∀ x ∈ L.map tN, PyData.canLay0 x = true := fun x hx => by
  obtain ⟨κ, _, rfl⟩ := List.mem_map.mp hx
  exact (lay_seq (lay_nD κ)).1
theorem dep_tN (L : List (List Nat)) : ∀ x ∈ L.map tN, PyData.depth x ≤ 1 := fun x hx => by
  obtain ⟨κ, _, rfl⟩ := List.mem_map.mp hx
  exact (dep_seq (dep_nD κ)).1
theorem shaped_lT (L : List (List Nat)) : SeqAt.shaped (.list (L.map tN)) = true := shaped_by (lay_seq (lay_tN L)).2 (dep_seq (dep_tN L)).2 (by decide)
theorem any_tN (L : List (List Nat)) (κ : List Nat) : (L.map tN).any (fun z => PyData.eqv z (tN κ)) = decide (κ ∈ L) := by
  rw [Bool.eq_iff_iff, List.any_eq_true, decide_eq_true_iff]
  constructor
  · rintro ⟨z, hz, e⟩
    obtain ⟨g, hg, rfl⟩ := List.mem_map.mp hz
    rw [eqv_tN, decide_eq_true_iff] at e
    rw [← e]
    exact hg
  · intro h
    exact ⟨tN κ, List.mem_map.mpr ⟨κ, h, rfl⟩, by rw [eqv_tN, decide_eq_true_iff]⟩
structure KS (K : PySem.W.Frag) (F H : Hp) (c n : Nat) (δ : List (List Nat)) (f : Addr) (F' H' : Hp) (T : List Nat → Prop) (M : List (List Nat)) : Prop where
  st : Stp [] F H F' H'
  mu : ∃ xs, Mu F' H' f (.lst xs) ∧ DpAll K F' xs (M.map tN)
  bf : KBfs δ c n T M
theorem KS.step {K : PySem.W.Frag} {F H : Hp} {c n : Nat} {δ : List (List Nat)} {f : Addr} {F' H' F1 H1 : Hp} {T : List Nat → Prop} {M : List (List Nat)} (k : KS K F H c n δ f F' H' T M) (s : Stp [] F' H' F1 H1) : KS K F H c n δ f F1 H1 T M := by
  obtain ⟨xs, mu, al⟩ := k.mu
  exact ⟨k.st.trans s, ⟨xs, s.mu0 mu, al.up s.ff⟩, k.bf⟩
theorem kinit_read {K : PySem.W.Frag} {F H : Hp} {σ : L2.St} {i n : Nat} {Q : VK} (hF : Same F H) (e0 : σ[i]? = some (some (vN n))) (hn : n ≤ 6) (q : ∀ F' H' p2 f, Stp [] F H F' H' → Dp K F' (.ref p2) (tN (List.range n)) → H' f = none → Q (.ref f) (upd H' f (.lst [.ref p2]))) : tLst (tCons (tCB (rTup_ K) (tCons (tLstRg (tRg1 (tVar i))) tNil)) tNil) σ H Q := by
  refine ⟨_, e0, _, rfl, RgOk.of_le (by omega) (by omega) (by omega) (by omega), fun p hp => ⟨p, _, rfl, .inl ⟨.inl (.inl upd_same), fun p2 hp2 => ⟨(show 1 ≤ sizeLine by decide), fun f hf => ?_⟩⟩⟩⟩
  rw [rgV_nat] at hp2 hf ⊢
  have s1 := Stp.new (S := []) (o := .lst ((List.range n).map vN)) hF hp
  exact q _ _ _ _ (s1.tup (xs := (List.range n).map vN) hp2) (dp_tup s1.fh hp2 (all_nats _)) hf
theorem int_tN {K : PySem.W.Frag} {F H : Hp} {x : V} {κ : List Nat} (h : Dp K F x (tN κ)) (e : Same F H) (hl : 1 ≤ κ.length) : IntT' K H x := by
  obtain ⟨a, rfl, hs⟩ := h.tN_inv
  cases κ with
  | nil => exact absurd hl (by decide)
  | cons y r =>
    refine ⟨a, ((y : Nat) : Int), r.map fun (z : Nat) => (z : Int), rfl, ?_⟩
    rw [List.map_cons, List.map_map]
    exact same_t e hs
/-- .. and what is found anew -/
structure KS2 (K : PySem.W.Frag) (F H : Hp) (c n : Nat) (δ : List (List Nat)) (f l : Addr) (F0 F' H' : Hp) (T : List Nat → Prop) (lt Mz M : List (List Nat)) : Prop where
  k : KS K F H c n δ f F' H' (fun κ => T κ ∨ κ ∈ lt) M
  sm : Same F0 F'
  mu : ∃ xs, Mu F' H' l (.lst xs) ∧ DpAll K F' xs (lt.map tN)
  sub : ∀ κ ∈ Mz, κ ∈ M
  ltm : ∀ κ ∈ lt, κ ∈ M
  len : M.length = Mz.length + lt.length
theorem KS2.step {K : PySem.W.Frag} {F H : Hp} {c n : Nat} {δ : List (List Nat)} {f l : Addr} {F0 F' H' F1 H1 : Hp} {T : List Nat → Prop} {lt Mz M : List (List Nat)} (k : KS2 K F H c n δ f l F0 F' H' T lt Mz M) (s : Stp [] F' H' F1 H1) : KS2 K F H c n δ f l F0 F1 H1 T lt Mz M := by
  obtain ⟨xs, mu, al⟩ := k.mu
  exact ⟨k.k.step s, k.sm.trans s.ff, ⟨xs, s.mu0 mu, al.up s.ff⟩, k.sub, k.ltm, k.len⟩
theorem KS2.weak {K : PySem.W.Frag} {F H : Hp} {c n : Nat} {δ : List (List Nat)} {f l : Addr} {F0 F' H' : Hp} {T U : List Nat → Prop} {lt Mz M : List (List Nat)} (k : KS2 K F H c n δ f l F0 F' H' T lt Mz M) (h : ∀ κ, T κ → U κ) : KS2 K F H c n δ f l F0 F' H' U lt Mz M :=
  ⟨⟨k.k.st, k.k.mu, k.k.bf.weak fun κ _ z => z.imp (h κ) id⟩, k.sm, k.mu, k.sub, k.ltm, k.len⟩
theorem KS.frz {K : PySem.W.Frag} {F H : Hp} {c n : Nat} {δ : List (List Nat)} {f D : Addr} {F' H' : Hp} {T : List Nat → Prop} {M : List (List Nat)} {o : HO} (k : KS K F H c n δ f F' H' T M) (h0 : H D = none) (m : Mu F' H' D o) (hne : f ≠ D) : KS K F H c n δ f (upd F' D o) H' T M := by
  obtain ⟨xs, mu, al⟩ := k.mu
  have e : Same F' (upd F' D o) := fun x u z => by
    rw [upd_ne (ne_of_none z m.fr)]
    exact z
  exact ⟨k.st.freeze h0 m, ⟨xs, mu.frzO hne, al.up e⟩, k.bf⟩
section
variable {P : Program} {w : World} {K : PySem.W.Frag} {mg : Str → Option Value} {base : Heap}
theorem sc_law_kernels : FnScope ["_law_commands", "_law_steps", "_law_many", "_law_found", "_law_fresh", "_law_later", "_law_one", "_law_command", "_law_led_here", "_law_state", "_law_longer"] ["_law_commands", "_law_steps"] (defScope s_law_kernels) := ⟨rfl, rfl, rfl, by decide +kernel, rfl, by decide +kernel, by decide +kernel⟩
theorem bn_law_kernels : BindN d_law_kernels ["_law_commands", "_law_steps"] := fun _ _ _ _ _ _ us hl => match us, hl with | [_, _], _ => rfl
theorem ok_law_kernels (T : Top P w K mg base) : Cal P w K mg base d_law_kernels "_law_kernels" 1 ["_law_commands", "_law_steps"] (spKersL K) := by
  refine T.cal 42 39 rfl rfl rfl rfl rfl sc_law_kernels bn_law_kernels (fun vs H Q E h => ?_) fun f cdv A outer s H vs Q E hr h => ?_
  · obtain ⟨_, _, _, _, _, rfl, _⟩ := h
    rfl
  have nd := (sc_law_kernels).nd
  refine ⟨_, (pss_cons (ps_set (i := 2) nd rfl (.inl rfl) (pe_callB cl_len (by rfl) T.n_len bt_len (pa_cons (pv 1) pa_nil)))
    (pss_cons (ps_par (i := 3) (j := 4) rfl nd rfl rfl (by decide) rfl rfl (pa_cons (pe_lst (pa_cons (pe_callTy cl_tup (by rfl) T.n_tuple bt_tuple (pa_cons (pe_listRg rfl (by rfl) T.n_list (prg_1 (by rfl) T.n_range (pv 2))) pa_nil)) pa_nil)) (pa_cons (pe_lst (pa_cons (pe_callTy cl_tup (by rfl) T.n_tuple bt_tuple (pa_cons (pe_listRg rfl (by rfl) T.n_list (prg_1 (by rfl) T.n_range (pv 2))) pa_nil)) pa_nil)) pa_nil)) (by rfl))
    (pss_cons (ps_while (passes_of rfl) (pt_cmpR (op_neD hr.units) (pv 4) (pe_lst pa_nil) (nomark _))
      (pss_cons (ps_set (i := 5) nd rfl (.inl rfl) (pe_lst pa_nil))
    (pss_cons (ps_for (passes_of rfl) rfl (pi_list (pv 4)) (pg_name (i := 6) nd rfl (.inr rfl))
      (pss_one (ps_for (passes_of rfl) rfl (pi_range1 (by rfl) T.n_range (pa_cons (pv 0) pa_nil)) (pg_name (i := 7) nd rfl (.inr rfl))
      (pss_cons (ps_set (i := 8) nd rfl (.inr rfl) (pe_lc (own := [("_law_state", 9)]) (g := (gName 9)) (tt := tYes) (te := (tOp (rIxB K) (tVar 6) (tOp (rIxB K) (tOp (rIxB K) (tVar 1) (tVar 9)) (tVar 7)))) rfl nd (pi_range1 (by rfl) T.n_range (pa_cons (pv 2) pa_nil)) (blkOk_by (by kernel_rfl)) (fun _ _ _ _ _ => (pg_name (i := 9) nd rfl (.inl rfl))) (fun _ _ _ _ _ => pts_nil) (fun _ _ _ _ _ => (pe_ix ix_both (pv 6) (pe_ix ix_both (pe_ix ix_both (pv 1) (pv 9) (fun _ _ => rfl)) (pv 7) (fun _ _ => rfl)) (fun _ _ => rfl)))))
    (pss_cons (ps_set (i := 10) nd rfl (.inl rfl) (pe_callTy cl_tup (by rfl) T.n_tuple bt_tuple (pa_cons (pe_lc (own := [("_law_state", 9)]) (g := (gName 9)) (tt := tYes) (te := (tBM K "list" (rIndex K) (tVar 8) (tCons (tVar 9) tNil))) rfl nd (pi_list (pv 8)) (blkOk_by (by kernel_rfl)) (fun _ _ _ _ _ => (pg_name (i := 9) nd rfl (.inl rfl))) (fun _ _ _ _ _ => pts_nil) (fun _ _ _ _ _ => (pe_bm PySem.F.plainAttrs_list PySem.F.slot_list_index PySem.F.type_list_index mt_index (pv 8) (pa_cons (pv 9) pa_nil)))) pa_nil)))
    (pss_one (ps_if (pt_cmpR (op_notInD (hr65 hr)) (pv 10) (pv 3) (by with_unfolding_all rfl))
      (pss_cons (ps_expr (pe_bm PySem.F.plainAttrs_list PySem.F.slot_list_append PySem.F.type_list_append mt_append (pv 3) (pa_cons (pv 10) pa_nil)))
    (pss_one (ps_expr (pe_bm PySem.F.plainAttrs_list PySem.F.slot_list_append PySem.F.type_list_append mt_append (pv 5) (pa_cons (pv 10) pa_nil)))))
      pss_nil)))))))
    (pss_one (ps_set (i := 4) nd rfl (.inl rfl) (pv 5))))))
    (pss_one (ps_ret (pe_callB call_sortL (by rfl) T.n_sorted bt_sorted (pa_cons (pv 3) pa_nil))))))), ?_⟩
  obtain ⟨F, v, c, n, δ, rfl, hF, hv, W, q⟩ := h
  have hn := W.n6
  have hc := W.c3
  obtain ⟨b, xs, rfl, hb, hall⟩ := L2.Dp.lst_inv hv
  have hxl : xs.length = n := by rw [hall.len, List.length_map, W.len]
  refine ⟨.ref b, rfl, b, xs, rfl, .inl (same_l hF hb), ?_⟩
  rw [hxl]
  have hrg : RgOk 0 (n : Int) := RgOk.of_le (by omega) (by omega) (by omega) (by omega)
  refine ⟨_, rfl, _, rfl, hrg, fun p hp => ⟨p, _, rfl, .inl ⟨.inl (.inl upd_same), fun p2 hp2 => ⟨(show 1 ≤ sizeLine by decide), fun f hf => ?_⟩⟩⟩⟩
  rw [rgV_nat] at hp2 hf ⊢
  have s1 := (Stp.new (S := []) (o := .lst ((List.range n).map vN)) hF hp).tup (xs := (List.range n).map vN) hp2
  have dA : Dp K _ (.ref p2) (tN (List.range n)) := dp_tup (Stp.new (S := []) (o := .lst ((List.range n).map vN)) hF hp).fh hp2 (all_nats _)
  generalize upd (upd F p (.lst ((List.range n).map vN))) p2 (.tup ((List.range n).map vN)) = F1 at s1 dA
  generalize upd (upd H p (.lst ((List.range n).map vN))) p2 (.tup ((List.range n).map vN)) = H1 at s1 hf ⊢
  have hfH := s1.none_ hf
  have s2 := s1.trans (Stp.newM (S := []) (o := .lst [.ref p2]) s1.fh hf)
  have mf : Mu F1 (upd H1 f (.lst [.ref p2])) f (.lst [.ref p2]) := Mu.new s1.fh hf
  generalize upd H1 f (.lst [.ref p2]) = H2 at s2 mf ⊢
  refine ⟨_, rfl, _, rfl, hrg, fun p hp => ⟨p, _, rfl, .inl ⟨.inl (.inl upd_same), fun p3 hp3 => ⟨(show 1 ≤ sizeLine by decide), fun fr hfr => ⟨_, _, rfl, ?_⟩⟩⟩⟩⟩
  rw [rgV_nat] at hp3 hfr ⊢
  have s3 := (Stp.new (S := []) (o := .lst ((List.range n).map vN)) s2.fh hp).tup (xs := (List.range n).map vN) hp3
  have dB : Dp K _ (.ref p3) (tN (List.range n)) := dp_tup (Stp.new (S := []) (o := .lst ((List.range n).map vN)) s2.fh hp).fh hp3 (all_nats _)
  generalize upd (upd F1 p (.lst ((List.range n).map vN))) p3 (.tup ((List.range n).map vN)) = F3 at s3 dB
  generalize upd (upd H2 p (.lst ((List.range n).map vN))) p3 (.tup ((List.range n).map vN)) = H3 at s3 hfr ⊢
  have mf3 := s3.mu0 mf
  have s3' := s2.trans s3
  have s4 := s3'.trans (Stp.new (S := []) (o := .lst [.ref p3]) s3'.fh hfr)
  have st4 := Stp.new (S := []) (o := .lst [.ref p3]) s3'.fh hfr
  have mf4 := st4.mu0 mf3
  rw [← ker_nil W] at dA dB
  have dfr : Dp K _ (.ref fr) (.list ([kerM δ []].map tN)) := dp_lst (xs := [.ref p3]) s3'.fh hfr (.cons dB .nil)
  have dA4 := (dA.up s3.ff).up st4.ff
  generalize upd F3 fr (.lst [.ref p3]) = F4 at s4 st4 mf4 dfr dA4
  generalize upd H3 fr (.lst [.ref p3]) = H4 at s4 st4 mf4 ⊢
  refine ⟨fun k σ H' => ∃ F' fr fl M y5 y6 y7 y8 y9 y10, σ = [some (vN c), some (.ref b), some (vN n), some (.ref f), some (.ref fr), y5, y6, y7, y8, y9, y10] ∧ KS K F H c n δ f F' H' (fun κ => κ ∈ fl) M ∧ Dp K F' (.ref fr) (.list (fl.map tN)) ∧ (∀ κ ∈ fl, κ ∈ M) ∧ fl.length ≤ M.length ∧ k = 2 * (46656 - M.length) + (if fl = [] then 0 else 1), ⟨_, F4, fr, [kerM δ []], [kerM δ []], none, none, none, none, none, none, rfl, ⟨s4, ⟨_, mf4, .cons dA4 .nil⟩, KBfs.init.weak fun κ _ e => by rw [e]; exact List.mem_cons_self⟩, dfr, fun κ h => h, Nat.le_refl _, rfl⟩, ?_⟩
  rintro k σ H5 ⟨F5, fr5, fl, M, y5, y6, y7, y8, y9, y10, rfl, X, dfl, hsub, hlen, rfl⟩
  have hM := X.bf.few W
  refine ⟨.ref fr5, rfl, Nat.zero_le _, fun p hp => ?_⟩
  have st6 := Stp.new (S := []) (o := .lst []) X.st.fh hp
  have X6 := X.step st6
  refine ⟨.list (fl.map tN), .list [], (dfl.up st6.ff).up st6.fh, .lst (.inl (.inl upd_same)) .nil, shaped_lT _, shaped_lZ [], _, rfl, ?_⟩
  rw [eqv_lnil]
  have dfl6 := dfl.up st6.ff
  generalize upd F5 p (.lst []) = F6 at X6 dfl6 st6
  generalize upd H5 p (.lst []) = H6 at X6 st6
  clear st6 X dfl hp s4 mf4 dfr dA4 s3 dA dB s2 mf s1 mf3 s3'
  by_cases hfl : fl = []
  · subst hfl
    refine iteF ?_
    obtain ⟨ys, mu6, al6⟩ := X6.mu
    have full := (X6.bf.weak (U := fun _ => False) fun κ _ h => by cases h).all W
    refine ⟨.ref f, rfl, f, ys, rfl, .inl (.inl mu6.at_), fun x hx => ?_, fun zs p hperm hpn => ?_⟩
    · obtain ⟨d, hd, hdx⟩ := al6.mem hx
      obtain ⟨κ, hκ, rfl⟩ := List.mem_map.mp hd
      refine int_tN hdx X6.st.fh ?_
      obtain ⟨w1, _, rfl⟩ := X6.bf.ker κ hκ
      rw [ker_len W]
      exact W.n1
    · obtain ⟨L', hL, hall'⟩ := dpall_perm hperm al6
      refine q _ _ _ (X6.st.lst (xs := zs) hpn) ⟨L', dp_lst X6.st.fh hpn hall', ⟨fun κ hκ => X6.bf.ker κ (hL.mem_iff.mp hκ), fun w1 hw1 => hL.mem_iff.mpr (full w1 hw1)⟩, by rw [hL.length_eq]; exact hM⟩
  · have hz : (!(fl.map tN).isEmpty) = true := by
      cases fl with
      | nil => exact absurd rfl hfl
      | cons a r => rfl
    rw [hz]
    refine iteT ⟨_, fun σ' H' h => h, ?_⟩
    refine ⟨Nat.zero_le _, fun l hl => ?_⟩
    have hlH := X6.st.none_ hl
    obtain ⟨xs6, mu6, al6⟩ := X6.mu
    have hfl2 : f ≠ l := mu6.ne hl
    have sl := Stp.newM (S := []) (o := .lst []) X6.st.fh hl
    have ml := Mu.new (o := .lst []) X6.st.fh hl
    have X7 := X6.step sl
    generalize upd H6 l (.lst []) = H7 at sl ml X7 ⊢
    obtain ⟨a, xsf, eA, hA, hallA⟩ := dfl6.lst_inv
    cases eA
    have hxf : xsf.length = fl.length := by rw [hallA.len, List.length_map]
    refine ⟨.ref fr5, rfl, fr5, rfl, ⟨_, same_l X7.st.fh hA⟩, ?_⟩
    refine for_do (src_l hA) (fun i σ H' => ∃ F' lt M' y6 y7 y8 y9 y10, σ = [some (vN c), some (.ref b), some (vN n), some (.ref f), some (.ref fr5), some (.ref l), y6, y7, y8, y9, y10] ∧ KS2 K F H c n δ f l F6 F' H' (fun κ => κ ∈ fl.drop i) lt M M') (fun i σ H' h => ?_) ⟨F6, [], M, y6, y7, y8, y9, y10, rfl, ⟨X7.st, X7.mu, X7.bf.weak fun κ _ z => .inl z⟩, Same.refl _, ⟨[], ml, .nil⟩, fun κ h => h, fun κ h => (by cases h), rfl⟩ (fun i x σ H8 hi hx hp => ?_) fun σ H8 hp => ?_
    · obtain ⟨F', _, _, _, _, _, _, _, _, k⟩ := h
      exact k.sm.trans k.k.st.fh
    · obtain ⟨F8, lt, M8, z6, z7, z8, z9, z10, rfl, X8⟩ := hp
      have hif : i < fl.length := by omega
      have ei : fl[i]? = some fl[i] := List.getElem?_eq_getElem hif
      have hκM := hsub _ (List.getElem_mem hif)
      have dκ : Dp K F6 x (tN fl[i]) := hallA.at hx (by rw [List.getElem?_map, ei] <;> rfl)
      have hdrop : fl.drop i = fl[i] :: fl.drop (i + 1) := List.drop_eq_getElem_cons hif
      generalize fl[i] = κ at ei dκ hκM hdrop
      obtain ⟨w0, hw0, ew0⟩ := X6.bf.ker κ hκM
      have hkl : κ.length = n := by rw [ew0, ker_len W]
      refine ⟨vN c, rfl, (c : Int), rfl, by omega, by omega, ?_⟩
      rw [Int.toNat_natCast]
      refine for_do (src_r (F := F8)) (fun j σ H' => ∃ F' lt M' y7 y8 y9 y10, σ = [some (vN c), some (.ref b), some (vN n), some (.ref f), some (.ref fr5), some (.ref l), some x, y7, y8, y9, y10] ∧ KS2 K F H c n δ f l F6 F' H' (fun g => g ∈ fl.drop (i + 1) ∨ g = κ) lt M M' ∧ Same F8 F' ∧ ∀ x, x < j → aheadM δ x κ ∈ M') (fun j σ H' h => ?_) ⟨F8, lt, M8, z7, z8, z9, z10, rfl, X8.weak fun g hg => ?_, Same.refl _, fun x hx => absurd hx (Nat.not_lt_zero x)⟩ (fun j y σ H9 hj hy hp => ?_) fun σ H9 hp => ?_
      · obtain ⟨F', _, _, _, _, _, _, _, k, e, _⟩ := h
        exact e.trans k.k.st.fh
      · rw [hdrop] at hg
        cases hg with
        | head => exact .inr rfl
        | tail _ hg => exact .inl hg
      · have hy' : y = vN j := by rw [hy, Int.zero_add] <;> rfl
        subst hy'
        obtain ⟨F9, lt9, M9, u7, u8, u9, u10, rfl, X9, e9, hdone⟩ := hp
        have dκ9 := dκ.up X9.sm
        have hv9 := hv.up X9.k.st.ff
        have hdm : (((doesM δ j).map fun s => κ.getD s 0)).length = n := by rw [List.length_map, doesM_len W]
        refine ⟨vN n, rfl, (n : Int), rfl, by omega, by omega, ?_⟩
        rw [Int.toNat_natCast]
        refine lc_do (S := []) (src_r (F := F9)) X9.k.st.fh (fun a h => by cases h) (by rw [sizeLine_eq]; omega) (fun s acc _ _ => acc = (((doesM δ j).map fun s => κ.getD s 0).take s).map vN) rfl (fun s y acc F10 H10 hs hy st10 hp Y N hY hN => ?_) fun D acc F10 H10 st10 hD mu hl10 hp => ?_
        · have hy' : y = vN s := by rw [hy, Int.zero_add] <;> rfl
          subst hy'
          obtain ⟨r, h1, h2, h3⟩ := W.dl_at hs hj
          refine ⟨rfl, lc_yes ⟨x, rfl, .ref b, rfl, vN s, rfl, ixB_dl (hv9.up st10.ff) st10.fh (by rw [List.getElem?_map, h1] <;> rfl) fun uu huu => ⟨vN j, rfl, ixB_dl huu st10.fh (get_nD h2) fun yy hyy => ?_⟩⟩⟩
          rw [hyy.int_inv]
          refine ix_tN (dκ9.up st10.ff) st10.fh (getD_some (by rw [hkl]; exact h3)) (hY _ F10 H10 (Stp.refl st10.fh) ?_)
          have e1 : ((doesM δ j).map fun s => κ.getD s 0)[s]? = some (κ.getD (dl δ s j) 0) := by rw [List.getElem?_map, does_at j (by rw [W.len]; exact hs)] <;> rfl
          rw [hp, take_snoc e1, List.map_append] <;> rfl
        · rw [List.take_of_length_le (by rw [hdm]; exact Nat.le_refl _)] at hp
          have hall6 : DpAll K F10 acc (((doesM δ j).map fun s => κ.getD s 0).map nD) := by
            rw [hp]
            exact all_nats _
          have hsq : SqL K (upd F10 D (.lst acc)) D (((doesM δ j).map fun s => κ.getD s 0).map vN) := by
            rw [hp]
            exact .inl (.inl upd_same)
          obtain ⟨s11, e11, d11⟩ := frz_l st10 hD mu hall6
          have X11 := X9.step s11
          generalize upd F10 D (.lst acc) = F11 at s11 e11 d11 hsq X11
          refine ⟨.ref D, rfl, D, rfl, ⟨_, same_l s11.fh hsq⟩, ?_⟩
          refine lc_do (S := []) (src_l hsq) s11.fh (fun a h => by cases h) (by rw [List.length_map, hdm, sizeLine_eq]; omega) (fun s acc _ _ => acc = ((aheadM δ j κ).take s).map vN) rfl (fun s y acc F12 H12 hs hy st12 hp12 Y N hY hN => ?_) fun D2 acc2 F12 H12 st12 hD2 mu2 hl12 hp12 => ?_
          · obtain ⟨t, ht, rfl⟩ := vN_at hy
            refine ⟨rfl, lc_yes ⟨.ref D, rfl, .inl ⟨rfl, _, same_l (st12.ff.trans st12.fh) hsq⟩, vN t, rfl, idx_l ht hsq (st12.ff.trans st12.fh) (hY _ F12 H12 (Stp.refl st12.fh) ?_)⟩⟩
            rw [hp12]
            unfold aheadM
            rw [take_snoc (kerOf_at ht), List.map_append] <;> rfl
          · rw [List.take_of_length_le (by unfold aheadM; rw [kerOf_len, List.length_map, List.length_map, List.length_map]; exact Nat.le_refl _)] at hp12
            refine ⟨D2, acc2, rfl, .inl ⟨.inl (.inl mu2.at_), fun p9 hp9 => ?_⟩⟩
            have st13 := st12.trans (Stp.new (S := []) (o := .tup acc2) st12.fh hp9)
            have d13 : Dp K (upd F12 p9 (.tup acc2)) (.ref p9) (tN (aheadM δ j κ)) := dp_tup st12.fh hp9 (by rw [hp12]; exact all_nats _)
            have X13 := X11.step st13
            have e13 := (e9.trans s11.ff).trans st13.ff
            generalize upd F12 p9 (.tup acc2) = F13 at st13 d13 X13 e13
            generalize upd H12 p9 (.tup acc2) = H13 at st13 X13 ⊢
            obtain ⟨xs13, mu13, al13⟩ := X13.k.mu
            have hM13 := X13.k.bf.few W
            refine ⟨.ref p9, rfl, .ref f, rfl, tN (aheadM δ j κ), M9.map tN, d13.up X13.k.st.fh, .lst (.inl (.inl mu13.at_)) (al13.up X13.k.st.fh), shaped_tN _, shaped_lT _, _, rfl, ?_⟩
            rw [any_tN]
            have hκ9 : κ ∈ M9 := X13.sub _ hκM
            by_cases hin : aheadM δ j κ ∈ M9
            · rw [decide_eq_true hin]
              refine iteF ⟨F13, lt9, M9, _, _, _, _, rfl, X13, e13, fun x hx => ?_⟩
              by_cases hxj : x = j
              · rw [hxj]
                exact hin
              · exact hdone x (by omega)
            · rw [decide_eq_false hin]
              have hfH : H f = none := by assumption
              have s14 := X13.k.st.write (u := .lst (xs13 ++ [.ref p9])) (.inl hfH) mu13
              have mu14 := mu13.wrote (u := .lst (xs13 ++ [.ref p9]))
              obtain ⟨ys13, ml13, bl13⟩ := X13.mu
              have ml14 := ml13.off (u := .lst (xs13 ++ [.ref p9])) (Ne.symm hfl2)
              refine iteT ⟨.ref f, rfl, .inl ⟨rfl, _, .inl (.inl mu13.at_)⟩, .ref p9, rfl, f, xs13, .ref p9, rfl, rfl, mu13.at_, by rw [al13.len, List.length_map, sizeLine_eq]; omega, ?_⟩
              have hlen13 := X13.len
              refine ⟨.ref l, rfl, .inl ⟨rfl, _, .inl (.inl ml14.at_)⟩, .ref p9, rfl, l, ys13, .ref p9, rfl, rfl, ml14.at_, by rw [bl13.len, List.length_map, sizeLine_eq]; omega, ?_⟩
              refine ⟨F13, lt9 ++ [aheadM δ j κ], M9 ++ [aheadM δ j κ], _, _, _, _, rfl, ⟨⟨s14.write (.inl hlH) ml14, ⟨_, mu14.off hfl2, ?_⟩, ?_⟩, X13.sm, ⟨_, ml14.wrote, ?_⟩, fun κ h => List.mem_append_left _ (X13.sub κ h), fun g hg => ?_, ?_⟩, e13, fun x hx => ?_⟩
              · rw [List.map_append]
                exact al13.snoc d13
              · refine (X13.k.bf.add W hκ9 hj hin).weak fun g _ z => ?_
                rcases z with (z | z) | z
                · exact .inl z
                · exact .inr (List.mem_append_left _ z)
                · exact .inr (List.mem_append_right _ (by rw [z]; exact List.mem_cons_self))
              · rw [List.map_append]
                exact bl13.snoc d13
              · rcases List.mem_append.mp hg with z | z
                · exact List.mem_append_left _ (X13.ltm g z)
                · exact List.mem_append_right _ z
              · rw [List.length_append, List.length_append]
                show M9.length + 1 = M.length + (lt9.length + 1)
                omega
              · by_cases hxj : x = j
                · rw [hxj]
                  exact List.mem_append_right _ List.mem_cons_self
                · exact List.mem_append_left _ (hdone x (by omega))
      · obtain ⟨F9, lt9, M9, u7, u8, u9, u10, rfl, X9, e9, hdone⟩ := hp
        refine ⟨F9, lt9, M9, _, _, _, _, _, rfl, ⟨X9.k.st, X9.k.mu, ?_⟩, X9.sm, X9.mu, X9.sub, X9.ltm, X9.len⟩
        refine (X9.k.bf.weak (U := fun g => (g ∈ fl.drop (i + 1) ∨ g ∈ lt9) ∨ g = κ) fun g _ z => ?_).done hdone
        rcases z with (z | z) | z
        · exact .inl (.inl z)
        · exact .inr z
        · exact .inl (.inr z)
    · obtain ⟨F8, lt, M8, z6, z7, z8, z9, z10, rfl, X8⟩ := hp
      obtain ⟨xsl, mul, all⟩ := X8.mu
      have hM8 := X8.k.bf.few W
      have hlen8 := X8.len
      have hfrz := X8.k.frz hlH mul hfl2
      have d8 : Dp K (upd F8 l (.lst xsl)) (.ref l) (.list (lt.map tN)) := (frz_l X8.k.st hlH mul all).2.2
      refine ⟨.ref l, rfl, _, ?_, upd F8 l (.lst xsl), l, lt, M8, _, _, _, _, _, _, rfl, ⟨hfrz.st, hfrz.mu, hfrz.bf.weak fun κ _ z => ?_⟩, d8, X8.ltm, by omega, rfl⟩
      · rw [if_neg hfl]
        by_cases hll : lt = []
        · rw [if_pos hll]
          omega
        · rw [if_neg hll]
          have : 0 < lt.length := List.length_pos_iff.mpr hll
          omega
      · rcases z with z | z
        · rw [List.drop_eq_nil_of_le (by omega)] at z
          cases z
        · exact z

end
end K11


set_option Elab.async false
set_option linter.all false
set_option maxRecDepth 100000
set_option maxHeartbeats 4000000
/-! _law_column. -/
namespace K11
open PySem PySem.Spec PyProof.Rows L2
/-- a column: what a command does -/
def Col (n : Nat) (col : List Nat) : Prop := col.length = n ∧ ∀ t ∈ col, t < n
def spColumn (K : PySem.W.Frag) : Sp := fun vs H Q _ => ∃ (F : Hp) (D L : Addr) (e : Int) (n : Nat), vs = [.ref D, .int e, vN n] ∧ Same F H ∧ Deal F H D L ∧ 1 ≤ n ∧ n ≤ 6 ∧ Back [D, L] F H Q fun r F' H' => (∃ col, Dp K F' r (lN col) ∧ Col n col) ∧ Deal F' H' D L
theorem int_dec {e k : Int} : decide (V.int e = V.int k) = decide (e = k) := by
  rw [decide_eq_decide]
  constructor
  · intro h
    injection h
  · intro h
    rw [h]
theorem dp_frz {K : PySem.W.Frag} {S : List Addr} {F H F1 H1 : Hp} {D : Addr} {col : List Nat} (s : Stp S F H F1 H1) (h0 : H D = none) (m : Mu F1 H1 D (.lst (col.map vN))) : Stp S F H (upd F1 D (.lst (col.map vN))) H1 ∧ Dp K (upd F1 D (.lst (col.map vN))) (.ref D) (lN col) := by
  obtain ⟨a, b, c⟩ := frz_l (K := K) s h0 m (all_nats col)
  exact ⟨a, c⟩
theorem rep_V (t n : Nat) : List.replicate n (vN t) = (List.replicate n t).map vN := by rw [List.map_replicate]
theorem flat_rep {α : Type} (x : α) : ∀ n : Nat, (List.replicate n [x]).flatten = List.replicate n x
  | 0 => rfl
  | n + 1 => by
    rw [List.replicate_succ, List.flatten_cons, flat_rep x n, List.replicate_succ] <;> rfl
theorem nat_list : ∀ {es : List PyData}, (∀ x ∈ es, ∃ t : Nat, x = nD t) → ∃ col : List Nat, es = col.map nD
  | [], _ => ⟨[], rfl⟩
  | e :: es, h => by
    obtain ⟨t, rfl⟩ := h e List.mem_cons_self
    obtain ⟨col, rfl⟩ := nat_list fun x hx => h x (List.mem_cons_of_mem _ hx)
    exact ⟨t :: col, rfl⟩
section
variable {P : Program} {w : World} {K : PySem.W.Frag} {mg : Str → Option Value} {base : Heap}
theorem sc_law_column : FnScope ["_law_deal", "_law_form", "_law_many", "_law_to", "_law_state", "_law_half"] ["_law_deal", "_law_form", "_law_many"] (defScope s_law_column) := ⟨rfl, rfl, rfl, by decide +kernel, rfl, by decide +kernel, by decide +kernel⟩
theorem bn_law_column : BindN d_law_column ["_law_deal", "_law_form", "_law_many"] := fun _ _ _ _ _ _ us hl => match us, hl with | [_, _, _], _ => rfl
theorem ok_law_column (T : Top P w K mg base) : Cal P w K mg base d_law_column "_law_column" 3 ["_law_deal", "_law_form", "_law_many"] (spColumn K) := by
  refine T.cal 37 34 rfl rfl rfl rfl rfl sc_law_column bn_law_column (fun vs H Q E h => ?_) fun f cdv A outer s H vs Q E hr h => ?_
  · obtain ⟨_, _, _, _, _, rfl, _⟩ := h
    rfl
  have nd := (sc_law_column).nd
  refine ⟨_, (pss_cons (ps_set (i := 3) nd rfl (.inr rfl) (pe_cal (ok_law_any T) hr (by decide) (by rfl) (pa_cons (pv 0) (pa_cons (pv 2) pa_nil))))
    (pss_cons (ps_if (pt_cmpR op_eq (pv 1) pe_int (nomark _))
      (pss_one (ps_ret (pe_lc (own := [("_law_state", 4)]) (g := (gName 4)) (tt := tYes) (te := (tOp rMod_ (tCB rInt_ (tCons (tOp rAdd_ (tVar 4) (tVar 3)) tNil)) (tVar 2))) rfl nd (pi_range1 (by rfl) T.n_range (pa_cons (pv 2) pa_nil)) (blkOk_by (by kernel_rfl)) (fun _ _ _ _ _ => (pg_name (i := 4) nd rfl (.inl rfl))) (fun _ _ _ _ _ => pts_nil) (fun _ _ _ _ _ => (pe_op op_mod (pe_callTy cl_int (by rfl) T.n_int bt_int (pa_cons (pe_op op_add (pv 4) (pv 3)) pa_nil)) (pv 2))))))
      pss_nil)
    (pss_cons (ps_if (pt_cmpR op_eq (pv 1) pe_int (nomark _))
      (pss_one (ps_ret (pe_op op_rep (pe_lst (pa_cons (pv 3) pa_nil)) (pv 2))))
      pss_nil)
    (pss_cons (ps_if (pt_cmpR op_eq (pv 1) pe_int (nomark _))
      (pss_one (ps_ret (pe_lc (own := [("_law_state", 4)]) (g := (gName 4)) (tt := tYes) (te := (tIf (tTest (tOp rEq (tVar 4) (tC (.int 0)))) (tVar 3) (tVar 4))) rfl nd (pi_range1 (by rfl) T.n_range (pa_cons (pv 2) pa_nil)) (blkOk_by (by kernel_rfl)) (fun _ _ _ _ _ => (pg_name (i := 4) nd rfl (.inl rfl))) (fun _ _ _ _ _ => pts_nil) (fun _ _ _ _ _ => (pe_ifExp (pt_cmpR op_eq (pv 4) pe_int (nomark _)) (pv 3) (pv 4))))))
      pss_nil)
    (pss_cons (ps_if (pt_cmpR op_eq (pv 1) pe_int (nomark _))
      (pss_one (ps_ret (pe_lc (own := [("_law_state", 4)]) (g := (gName 4)) (tt := tYes) (te := (tCB rMax_ (tCons (tC (.int 0)) (tCons (tCB rMin_ (tCons (tOp rSub_ (tVar 2) (tC (.int 1))) (tCons (tOp rSub_ (tOp rAdd_ (tVar 4) (tVar 3)) (tC (.int 1))) tNil))) tNil)))) rfl nd (pi_range1 (by rfl) T.n_range (pa_cons (pv 2) pa_nil)) (blkOk_by (by kernel_rfl)) (fun _ _ _ _ _ => (pg_name (i := 4) nd rfl (.inl rfl))) (fun _ _ _ _ _ => pts_nil) (fun _ _ _ _ _ => (pe_callB (cl_max rfl) (by rfl) T.n_max bt_max (pa_cons pe_int (pa_cons (pe_callB (cl_min rfl) (by rfl) T.n_min bt_min (pa_cons (pe_op op_sub (pv 2) pe_int) (pa_cons (pe_op op_sub (pe_op op_add (pv 4) (pv 3)) pe_int) pa_nil))) pa_nil)))))))
      pss_nil)
    (pss_cons (ps_if (pt_cmpR op_eq (pv 1) pe_int (nomark _))
      (pss_one (ps_ret (pe_cal (ok_law_mixed T) hr (by decide) (by rfl) (pa_cons (pv 0) (pa_cons (pe_listRg rfl (by rfl) T.n_list (prg_1 (by rfl) T.n_range (pv 2))) pa_nil)))))
      pss_nil)
    (pss_cons (ps_if (pt_cmpR op_eq (pv 1) pe_int (nomark _))
      (pss_one (ps_ret (pe_lc (own := [("_law_state", 4)]) (g := (gName 4)) (tt := tYes) (te := (tCB rMax_ (tCons (tVar 4) (tCons (tVar 3) tNil)))) rfl nd (pi_range1 (by rfl) T.n_range (pa_cons (pv 2) pa_nil)) (blkOk_by (by kernel_rfl)) (fun _ _ _ _ _ => (pg_name (i := 4) nd rfl (.inl rfl))) (fun _ _ _ _ _ => pts_nil) (fun _ _ _ _ _ => (pe_callB (cl_max rfl) (by rfl) T.n_max bt_max (pa_cons (pv 4) (pa_cons (pv 3) pa_nil)))))))
      pss_nil)
    (pss_cons (ps_if (pt_cmpR op_eq (pv 1) pe_int (nomark _))
      (pss_cons (ps_set (i := 5) nd rfl (.inr rfl) (pe_callB (cl_max rfl) (by rfl) T.n_max bt_max (pa_cons pe_int (pa_cons (pe_op op_fdiv (pv 2) pe_int) pa_nil))))
    (pss_one (ps_ret (pe_lc (own := [("_law_state", 4)]) (g := (gName 4)) (tt := tYes) (te := (tOp rAdd_ (tOp rMod_ (tCB rInt_ (tCons (tOp rAdd_ (tVar 4) (tVar 3)) tNil)) (tVar 5)) (tIf (tAnd (tTest (tOp rGe_ (tVar 4) (tVar 5))) (tTest (tOp rLe_ (tOp rMul_ (tC (.int 2)) (tVar 5)) (tVar 2)))) (tVar 5) (tC (.int 0))))) rfl nd (pi_range1 (by rfl) T.n_range (pa_cons (pv 2) pa_nil)) (blkOk_by (by kernel_rfl)) (fun _ _ _ _ _ => (pg_name (i := 4) nd rfl (.inl rfl))) (fun _ _ _ _ _ => pts_nil) (fun _ _ _ _ _ => (pe_op op_add (pe_op op_mod (pe_callTy cl_int (by rfl) T.n_int bt_int (pa_cons (pe_op op_add (pv 4) (pv 3)) pa_nil)) (pv 5)) (pe_ifExp (pw_and (pt_cmpR op_ge (pv 4) (pv 5) (nomark _)) (pw_and1 (pt_cmpR op_le (pe_op op_mul pe_int (pv 5)) (pv 2) (nomark _)))).pt (pv 5) pe_int)))))))
      pss_nil)
    (pss_one (ps_ret (pe_lc (own := [("_law_state", 4)]) (g := (gName 4)) (tt := tYes) (te := (tCall (spAny K) [] C8.E0 (tCons (tVar 0) (tCons (tVar 2) tNil)))) rfl nd (pi_range1 (by rfl) T.n_range (pa_cons (pv 2) pa_nil)) (blkOk_by (by kernel_rfl)) (fun _ _ _ _ _ => (pg_name (i := 4) nd rfl (.inl rfl))) (fun _ _ _ _ _ => pts_nil) (fun _ _ _ _ _ => (pe_cal (ok_law_any T) hr (by decide) (by rfl) (pa_cons (pv 0) (pa_cons (pv 2) pa_nil))))))))))))))), ?_⟩
  obtain ⟨F, D, L, e, n, rfl, hF, hd, hn1, hn6, q⟩ := h
  have hnp : (0 : Int) < n := by omega
  refine ⟨.ref D, rfl, vN n, rfl, F, D, L, n, rfl, hF, hd, hn1, by omega, fun r F1 H1 st1 hr => ?_⟩
  obtain ⟨⟨to, rfl, hto⟩, d1⟩ := hr
  refine ⟨.int e, rfl, rfl, _, rfl, ?_⟩
  rw [int_dec]
  by_cases h0 : e = 0
  · rw [decide_eq_true h0]
    refine iteT ?_
    refine ⟨vN n, rfl, (n : Int), rfl, by omega, by omega, ?_⟩
    rw [Int.toNat_natCast]
    refine lc_do (S := []) (src_r (F := F1)) st1.fh (fun a h => by cases h) (by rw [sizeLine_eq]; omega) (fun i acc _ _ => ∃ col : List Nat, acc = col.map vN ∧ col.length = i ∧ ∀ t ∈ col, t < n) (by refine ⟨[], rfl, rfl, fun t h => ?_⟩; cases h) (fun i y acc F2 H2 hi hy st2 hp Y N hY hN => ?_) fun D2 acc F2 H2 st2 hD mu hl hp => ?_
    · have hy' : y = vN i := by rw [hy, Int.zero_add] <;> rfl
      subst hy'
      obtain ⟨col, rfl, hcl, hct⟩ := hp
      have fin : ∀ t, t < n → Y (vN t) H2 := fun t ht => hY _ F2 H2 (Stp.refl st2.fh) ⟨col ++ [t], by rw [List.map_append] <;> rfl, by rw [List.length_append, hcl] <;> rfl, fun z hz => (List.mem_append.mp hz).elim (hct z) fun q => by rw [List.mem_singleton.mp q]; exact ht⟩
      have finI : ∀ x : Int, 0 ≤ x → x < n → Y (.int x) H2 := fun x h0 h1 => by
        obtain ⟨v, e, h⟩ := nat_of h0 h1
        rw [e]
        exact fin v (Int.ofNat_lt.mp h)
      refine ⟨rfl, lc_yes ⟨vN i, rfl, vN to, rfl, _, _, rfl, rfl, .inl ⟨_, rfl, vN n, rfl, _, _, rfl, rfl, hnp, ?_⟩⟩⟩
      exact finI _ (Int.emod_nonneg _ (by omega)) (Int.emod_lt_of_pos _ hnp)
    · obtain ⟨col, rfl, hcl, hct⟩ := hp
      obtain ⟨s3, d3⟩ := dp_frz (K := K) (st1.trans st2.up) (st1.none_ hD) mu
      have dl3 := (d1.step0 st2).frz (p := D2) (u := .lst (col.map vN)) (fun e => hd.there D DealAt.inD (by rw [e]; exact st1.none_ hD)) (fun e => hd.there L DealAt.inL (by rw [e]; exact st1.none_ hD))
      exact q _ _ _ s3 ⟨⟨col, d3, hcl, hct⟩, dl3⟩
  rw [decide_eq_false h0]
  refine iteF ⟨.int e, rfl, rfl, _, rfl, ?_⟩
  rw [int_dec]
  by_cases h1 : e = 1
  · rw [decide_eq_true h1]
    refine iteT ?_
    refine ⟨vN to, rfl, (show 1 ≤ sizeLine by decide), fun p hp => ⟨vN n, rfl, p, n, [vN to], rfl, rfl, upd_same, by omega, by omega, by rw [sizeLine_eq]; show 1 * _ ≤ _; omega, fun p2 hp2 => ?_⟩⟩
    have e9 : (List.replicate (n : Int).toNat [vN to]).flatten = (List.replicate n to).map vN := by
      rw [Int.toNat_natCast, ← rep_V]
      exact flat_rep _ _
    rw [e9]
    have s2 := st1.trans (Stp.new (S := [D, L]) (o := .lst [vN to]) st1.fh hp)
    have s3 := s2.trans (Stp.new (S := [D, L]) (o := .lst ((List.replicate n to).map vN)) s2.fh hp2)
    have d2 := d1.step0 (Stp.new (o := .lst [vN to]) st1.fh hp)
    have d3 := d2.step0 (Stp.new (o := .lst ((List.replicate n to).map vN)) s2.fh hp2)
    refine q _ _ _ s3 ⟨⟨List.replicate n to, dp_lst s2.fh hp2 (all_nats _), List.length_replicate .., fun t ht => ?_⟩, d3⟩
    rw [List.eq_of_mem_replicate ht]
    exact hto
  rw [decide_eq_false h1]
  refine iteF ⟨.int e, rfl, rfl, _, rfl, ?_⟩
  rw [int_dec]
  by_cases h2 : e = 2
  · rw [decide_eq_true h2]
    refine iteT ?_
    refine ⟨vN n, rfl, (n : Int), rfl, by omega, by omega, ?_⟩
    rw [Int.toNat_natCast]
    refine lc_do (S := []) (src_r (F := F1)) st1.fh (fun a h => by cases h) (by rw [sizeLine_eq]; omega) (fun i acc _ _ => ∃ col : List Nat, acc = col.map vN ∧ col.length = i ∧ ∀ t ∈ col, t < n) (by refine ⟨[], rfl, rfl, fun t h => ?_⟩; cases h) (fun i y acc F2 H2 hi hy st2 hp Y N hY hN => ?_) fun D2 acc F2 H2 st2 hD mu hl hp => ?_
    · have hy' : y = vN i := by rw [hy, Int.zero_add] <;> rfl
      subst hy'
      obtain ⟨col, rfl, hcl, hct⟩ := hp
      have fin : ∀ t, t < n → Y (vN t) H2 := fun t ht => hY _ F2 H2 (Stp.refl st2.fh) ⟨col ++ [t], by rw [List.map_append] <;> rfl, by rw [List.length_append, hcl] <;> rfl, fun z hz => (List.mem_append.mp hz).elim (hct z) fun q => by rw [List.mem_singleton.mp q]; exact ht⟩
      have finI : ∀ x : Int, 0 ≤ x → x < n → Y (.int x) H2 := fun x h0 h1 => by
        obtain ⟨v, e, h⟩ := nat_of h0 h1
        rw [e]
        exact fin v (Int.ofNat_lt.mp h)
      refine ⟨rfl, lc_yes ⟨vN i, rfl, rfl, _, rfl, ?_⟩⟩
      cases decide (vN i = V.int 0) with
      | true => exact iteT ⟨vN to, rfl, fin to hto⟩
      | false => exact iteF ⟨vN i, rfl, fin i hi⟩
    · obtain ⟨col, rfl, hcl, hct⟩ := hp
      obtain ⟨s3, d3⟩ := dp_frz (K := K) (st1.trans st2.up) (st1.none_ hD) mu
      have dl3 := (d1.step0 st2).frz (p := D2) (u := .lst (col.map vN)) (fun e => hd.there D DealAt.inD (by rw [e]; exact st1.none_ hD)) (fun e => hd.there L DealAt.inL (by rw [e]; exact st1.none_ hD))
      exact q _ _ _ s3 ⟨⟨col, d3, hcl, hct⟩, dl3⟩
  rw [decide_eq_false h2]
  refine iteF ⟨.int e, rfl, rfl, _, rfl, ?_⟩
  rw [int_dec]
  by_cases h3 : e = 3
  · rw [decide_eq_true h3]
    refine iteT ?_
    refine ⟨vN n, rfl, (n : Int), rfl, by omega, by omega, ?_⟩
    rw [Int.toNat_natCast]
    refine lc_do (S := []) (src_r (F := F1)) st1.fh (fun a h => by cases h) (by rw [sizeLine_eq]; omega) (fun i acc _ _ => ∃ col : List Nat, acc = col.map vN ∧ col.length = i ∧ ∀ t ∈ col, t < n) (by refine ⟨[], rfl, rfl, fun t h => ?_⟩; cases h) (fun i y acc F2 H2 hi hy st2 hp Y N hY hN => ?_) fun D2 acc F2 H2 st2 hD mu hl hp => ?_
    · have hy' : y = vN i := by rw [hy, Int.zero_add] <;> rfl
      subst hy'
      obtain ⟨col, rfl, hcl, hct⟩ := hp
      have fin : ∀ t, t < n → Y (vN t) H2 := fun t ht => hY _ F2 H2 (Stp.refl st2.fh) ⟨col ++ [t], by rw [List.map_append] <;> rfl, by rw [List.length_append, hcl] <;> rfl, fun z hz => (List.mem_append.mp hz).elim (hct z) fun q => by rw [List.mem_singleton.mp q]; exact ht⟩
      have finI : ∀ x : Int, 0 ≤ x → x < n → Y (.int x) H2 := fun x h0 h1 => by
        obtain ⟨v, e, h⟩ := nat_of h0 h1
        rw [e]
        exact fin v (Int.ofNat_lt.mp h)
      refine ⟨rfl, lc_yes ⟨vN n, rfl, _, _, rfl, rfl, vN i, rfl, vN to, rfl, _, _, rfl, rfl, _, _, rfl, rfl, _, _, rfl, _, _, rfl, ?_⟩⟩
      refine finI _ ?_ ?_
      · split <;> split <;> omega
      · split <;> split <;> omega
    · obtain ⟨col, rfl, hcl, hct⟩ := hp
      obtain ⟨s3, d3⟩ := dp_frz (K := K) (st1.trans st2.up) (st1.none_ hD) mu
      have dl3 := (d1.step0 st2).frz (p := D2) (u := .lst (col.map vN)) (fun e => hd.there D DealAt.inD (by rw [e]; exact st1.none_ hD)) (fun e => hd.there L DealAt.inL (by rw [e]; exact st1.none_ hD))
      exact q _ _ _ s3 ⟨⟨col, d3, hcl, hct⟩, dl3⟩
  rw [decide_eq_false h3]
  refine iteF ⟨.int e, rfl, rfl, _, rfl, ?_⟩
  rw [int_dec]
  by_cases h4 : e = 4
  · rw [decide_eq_true h4]
    refine iteT ?_
    refine ⟨.ref D, rfl, vN n, rfl, _, rfl, RgOk.of_le (by omega) (by omega) (by omega) (by omega), fun p hp => ?_⟩
    rw [rgV_nat]
    have s2 := st1.trans (Stp.new (S := [D, L]) (o := .lst ((List.range n).map vN)) st1.fh hp)
    have dl := dp_lst (K := K) st1.fh hp (all_nats (List.range n))
    have d2 := d1.step0 (Stp.new (o := .lst ((List.range n).map vN)) st1.fh hp)
    refine ⟨_, D, L, .ref p, (List.range n).map nD, rfl, s2.fh, d2, dl, ⟨by rw [List.length_map, List.length_range]; omega, fun x hx => ⟨lay_nD _ x hx, Nat.le_trans (dep_nD _ x hx) (by decide)⟩⟩, fun r F3 H3 st3 hr => ?_⟩
    obtain ⟨⟨es, hes, des⟩, d3⟩ := hr
    refine q r F3 H3 (s2.trans st3) ⟨?_, d3⟩
    obtain ⟨col, rfl⟩ : ∃ col : List Nat, es = col.map nD := nat_list fun x hx => by
      obtain ⟨t, _, rfl⟩ := List.mem_map.mp (hes.mem_iff.mp hx)
      exact ⟨t, rfl⟩
    refine ⟨col, des, ?_, fun t ht => ?_⟩
    · have z := hes.length_eq
      rwa [List.length_map, List.length_map, List.length_range] at z
    · obtain ⟨u, hu, e⟩ := List.mem_map.mp (hes.mem_iff.mp (List.mem_map.mpr ⟨t, ht, rfl⟩))
      injection e with e
      rw [← Int.ofNat_inj.mp e]
      exact List.mem_range.mp hu
  rw [decide_eq_false h4]
  refine iteF ⟨.int e, rfl, rfl, _, rfl, ?_⟩
  rw [int_dec]
  by_cases h5 : e = 5
  · rw [decide_eq_true h5]
    refine iteT ?_
    refine ⟨vN n, rfl, (n : Int), rfl, by omega, by omega, ?_⟩
    rw [Int.toNat_natCast]
    refine lc_do (S := []) (src_r (F := F1)) st1.fh (fun a h => by cases h) (by rw [sizeLine_eq]; omega) (fun i acc _ _ => ∃ col : List Nat, acc = col.map vN ∧ col.length = i ∧ ∀ t ∈ col, t < n) (by refine ⟨[], rfl, rfl, fun t h => ?_⟩; cases h) (fun i y acc F2 H2 hi hy st2 hp Y N hY hN => ?_) fun D2 acc F2 H2 st2 hD mu hl hp => ?_
    · have hy' : y = vN i := by rw [hy, Int.zero_add] <;> rfl
      subst hy'
      obtain ⟨col, rfl, hcl, hct⟩ := hp
      have fin : ∀ t, t < n → Y (vN t) H2 := fun t ht => hY _ F2 H2 (Stp.refl st2.fh) ⟨col ++ [t], by rw [List.map_append] <;> rfl, by rw [List.length_append, hcl] <;> rfl, fun z hz => (List.mem_append.mp hz).elim (hct z) fun q => by rw [List.mem_singleton.mp q]; exact ht⟩
      have finI : ∀ x : Int, 0 ≤ x → x < n → Y (.int x) H2 := fun x h0 h1 => by
        obtain ⟨v, e, h⟩ := nat_of h0 h1
        rw [e]
        exact fin v (Int.ofNat_lt.mp h)
      refine ⟨rfl, lc_yes ⟨vN i, rfl, vN to, rfl, _, _, rfl, ?_⟩⟩
      refine finI _ ?_ ?_
      · split <;> omega
      · split <;> omega
    · obtain ⟨col, rfl, hcl, hct⟩ := hp
      obtain ⟨s3, d3⟩ := dp_frz (K := K) (st1.trans st2.up) (st1.none_ hD) mu
      have dl3 := (d1.step0 st2).frz (p := D2) (u := .lst (col.map vN)) (fun e => hd.there D DealAt.inD (by rw [e]; exact st1.none_ hD)) (fun e => hd.there L DealAt.inL (by rw [e]; exact st1.none_ hD))
      exact q _ _ _ s3 ⟨⟨col, d3, hcl, hct⟩, dl3⟩
  rw [decide_eq_false h5]
  refine iteF ⟨.int e, rfl, rfl, _, rfl, ?_⟩
  rw [int_dec]
  by_cases h6 : e = 6
  · rw [decide_eq_true h6]
    refine iteT ?_
    refine ⟨vN n, rfl, _, _, rfl, rfl, ⟨(show (0 : Int) < 2 by decide), (show (2 : Int) < 1073741824 by decide)⟩, _, _, rfl, ?_⟩
    have hh : (1 : Int) ≤ (if (n : Int) / 2 > 1 then (n : Int) / 2 else 1) ∧ (if (n : Int) / 2 > 1 then (n : Int) / 2 else 1) ≤ n := by constructor <;> split <;> omega
    generalize (if (n : Int) / 2 > 1 then (n : Int) / 2 else 1) = hf at hh
    obtain ⟨hh1, hh2⟩ := hh
    refine ⟨vN n, rfl, (n : Int), rfl, by omega, by omega, ?_⟩
    rw [Int.toNat_natCast]
    refine lc_do (S := []) (src_r (F := F1)) st1.fh (fun a h => by cases h) (by rw [sizeLine_eq]; omega) (fun i acc _ _ => ∃ col : List Nat, acc = col.map vN ∧ col.length = i ∧ ∀ t ∈ col, t < n) (by refine ⟨[], rfl, rfl, fun t h => ?_⟩; cases h) (fun i y acc F2 H2 hi hy st2 hp Y N hY hN => ?_) fun D2 acc F2 H2 st2 hD mu hl hp => ?_
    · have hy' : y = vN i := by rw [hy, Int.zero_add] <;> rfl
      subst hy'
      obtain ⟨col, rfl, hcl, hct⟩ := hp
      have fin : ∀ t, t < n → Y (vN t) H2 := fun t ht => hY _ F2 H2 (Stp.refl st2.fh) ⟨col ++ [t], by rw [List.map_append] <;> rfl, by rw [List.length_append, hcl] <;> rfl, fun z hz => (List.mem_append.mp hz).elim (hct z) fun q => by rw [List.mem_singleton.mp q]; exact ht⟩
      have finI : ∀ x : Int, 0 ≤ x → x < n → Y (.int x) H2 := fun x h0 h1 => by
        obtain ⟨v, e, h⟩ := nat_of h0 h1
        rw [e]
        exact fin v (Int.ofNat_lt.mp h)
      have m0 := Int.emod_nonneg ((i : Int) + (to : Int)) (show hf ≠ 0 by omega)
      have m1 := Int.emod_lt_of_pos ((i : Int) + (to : Int)) (show 0 < hf by omega)
      refine ⟨rfl, lc_yes ⟨vN i, rfl, vN to, rfl, _, _, rfl, rfl, .inl ⟨_, rfl, .int hf, rfl, _, _, rfl, rfl, (show 0 < hf by omega), vN i, rfl, .int hf, rfl, _, _, rfl, rfl, _, rfl, ?_⟩⟩⟩
      cases h8 : decide (hf ≤ (i : Int)) with
      | false => exact iteF ⟨_, _, rfl, rfl, finI _ (by omega) (by omega)⟩
      | true =>
        refine iteT ⟨.int hf, rfl, _, _, rfl, rfl, .inl ⟨by decide, by decide⟩, vN n, rfl, _, _, rfl, rfl, _, rfl, ?_⟩
        by_cases h9 : 2 * hf ≤ (n : Int)
        · rw [decide_eq_true h9]
          exact iteT ⟨.int hf, rfl, _, _, rfl, rfl, finI _ (by omega) (by omega)⟩
        · rw [decide_eq_false h9]
          exact iteF ⟨_, _, rfl, rfl, finI _ (by omega) (by omega)⟩
    · obtain ⟨col, rfl, hcl, hct⟩ := hp
      obtain ⟨s3, d3⟩ := dp_frz (K := K) (st1.trans st2.up) (st1.none_ hD) mu
      have dl3 := (d1.step0 st2).frz (p := D2) (u := .lst (col.map vN)) (fun e => hd.there D DealAt.inD (by rw [e]; exact st1.none_ hD)) (fun e => hd.there L DealAt.inL (by rw [e]; exact st1.none_ hD))
      exact q _ _ _ s3 ⟨⟨col, d3, hcl, hct⟩, dl3⟩
  rw [decide_eq_false h6]
  refine iteF ⟨vN n, rfl, (n : Int), rfl, by omega, by omega, ?_⟩
  rw [Int.toNat_natCast]
  refine lc_do (S := [D, L]) (src_r (F := F1)) st1.fh d1.there (by rw [sizeLine_eq]; omega) (fun i acc F' H' => Deal F' H' D L ∧ ∃ col : List Nat, acc = col.map vN ∧ col.length = i ∧ ∀ t ∈ col, t < n) ⟨d1.rs, [], rfl, rfl, fun x hx => (by cases hx)⟩ (fun i y acc F2 H2 hi hy st2 hp Y N hY hN => ?_) fun D2 acc F2 H2 st2 hD mu hl hp => ?_
  · obtain ⟨d2, col, rfl, hcl, hct⟩ := hp
    refine ⟨rfl, lc_yes ⟨.ref D, rfl, vN n, rfl, F2, D, L, n, rfl, st2.fh, d2.unrs, hn1, by omega, fun r F3 H3 st3 hr => ?_⟩⟩
    obtain ⟨⟨v, rfl, hv⟩, d3⟩ := hr
    refine hY _ F3 H3 st3 ⟨d3.rs, col ++ [v], by rw [List.map_append] <;> rfl, by rw [List.length_append, hcl] <;> rfl, fun z hz => (List.mem_append.mp hz).elim (hct z) fun q => by rw [List.mem_singleton.mp q]; exact hv⟩
  · obtain ⟨d2, col, rfl, hcl, hct⟩ := hp
    obtain ⟨s3, d3⟩ := dp_frz (K := K) (st1.trans st2) (st1.none_ hD) mu
    have dl3 := d2.unrs.frz (p := D2) (u := .lst (col.map vN)) (fun e => hd.there D DealAt.inD (by rw [e]; exact st1.none_ hD)) (fun e => hd.there L DealAt.inL (by rw [e]; exact st1.none_ hD))
    exact q _ _ _ s3 ⟨⟨col, d3, hcl, hct⟩, dl3⟩

end
end K11


set_option Elab.async false
set_option linter.all false
set_option maxRecDepth 100000
set_option maxHeartbeats 4000000
/-! _law_machine. -/
namespace K11
open PySem PySem.Spec PyProof.Rows L2
/-- a drawn machine: (commands, steps) -/
def MD (K : PySem.W.Frag) (F : Hp) (r : V) : Prop := ∃ (p : Addr) (v : V) (c n : Nat) (δ : List (List Nat)), r = .ref p ∧ SqT K F p [vN c, v] ∧ StD K F v δ ∧ WF c n δ
theorem MD.up {K : PySem.W.Frag} {F H : Hp} {r : V} (h : MD K F r) (e : Same F H) : MD K H r := by
  obtain ⟨p, v, c, n, δ, h1, h2, h3, h4⟩ := h
  exact ⟨p, v, c, n, δ, h1, same_t e h2, h3.up e, h4⟩
def spMachL (K : PySem.W.Frag) : Sp := fun vs H Q _ => ∃ (F : Hp) (D L : Addr), vs = [.ref D, vN 5] ∧ Same F H ∧ Deal F H D L ∧ Back [D, L] F H Q fun r F' H' => MD K F' r ∧ Deal F' H' D L
theorem of3 {r : V} (h : r ∈ [V.int 1, .int 2, .int 2, .int 2, .int 3]) : ∃ c : Nat, r = vN c ∧ 1 ≤ c ∧ c ≤ 3 := by
  simp only [List.mem_cons, List.not_mem_nil, or_false] at h
  rcases h with h | h | h | h | h
  · exact ⟨1, h, by decide, by decide⟩
  · exact ⟨2, h, by decide, by decide⟩
  · exact ⟨2, h, by decide, by decide⟩
  · exact ⟨2, h, by decide, by decide⟩
  · exact ⟨3, h, by decide, by decide⟩
theorem ofOT {r : V} (h : r ∈ [V.int 1, .int 3]) : ∃ c : Nat, r = vN c := by
  simp only [List.mem_cons, List.not_mem_nil, or_false] at h
  rcases h with h | h
  · exact ⟨1, h⟩
  · exact ⟨3, h⟩
theorem Deal.off {F H : Hp} {D L p : Addr} (h : Deal F H D L) (hp : H p = none) : D ≠ p ∧ L ≠ p := by
  have z := h.there
  exact ⟨fun e => z D DealAt.inD (by rw [e]; exact hp), fun e => z L DealAt.inL (by rw [e]; exact hp)⟩
/-- freeze a list while the deal stays -/
theorem deal_frz {K : PySem.W.Frag} {F H F1 H1 : Hp} {D L p : Addr} {xs : List V} {ds : List PyData} (hd : Deal F H D L) (s : Stp [D, L] F H F1 H1) (h0 : H p = none) (m : Mu F1 H1 p (.lst xs)) (al : DpAll K F1 xs ds) (d : Deal F1 H1 D L) :
    Stp [D, L] F H (upd F1 p (.lst xs)) H1 ∧ Same F1 (upd F1 p (.lst xs)) ∧ Dp K (upd F1 p (.lst xs)) (.ref p) (.list ds) ∧ Deal (upd F1 p (.lst xs)) H1 D L := by
  obtain ⟨a, b, c⟩ := frz_l s h0 m al
  obtain ⟨h1, h2⟩ := hd.off h0
  exact ⟨a, b, c, d.frz h1 h2⟩
theorem new_row {K : PySem.W.Frag} {S : List Addr} {F H F1 H1 : Hp} {p : Addr} (s : Stp S F H F1 H1) (hp : H1 p = none) (row : List Nat) : Stp S F H (upd F1 p (.lst (row.map vN))) (upd H1 p (.lst (row.map vN))) ∧ Same F1 (upd F1 p (.lst (row.map vN))) ∧ Dp K (upd F1 p (.lst (row.map vN))) (.ref p) (lN row) ∧ ∀ {D L}, Deal F1 H1 D L → Deal (upd F1 p (.lst (row.map vN))) (upd H1 p (.lst (row.map vN))) D L := by
  have n := Stp.new (S := []) (o := .lst (row.map vN)) s.fh hp
  exact ⟨s.trans n.up, n.ff, dp_lst s.fh hp (all_nats row), fun d => d.step0 n⟩
section
variable {P : Program} {w : World} {K : PySem.W.Frag} {mg : Str → Option Value} {base : Heap}
theorem sc_law_machine : FnScope ["_law_deal", "_law_most", "_law_form", "_law_commands", "_law_one", "_law_other", "_law_s", "_law_many", "_law_columns_here", "_law_command", "_law_kind"] ["_law_deal", "_law_most"] (defScope s_law_machine) := ⟨rfl, rfl, rfl, by decide +kernel, rfl, by decide +kernel, by decide +kernel⟩
theorem bn_law_machine : BindN d_law_machine ["_law_deal", "_law_most"] := fun _ _ _ _ _ _ us hl => match us, hl with | [_, _], _ => rfl
theorem ok_law_machine (T : Top P w K mg base) : Cal P w K mg base d_law_machine "_law_machine" 4 ["_law_deal", "_law_most"] (spMachL K) := by
  refine T.cal 38 35 rfl rfl rfl rfl rfl sc_law_machine bn_law_machine (fun vs H Q E h => ?_) fun f cdv A outer s H vs Q E hr h => ?_
  · obtain ⟨_, _, _, rfl, _⟩ := h
    rfl
  have nd := (sc_law_machine).nd
  refine ⟨_, (pss_cons (ps_par (i := 2) (j := 3) rfl nd rfl rfl (by decide) rfl rfl (pa_cons (pe_cal (ok_law_any T) hr (by decide) (by rfl) (pa_cons (pv 0) (pa_cons pe_int pa_nil))) (pa_cons (pe_cal (ok_law_of T) hr (by decide) (by rfl) (pa_cons (pv 0) (pa_cons (pe_lst (pa_cons pe_int (pa_cons pe_int (pa_cons pe_int (pa_cons pe_int (pa_cons pe_int pa_nil)))))) pa_nil))) pa_nil)) (by rfl))
    (pss_cons (ps_if (pw_and (pt_cmpR op_eq (pv 2) pe_int (nomark _)) (pw_and1 (pt_cmpR op_gt (pv 1) pe_int (nomark _)))).pt
      (pss_one (ps_ret (pe_tup (pa_cons pe_int (pa_cons (pe_lst (pa_cons (pe_lst (pa_cons pe_int (pa_cons pe_int pa_nil))) (pa_cons (pe_lst (pa_cons pe_int (pa_cons pe_int pa_nil))) (pa_cons (pe_lst (pa_cons pe_int (pa_cons pe_int pa_nil))) (pa_cons (pe_lst (pa_cons pe_int (pa_cons pe_int pa_nil))) pa_nil))))) pa_nil)))))
      pss_nil)
    (pss_cons (ps_if (pw_and (pt_cmpR op_eq (pv 2) pe_int (nomark _)) (pw_and1 (pt_cmpR op_gt (pv 1) pe_int (nomark _)))).pt
      (pss_cons (ps_asg (pe_tup (pa_cons (pe_cal (ok_law_any T) hr (by decide) (by rfl) (pa_cons (pv 0) (pa_cons pe_int pa_nil))) (pa_cons (pe_cal (ok_law_of T) hr (by decide) (by rfl) (pa_cons (pv 0) (pa_cons (pe_lst (pa_cons pe_int (pa_cons pe_int pa_nil))) pa_nil))) pa_nil))) (pg_tup rfl (pgs_cons (pg_name (i := 4) nd rfl (.inr rfl)) (pgs_cons (pg_name (i := 5) nd rfl (.inr rfl)) pgs_nil))))
    (pss_one (ps_ret (pe_tup (pa_cons pe_int (pa_cons (pe_lc (own := [("_law_s", 6)]) (g := (gName 6)) (tt := tYes) (te := (tLst (tCons (tOp rAdd_ (tOp rMul_ (tC (.int 2)) (tOp rDiv_ (tVar 6) (tC (.int 2)))) (tVar 4)) (tCons (tIf (tTest (tOp rEq (tOp rMod_ (tVar 6) (tC (.int 2))) (tC (.int 0)))) (tOp rMod_ (tCB rInt_ (tCons (tOp rAdd_ (tVar 6) (tVar 5)) tNil)) (tC (.int 4))) (tOp rMod_ (tCB rInt_ (tCons (tOp rAdd_ (tVar 6) (tC (.int 2))) tNil)) (tC (.int 4)))) tNil)))) rfl nd (pi_range1 (by rfl) T.n_range (pa_cons pe_int pa_nil)) (blkOk_by (by kernel_rfl)) (fun _ _ _ _ _ => (pg_name (i := 6) nd rfl (.inl rfl))) (fun _ _ _ _ _ => pts_nil) (fun _ _ _ _ _ => (pe_lst (pa_cons (pe_op op_add (pe_op op_mul pe_int (pe_op op_fdiv (pv 6) pe_int)) (pv 4)) (pa_cons (pe_ifExp (pt_cmpR op_eq (pe_op op_mod (pv 6) pe_int) pe_int (nomark _)) (pe_op op_mod (pe_callTy cl_int (by rfl) T.n_int bt_int (pa_cons (pe_op op_add (pv 6) (pv 5)) pa_nil)) pe_int) (pe_op op_mod (pe_callTy cl_int (by rfl) T.n_int bt_int (pa_cons (pe_op op_add (pv 6) pe_int) pa_nil)) pe_int)) pa_nil))))) pa_nil))))))
      pss_nil)
    (pss_cons (ps_par (i := 7) (j := 8) rfl nd rfl rfl (by decide) rfl rfl (pa_cons (pe_op op_add pe_int (pe_cal (ok_law_any T) hr (by decide) (by rfl) (pa_cons (pv 0) (pa_cons (pv 1) pa_nil)))) (pa_cons (pe_lst pa_nil) pa_nil)) (by rfl))
    (pss_cons (ps_for (passes_of rfl) rfl (pi_range1 (by rfl) T.n_range (pa_cons (pv 3) pa_nil)) (pg_name (i := 9) nd rfl (.inl rfl))
      (pss_cons (ps_set (i := 10) nd rfl (.inl rfl) (pe_ifExp (pt_cmpR op_gt (pv 2) pe_int (nomark _)) (pe_cal (ok_law_any T) hr (by decide) (by rfl) (pa_cons (pv 0) (pa_cons pe_int pa_nil))) (pv 2)))
    (pss_one (ps_expr (pe_bm PySem.F.plainAttrs_list PySem.F.slot_list_append PySem.F.type_list_append mt_append (pv 8) (pa_cons (pe_cal (ok_law_column T) hr (by decide) (by rfl) (pa_cons (pv 0) (pa_cons (pv 10) (pa_cons (pv 7) pa_nil)))) pa_nil))))))
    (pss_one (ps_ret (pe_tup (pa_cons (pv 3) (pa_cons (pe_cal (ok_law_columns T) hr (by decide) (by rfl) (pa_cons (pv 8) pa_nil)) pa_nil)))))))))), ?_⟩
  obtain ⟨F, D, L, rfl, hF, hd, q⟩ := h
  refine ⟨.ref D, rfl, F, D, L, 12, rfl, hF, hd, by decide, by decide, fun r F1 H1 st1 hr => ?_⟩
  obtain ⟨⟨form, rfl, hfo⟩, d1⟩ := hr
  refine ⟨.ref D, rfl, (show 5 ≤ sizeLine by decide), fun p hp => ?_⟩
  have s2 := st1.trans (Stp.new (S := [D, L]) (o := .lst [V.int 1, .int 2, .int 2, .int 2, .int 3]) st1.fh hp)
  have d2 := d1.step0 (Stp.new (o := .lst [V.int 1, .int 2, .int 2, .int 2, .int 3]) st1.fh hp)
  refine ⟨_, D, L, p, [V.int 1, .int 2, .int 2, .int 2, .int 3], rfl, s2.fh, d2, .inl (.inl upd_same), by decide, by decide, fun r F3 H3 st3 hr => ?_⟩
  obtain ⟨hr, d3⟩ := hr
  obtain ⟨c, rfl, hc1, hc3⟩ := of3 hr
  have s3 := s2.trans st3
  clear st3 d2 s2 hp d1 st1 hr
  refine ⟨_, _, rfl, vN form, rfl, rfl, _, rfl, ?_⟩
  have h53 : decide ((3 : Int) < ((5 : Nat) : Int)) = true := by decide
  rw [int_dec]
  by_cases h10 : (form : Int) = 10
  · rw [decide_eq_true h10]
    refine iteT ⟨vN 5, rfl, _, _, rfl, rfl, _, rfl, ?_⟩
    rw [h53]
    refine iteT ⟨two_le, fun p1 hp1 => ?_⟩
    obtain ⟨t1, e1, g1, k1⟩ := new_row (K := K) s3 hp1 [0, 1]
    refine ⟨two_le, fun p2 hp2 => ?_⟩
    obtain ⟨t2, e2, g2, k2⟩ := new_row (K := K) t1 hp2 [2, 3]
    refine ⟨two_le, fun p3 hp3 => ?_⟩
    obtain ⟨t3, e3, g3, k3⟩ := new_row (K := K) t2 hp3 [0, 1]
    refine ⟨two_le, fun p4 hp4 => ?_⟩
    obtain ⟨t4, e4, g4, k4⟩ := new_row (K := K) t3 hp4 [2, 3]
    refine ⟨(show 4 ≤ sizeLine by decide), fun p5 hp5 => ⟨two_le, fun p6 hp6 => ?_⟩⟩
    have n5 := Stp.new (S := []) (o := .lst [.ref p1, .ref p2, .ref p3, .ref p4]) t4.fh hp5
    have t5 := t4.trans n5.up
    have n6 := Stp.new (S := []) (o := .tup [.int 2, .ref p5]) t5.fh hp6
    have g5 : Dp K _ (.ref p5) (.list ([[0, 1], [2, 3], [0, 1], [2, 3]].map lN)) := dp_lst (xs := [.ref p1, .ref p2, .ref p3, .ref p4]) t4.fh hp5 (.cons (((g1.up e2).up e3).up e4) (.cons ((g2.up e3).up e4) (.cons (g3.up e4) (.cons g4 .nil))))
    refine q _ _ _ (t5.trans n6.up) ⟨⟨p6, .ref p5, 2, 4, _, rfl, .inl (.inl upd_same), g5.up n6.ff, ?_⟩, ((k4 (k3 (k2 (k1 d3)))).step0 n5).step0 n6⟩
    exact ⟨rfl, by decide, by decide, by decide, by decide, by decide, by decide⟩
  · rw [decide_eq_false h10]
    refine iteF (iteF ⟨vN form, rfl, rfl, _, rfl, ?_⟩)
    rw [int_dec]
    by_cases h11 : (form : Int) = 11
    · rw [decide_eq_true h11]
      refine iteT ⟨vN 5, rfl, _, _, rfl, rfl, _, rfl, ?_⟩
      rw [h53]
      refine iteT ⟨.ref D, rfl, F3, D, L, 2, rfl, s3.fh, d3, by decide, by decide, fun r F4 H4 st4 hr => ?_⟩
      obtain ⟨⟨one, rfl, hone⟩, d4⟩ := hr
      have s4 := s3.trans st4
      refine ⟨.ref D, rfl, two_le, fun p hp => ?_⟩
      have s5 := s4.trans (Stp.new (S := [D, L]) (o := .lst [V.int 1, .int 3]) s4.fh hp)
      have d5 := d4.step0 (Stp.new (o := .lst [V.int 1, .int 3]) s4.fh hp)
      refine ⟨_, D, L, p, [V.int 1, .int 3], rfl, s5.fh, d5, .inl (.inl upd_same), by decide, by decide, fun r F6 H6 st6 hr => ?_⟩
      obtain ⟨hr, d6⟩ := hr
      obtain ⟨oth, rfl⟩ := ofOT hr
      have s6 := s5.trans st6
      clear st6 d5 s5 hp st4 hr d4
      refine ⟨two_le, fun pt hpt => ?_⟩
      refine ⟨pt, _, rfl, .inl (.inl upd_same), rfl, _, _, rfl, _, _, rfl, rfl, 4, rfl, by decide, by decide, ?_⟩
      have n6 := Stp.new (S := []) (o := .tup [vN one, vN oth]) s6.fh hpt
      replace s6 := s6.trans n6.up
      replace d6 := d6.step0 n6
      generalize upd F6 pt (.tup [vN one, vN oth]) = F6 at s6 d6
      generalize upd H6 pt (.tup [vN one, vN oth]) = H6 at s6 d6 ⊢
      refine lc_do (S := []) (src_r (F := F6)) s6.fh (fun a h => by cases h) (by rw [sizeLine_eq]; decide) (fun i acc F' _ => ∃ rows : List (List Nat), DpAll K F' acc (rows.map lN) ∧ rows.length = i ∧ ∀ r ∈ rows, r.length = 2 ∧ ∀ t ∈ r, t < 4) (by refine ⟨[], .nil, rfl, fun t h => ?_⟩; cases h) (fun i y acc F7 H7 hi hy st7 hp Y N hY hN => ?_) fun D2 acc F7 H7 st7 hD mu hl hp => ?_
      · have hy' : y = vN i := by rw [hy, Int.zero_add] <;> rfl
        subst hy'
        have hi4 : i < 4 := hi
        obtain ⟨rows, dr, hrl, hr⟩ := hp
        have fin : ∀ x y : Int, 0 ≤ x → x < 4 → 0 ≤ y → y < 4 → ∀ p, H7 p = none → Y (.ref p) (L2.upd H7 p (.lst [.int x, .int y])) := fun x y x0 x1 y0 y1 p hp => by
          obtain ⟨a, ea, ha⟩ := nat_of x0 x1
          obtain ⟨b, eb, hb⟩ := nat_of y0 y1
          rw [ea, eb]
          obtain ⟨t1, e1, g1, k1⟩ := new_row (K := K) (S := []) (Stp.refl st7.fh) hp [a, b]
          refine hY _ _ _ t1 ⟨rows ++ [[a, b]], by rw [List.map_append]; exact (dr.up e1).snoc g1, by rw [List.length_append, hrl] <;> rfl, fun r hr2 => ?_⟩
          rcases List.mem_append.mp hr2 with z | z
          · exact hr r z
          · rw [List.mem_singleton.mp z]
            refine ⟨rfl, fun t ht => ?_⟩
            simp only [List.mem_cons, List.not_mem_nil, or_false] at ht
            rcases ht with rfl | rfl <;> omega
        refine ⟨rfl, lc_yes ⟨vN i, rfl, _, _, rfl, rfl, ⟨(show (0 : Int) < 2 by decide), (show (2 : Int) < 1073741824 by decide)⟩, _, _, rfl, rfl, .inl ⟨by decide, by decide⟩, vN one, rfl, _, _, rfl, rfl, vN i, rfl, _, _, rfl, rfl, (show (0 : Int) < 2 by decide), rfl, _, rfl, ?_⟩⟩
        cases decide (V.int ((i : Int) % 2) = V.int 0) with
        | true =>
          refine iteT ⟨vN i, rfl, vN oth, rfl, _, _, rfl, rfl, .inl ⟨_, rfl, _, _, rfl, rfl, (show (0 : Int) < 4 by decide), two_le, ?_⟩⟩
          exact fin _ _ (by omega) (by omega) (Int.emod_nonneg _ (by decide)) (Int.emod_lt_of_pos _ (by decide))
        | false =>
          refine iteF ⟨vN i, rfl, _, _, rfl, rfl, .inl ⟨_, rfl, _, _, rfl, rfl, (show (0 : Int) < 4 by decide), two_le, ?_⟩⟩
          exact fin _ _ (by omega) (by omega) (Int.emod_nonneg _ (by decide)) (Int.emod_lt_of_pos _ (by decide))
      · obtain ⟨rows, dr, hrl, hr⟩ := hp
        obtain ⟨t8, e8, g8, k8⟩ := deal_frz hd (s6.trans st7.up) (s6.none_ hD) mu dr (d6.step0 st7)
        refine ⟨two_le, fun p9 hp9 => ?_⟩
        have n9 := Stp.new (S := []) (o := .tup [.int 2, .ref D2]) t8.fh hp9
        exact q _ _ _ (t8.trans n9.up) ⟨⟨p9, .ref D2, 2, 4, rows, rfl, .inl (.inl upd_same), g8.up n9.ff, ⟨hrl, fun r h => (hr r h).1, fun r h => (hr r h).2, by decide, by decide, by decide, by decide⟩⟩, k8.step0 n9⟩
    · rw [decide_eq_false h11]
      refine iteF (iteF ?_)
      refine ⟨.ref D, rfl, vN 5, rfl, F3, D, L, 5, rfl, s3.fh, d3, by decide, by decide, fun r F4 H4 st4 hr => ?_⟩
      obtain ⟨⟨v, rfl, hv⟩, d4⟩ := hr
      have s4 := s3.trans st4
      refine ⟨_, _, rfl, rfl, Nat.zero_le _, fun l hl => ⟨_, _, rfl, ?_⟩⟩
      have hlH := s4.none_ hl
      have hlS : l ∉ [D, L] := notin_of hd.there hlH
      have s5 := s4.trans (Stp.newM (S := [D, L]) (o := .lst []) s4.fh hl)
      have d5 := d4.step0 (Stp.newM (o := .lst []) s4.fh hl)
      have m5 : Mu F4 _ l (.lst []) := Mu.new s4.fh hl
      generalize upd H4 l (.lst []) = H5 at s5 d5 m5 ⊢
      refine ⟨vN c, rfl, (c : Int), rfl, by omega, by omega, ?_⟩
      rw [Int.toNat_natCast]
      refine for_do (src_r (F := F4)) (fun i σ H' => ∃ (F' : Hp) (cs : List (List Nat)) (xs : List V) (y4 y5 y6 y9 y10 : Option V), σ = [some (.ref D), some (vN 5), some (vN form), some (vN c), y4, y5, y6, some (vN (1 + v)), some (.ref l), y9, y10] ∧ Stp [D, L] F H F' H' ∧ Same F4 F' ∧ Deal F' H' D L ∧ Mu F' H' l (.lst xs) ∧ DpAll K F' xs (cs.map lN) ∧ cs.length = i ∧ ∀ col ∈ cs, Col (1 + v) col) (fun i σ H' h => ?_) ⟨F4, [], [], _, _, _, _, _, rfl, s5, Same.refl _, d5, m5, .nil, rfl, fun col h => by cases h⟩ (fun i x σ H6 hi hx hp => ?_) fun σ H6 hp => ?_
      · obtain ⟨F', _, _, _, _, _, _, _, _, st, e, _⟩ := h
        exact e.trans st.fh
      · obtain ⟨F6, cs, xs, y4, y5, y6, y9, y10, rfl, s6, e6, d6, m6, al6, hcl, hco⟩ := hp
        have fin : ∀ (e : Nat) (F7 H7 : Hp), Stp [D, L] F6 H6 F7 H7 → Deal F7 H7 D L → ∀ r F8 H8, Stp [D, L] F7 H7 F8 H8 → (∃ col, Dp K F8 r (lN col) ∧ Col (1 + v) col) ∧ Deal F8 H8 D L → H8 l = some (.lst xs) ∧ xs.length < sizeLine ∧ ∃ (F' : Hp) (cs : List (List Nat)) (xs2 : List V) (u4 u5 u6 u9 u10 : Option V), [some (.ref D), some (vN 5), some (vN form), some (vN c), y4, y5, y6, some (vN (1 + v)), some (.ref l), some x, some (vN e)] = [some (.ref D), some (vN 5), some (vN form), some (vN c), u4, u5, u6, some (vN (1 + v)), some (.ref l), u9, u10] ∧ Stp [D, L] F H F' (upd H8 l (.lst (xs ++ [r]))) ∧ Same F4 F' ∧ Deal F' (upd H8 l (.lst (xs ++ [r]))) D L ∧ Mu F' (upd H8 l (.lst (xs ++ [r]))) l (.lst xs2) ∧ DpAll K F' xs2 (cs.map lN) ∧ cs.length = i + 1 ∧ ∀ col ∈ cs, Col (1 + v) col := fun e F7 H7 st7 d7 r F8 H8 st8 hr => by
          obtain ⟨⟨col, dc, hc⟩, d8⟩ := hr
          have st68 := st7.trans st8
          have m8 := st68.mu m6 hlS
          obtain ⟨o1, o2⟩ := hd.off hlH
          refine ⟨m8.at_, by rw [al6.len, List.length_map, sizeLine_eq]; omega, F8, cs ++ [col], xs ++ [r], _, _, _, _, _, rfl, (s6.trans st68).write (.inl hlH) m8, e6.trans st68.ff, d8.upd o1 o2, m8.wrote, ?_, by rw [List.length_append, hcl] <;> rfl, fun z hz => ?_⟩
          · rw [List.map_append]
            exact (al6.up st68.ff).snoc dc
          · rcases List.mem_append.mp hz with h | h
            · exact hco z h
            · rw [List.mem_singleton.mp h]
              exact hc
        refine ⟨vN form, rfl, _, _, rfl, rfl, _, rfl, ?_⟩
        have m6' := m6
        cases decide ((7 : Int) < (form : Int)) with
        | true =>
          refine iteT ⟨.ref D, rfl, F6, D, L, 8, rfl, s6.fh, d6, by decide, by decide, fun r F7 H7 st7 hr => ?_⟩
          obtain ⟨⟨e, rfl, he⟩, d7⟩ := hr
          refine ⟨.ref l, rfl, .inl ⟨rfl, _, .inl (.inl (st7.mu m6 hlS).at_)⟩, .ref D, rfl, vN e, rfl, vN (1 + v), rfl, F7, D, L, e, 1 + v, rfl, st7.fh, d7, by omega, by omega, fun r F8 H8 st8 hr => ?_⟩
          obtain ⟨z1, z2, z3⟩ := fin e F7 H7 st7 d7 r F8 H8 st8 hr
          exact ⟨l, xs, r, rfl, rfl, z1, z2, z3⟩
        | false =>
          refine iteF ⟨vN form, rfl, ?_⟩
          refine ⟨.ref l, rfl, .inl ⟨rfl, _, .inl (.inl m6.at_)⟩, .ref D, rfl, vN form, rfl, vN (1 + v), rfl, F6, D, L, form, 1 + v, rfl, s6.fh, d6, by omega, by omega, fun r F8 H8 st8 hr => ?_⟩
          obtain ⟨z1, z2, z3⟩ := fin form F6 H6 (Stp.refl s6.fh) d6 r F8 H8 st8 hr
          exact ⟨l, xs, r, rfl, rfl, z1, z2, z3⟩
      · obtain ⟨F6, cs, xs, y4, y5, y6, y9, y10, rfl, s6, e6, d6, m6, al6, hcl, hco⟩ := hp
        obtain ⟨t7, e7, g7, k7⟩ := deal_frz hd s6 hlH m6 al6 d6
        refine ⟨vN c, rfl, .ref l, rfl, _, .ref l, cs, 1 + v, rfl, t7.fh, g7, by omega, by omega, by omega, fun col h => (hco col h).1, fun r F8 H8 st8 hr => ?_⟩
        refine ⟨two_le, fun p9 hp9 => ?_⟩
        have s8 := t7.trans st8.up
        have n9 := Stp.new (S := []) (o := .tup [vN c, r]) s8.fh hp9
        refine q _ _ _ (s8.trans n9.up) ⟨⟨p9, r, c, 1 + v, rowsOf cs (1 + v), rfl, .inl (.inl upd_same), L2.Dp.up hr n9.ff, rowsOf_wf hcl hco (by omega) (by omega) hc1 hc3⟩, (k7.step0 st8).step0 n9⟩
end
end K11


set_option Elab.async false
set_option linter.all false
set_option maxRecDepth 100000
set_option maxHeartbeats 4000000
/-! _law_renumbered. -/
namespace K11
open PySem PySem.Spec PyProof.Rows L2
def spRenum (K : PySem.W.Frag) : Sp := fun vs H Q _ => ∃ (F : Hp) (D L : Addr) (v : V), vs = [.ref D, v] ∧ Same F H ∧ Deal F H D L ∧ MD K F v ∧ Back [D, L] F H Q fun r F' H' => MD K F' r ∧ Deal F' H' D L
theorem ixN_nat {n k : Nat} (h : k < n) : ixN n (k : Int) = some k := by
  unfold ixN
  rw [if_pos (by omega), if_pos (by omega), Int.toNat_natCast]
section
variable {P : Program} {w : World} {K : PySem.W.Frag} {mg : Str → Option Value} {base : Heap}
theorem sc_law_renumbered : FnScope ["_law_deal", "_law_drawn", "_law_commands", "_law_steps", "_law_places_here", "_law_found", "_law_row_here", "_law_state", "_law_to"] ["_law_deal", "_law_drawn"] (defScope s_law_renumbered) := ⟨rfl, rfl, rfl, by decide +kernel, rfl, by decide +kernel, by decide +kernel⟩
theorem bn_law_renumbered : BindN d_law_renumbered ["_law_deal", "_law_drawn"] := fun _ _ _ _ _ _ us hl => match us, hl with | [_, _], _ => rfl
theorem ok_law_renumbered (T : Top P w K mg base) : Cal P w K mg base d_law_renumbered "_law_renumbered" 3 ["_law_deal", "_law_drawn"] (spRenum K) := by
  refine T.cal 43 40 rfl rfl rfl rfl rfl sc_law_renumbered bn_law_renumbered (fun vs H Q E h => ?_) fun f cdv A outer s H vs Q E hr h => ?_
  · obtain ⟨_, _, _, _, rfl, _⟩ := h
    rfl
  have nd := (sc_law_renumbered).nd
  refine ⟨_, (pss_cons (ps_asg (pv 1) (pg_tup rfl (pgs_cons (pg_name (i := 2) nd rfl (.inl rfl)) (pgs_cons (pg_name (i := 3) nd rfl (.inl rfl)) pgs_nil))))
    (pss_cons (ps_set (i := 4) nd rfl (.inr rfl) (pe_cal (ok_law_mixed T) hr (by decide) (by rfl) (pa_cons (pv 0) (pa_cons (pe_listRg rfl (by rfl) T.n_list (prg_1 (by rfl) T.n_range (pe_callB cl_len (by rfl) T.n_len bt_len (pa_cons (pv 3) pa_nil)))) pa_nil))))
    (pss_cons (ps_setLc (i := 5) (by rfl) nd rfl rfl (sw_true rfl rfl rfl (by decide +kernel)) (own := [("_law_row_here", 6)]) (g := (gName 6)) (tt := tYes) (te := (tLst tNil)) (pi_list (pv 3)) (blkOk_by (by kernel_rfl)) (fun _ _ _ _ _ => (pg_name (i := 6) nd rfl (.inl rfl))) (fun _ _ _ _ _ => pts_nil) (fun _ _ _ _ _ => (pe_lst pa_nil)))
    (pss_cons (ps_for (passes_of rfl) rfl (pi_range1 (by rfl) T.n_range (pa_cons (pe_callB cl_len (by rfl) T.n_len bt_len (pa_cons (pv 3) pa_nil)) pa_nil)) (pg_name (i := 7) nd rfl (.inl rfl))
      (pss_one (ps_asg (pe_lc (own := [("_law_to", 8)]) (g := (gName 8)) (tt := tYes) (te := (tOp (rIxB K) (tVar 4) (tVar 8))) rfl nd (pi_list (pe_ix ix_both (pv 3) (pv 7) (fun _ _ => rfl))) (blkOk_by (by kernel_rfl)) (fun _ _ _ _ _ => (pg_name (i := 8) nd rfl (.inl rfl))) (fun _ _ _ _ _ => pts_nil) (fun _ _ _ _ _ => (pe_ix ix_both (pv 4) (pv 8) (fun _ _ => rfl)))) (pg_sub (pv 5) (pe_ix ix_both (pv 4) (pv 7) (fun _ _ => rfl)) set_list))))
    (pss_one (ps_ret (pe_tup (pa_cons (pv 2) (pa_cons (pv 5) pa_nil))))))))), ?_⟩
  obtain ⟨F, D, L, v, rfl, hF, hd, hv, q⟩ := h
  obtain ⟨p, sv, c, n, δ, rfl, hp, hs, W⟩ := hv
  have hn := W.n6
  have hc := W.c3
  obtain ⟨b, xs, rfl, hb, hall⟩ := L2.Dp.lst_inv hs
  have hxl : xs.length = n := by rw [hall.len, List.length_map, W.len]
  refine ⟨.ref p, rfl, p, _, rfl, same_t hF hp, rfl, _, _, rfl, _, _, rfl, rfl, ?_⟩
  refine ⟨.ref D, rfl, .ref b, rfl, b, xs, rfl, .inl (same_l hF hb), _, rfl, RgOk.of_le (by omega) (by omega) (by omega) (by omega), fun p1 hp1 => ?_⟩
  rw [hxl, rgV_nat]
  have n1 := Stp.new (S := []) (o := .lst ((List.range n).map vN)) hF hp1
  have s1 : Stp [D, L] F H _ _ := n1.up
  have g1 : Dp K _ (.ref p1) (lN (List.range n)) := dp_lst hF hp1 (all_nats _)
  refine ⟨_, D, L, .ref p1, (List.range n).map nD, rfl, s1.fh, hd.step0 n1, g1, ⟨by rw [List.length_map, List.length_range]; omega, fun x hx => ⟨lay_nD _ x hx, Nat.le_trans (dep_nD _ x hx) (by decide)⟩⟩, fun r F2 H2 st2 hr => ?_⟩
  obtain ⟨⟨es, hes, des⟩, d2⟩ := hr
  have s2 := s1.trans st2
  obtain ⟨π, rfl⟩ : ∃ col : List Nat, es = col.map nD := nat_list fun x hx => by
    obtain ⟨t, _, rfl⟩ := List.mem_map.mp (hes.mem_iff.mp hx)
    exact ⟨t, rfl⟩
  have hπl : π.length = n := by
    have z := hes.length_eq
    rwa [List.length_map, List.length_map, List.length_range] at z
  have hπt : ∀ t ∈ π, t < n := fun t ht => by
    obtain ⟨u, hu, e⟩ := List.mem_map.mp (hes.mem_iff.mp (List.mem_map.mpr ⟨t, ht, rfl⟩))
    injection e with e
    rw [← Int.ofNat_inj.mp e]
    exact List.mem_range.mp hu
  have hπs : ∀ k, k < n → k ∈ π := fun k hk => by
    obtain ⟨u, hu, e⟩ := List.mem_map.mp (hes.mem_iff.mpr (List.mem_map.mpr ⟨k, List.mem_range.mpr hk, rfl⟩))
    injection e with e
    rw [← Int.ofNat_inj.mp e]
    exact hu
  obtain ⟨pp, rfl, hpp⟩ := des.lN_inv
  clear st2 n1 s1 g1 hp1 hes
  refine ⟨.ref b, rfl, b, rfl, ⟨_, same_l (s2.ff.trans s2.fh) hb⟩, ?_⟩
  refine lc_do (S := []) (src_l (same_l s2.ff hb)) s2.fh (fun a h => by cases h) (by rw [hxl, sizeLine_eq]; omega) (fun i acc F' _ => DpAll K F' acc ((List.replicate i ([] : List Nat)).map lN)) .nil (fun i y acc F3 H3 hi hy st3 hp3 Y N hY hN => ?_) fun f acc F3 H3 st3 hf mf hl3 hp3 => ?_
  · refine ⟨rfl, lc_yes ⟨Nat.zero_le _, fun p4 hp4 => ?_⟩⟩
    obtain ⟨t1, e1, g1, _⟩ := new_row (K := K) (S := []) (Stp.refl st3.fh) hp4 []
    refine hY _ _ _ t1 ?_
    rw [List.replicate_succ', List.map_append]
    exact (hp3.up e1).snoc g1
  · have s3 := s2.trans st3.up
    have d3 := d2.step0 st3
    have hfH := s2.none_ hf
    rw [hxl] at hp3
    refine ⟨.ref b, rfl, b, xs, rfl, .inl (same_l (s3.ff.trans s3.fh) hb), (n : Int), by rw [hxl], by omega, by omega, ?_⟩
    rw [Int.toNat_natCast]
    refine for_do (src_r (F := F3)) (fun i σ H' => ∃ (F' : Hp) (es : List (List Nat)) (ys : List V) (y6 y7 y8 : Option V), σ = [some (.ref D), some (.ref p), some (vN c), some (.ref b), some (.ref pp), some (.ref f), y6, y7, y8] ∧ Stp [D, L] F H F' H' ∧ Same F3 F' ∧ Deal F' H' D L ∧ Mu F' H' f (.lst ys) ∧ DpAll K F' ys (es.map lN) ∧ es.length = n ∧ ∀ j, j < i → ∃ r, es[π.getD j 0]? = some r ∧ r.length = c ∧ ∀ t ∈ r, t < n) (fun i σ H' h => ?_) ⟨F3, List.replicate n [], acc, _, _, _, rfl, s3, Same.refl _, d3, mf, hp3, List.length_replicate .., fun j h => absurd h (Nat.not_lt_zero j)⟩ (fun i x σ H4 hi hx hp => ?_) fun σ H4 hp => ?_
    · obtain ⟨F', _, _, _, _, _, _, st, e, _⟩ := h
      exact e.trans st.fh
    · have hx' : x = vN i := by rw [hx, Int.zero_add] <;> rfl
      subst hx'
      obtain ⟨F4, es, ys, y6, y7, y8, rfl, s4, e4, d4, m4, al4, hel, hgood⟩ := hp
      obtain ⟨ro, hro, hrl, hrt⟩ := W.get hi
      have hpp4 := same_l ((st3.ff.trans e4)) hpp
      refine ⟨.ref b, rfl, vN i, rfl, ixB_dl hs (s4.ff.trans s4.fh) (by rw [List.getElem?_map, hro] <;> rfl) fun u hu => ?_⟩
      obtain ⟨ub, rfl, hub⟩ := (hu.up s4.ff).lN_inv
      refine ⟨ub, rfl, ⟨_, same_l s4.fh hub⟩, ?_⟩
      have hrl2 : (ro.map vN).length = c := by rw [List.length_map, hrl]
      refine lc_do (S := []) (src_l hub) s4.fh (fun a h => by cases h) (by rw [hrl2, sizeLine_eq]; omega) (fun j acc _ _ => ∃ col : List Nat, acc = col.map vN ∧ col.length = j ∧ ∀ t ∈ col, t < n) (by refine ⟨[], rfl, rfl, fun t h => ?_⟩; cases h) (fun j y acc F5 H5 hj hy st5 hp5 Y N hY hN => ?_) fun D2 acc F5 H5 st5 hD mu hl5 hp5 => ?_
      · obtain ⟨col, rfl, hcl, hct⟩ := hp5
        obtain ⟨t, ht, rfl⟩ := vN_at hy
        have htn := hrt t (List.mem_of_getElem? ht)
        have hpt : π[t]? = some (π.getD t 0) := getD_some (by rw [hπl]; exact htn)
        refine ⟨rfl, lc_yes ⟨.ref pp, rfl, vN t, rfl, ixB_l (same_l (st5.ff.trans st5.fh) hpp4) (by rw [List.getElem?_map, hpt] <;> rfl) (hY _ F5 H5 (Stp.refl st5.fh) ⟨col ++ [π.getD t 0], by rw [List.map_append] <;> rfl, by rw [List.length_append, hcl] <;> rfl, fun z hz => (List.mem_append.mp hz).elim (hct z) fun q => by rw [List.mem_singleton.mp q]; exact hπt _ (List.mem_of_getElem? hpt)⟩)⟩⟩
      · obtain ⟨col, rfl, hcl, hct⟩ := hp5
        rw [hrl2] at hcl
        have m5 := st5.mu0 m4
        have hne : f ≠ D2 := m4.ne hD
        obtain ⟨t6, e6, g6, k6⟩ := deal_frz (K := K) hd (s4.trans st5.up) (s4.none_ hD) mu (all_nats col) (d4.step0 st5)
        have m6 := m5.frzO (p := D2) (u := .lst (col.map vN)) hne
        have al6 := (al4.up st5.ff).up e6
        generalize upd F5 D2 (.lst (col.map vN)) = F6 at t6 e6 g6 k6 m6 al6
        have hpi : π[i]? = some (π.getD i 0) := getD_some (by rw [hπl]; exact hi)
        have hpin := hπt _ (List.mem_of_getElem? hpi)
        have hpp6 := same_l (st5.ff.trans e6) hpp4
        have hyl : ys.length = n := by rw [al4.len, List.length_map, hel]
        refine ⟨.ref f, rfl, .ref pp, rfl, vN i, rfl, ixB_l (same_l t6.fh hpp6) (by rw [List.getElem?_map, hpi] <;> rfl) ⟨f, ys, _, _, rfl, rfl, m6.at_, ixN_nat (by rw [hyl]; exact hpin), ?_⟩⟩
        have o := hd.off hfH
        refine ⟨F6, es.set (π.getD i 0) col, ys.set (π.getD i 0) (.ref D2), _, _, _, rfl, t6.write (.inl hfH) m6, (e4.trans st5.ff).trans e6, k6.upd o.1 o.2, m6.wrote, ?_, by rw [List.length_set, hel], fun j hj => ?_⟩
        · rw [List.map_set]
          exact al6.set _ g6
        · by_cases hjk : π.getD j 0 = π.getD i 0
          · rw [hjk]
            exact ⟨col, List.getElem?_set_self (by rw [hel]; exact hpin), hcl, hct⟩
          · have hji : j ≠ i := fun e => hjk (by rw [e])
            rw [List.getElem?_set_ne (Ne.symm hjk)]
            exact hgood j (by omega)
    · obtain ⟨F4, es, ys, y6, y7, y8, rfl, s4, e4, d4, m4, al4, hel, hgood⟩ := hp
      obtain ⟨t6, e6, g6, k6⟩ := deal_frz hd s4 hfH m4 al4 d4
      refine ⟨vN c, rfl, .ref f, rfl, two_le, fun p9 hp9 => ?_⟩
      have n9 := Stp.new (S := []) (o := .tup [vN c, .ref f]) t6.fh hp9
      have good : ∀ r ∈ es, r.length = c ∧ ∀ t ∈ r, t < n := fun r hr => by
        obtain ⟨k, hk, ek⟩ := List.mem_iff_getElem.mp hr
        rw [hel] at hk
        obtain ⟨j, hj, ej⟩ := List.mem_iff_getElem.mp (hπs k hk)
        rw [hπl] at hj
        obtain ⟨r', h1, h2⟩ := hgood j hj
        have e2 : π.getD j 0 = k := by rw [List.getD_eq_getElem?_getD, List.getElem?_eq_getElem (by rw [hπl]; exact hj), ej] <;> rfl
        rw [e2, List.getElem?_eq_getElem (by rw [hel]; exact hk), ek] at h1
        rw [Option.some.inj h1]
        exact h2
      refine q _ _ _ (t6.trans n9.up) ⟨⟨p9, .ref f, c, n, es, rfl, .inl (.inl upd_same), L2.Dp.up g6 n9.ff, ⟨hel, fun r h => (good r h).1, fun r h => (good r h).2, W.n1, W.n6, W.c1, W.c3⟩⟩, k6.step0 n9⟩

end
end K11


set_option Elab.async false
set_option linter.all false
set_option maxRecDepth 100000
set_option maxHeartbeats 4000000
/-! _law_pairs. -/
namespace K11
open PySem PySem.Spec PyProof.Rows L2
theorem nodup_get {α : Type} {l : List α} (h : l.Nodup) {i j : Nat} {a : α} (hi : l[i]? = some a) (hj : l[j]? = some a) : i = j := by
  obtain ⟨h1, e1⟩ := List.getElem?_eq_some_iff.mp hi
  obtain ⟨h2, e2⟩ := List.getElem?_eq_some_iff.mp hj
  have z := List.pairwise_iff_getElem.mp h
  rcases Nat.lt_trichotomy i j with q | q | q
  · exact absurd (e1.trans e2.symm) (z i j h1 h2 q)
  · exact q
  · exact absurd (e2.trans e1.symm) (z j i h2 h1 q)
/-- lists of numbers that may grow -/
structure Inn (F H : Hp) (ps : List Addr) (rows : List (List Nat)) : Prop where
  len : ps.length = rows.length
  nd : ps.Nodup
  at_ : ∀ (i : Nat) (p : Addr) (r : List Nat), ps[i]? = some p → rows[i]? = some r → Mu F H p (.lst (r.map vN))
section
variable {K : PySem.W.Frag} {S : List Addr} {F H F1 H1 : Hp} {ps : List Addr} {rows : List (List Nat)} {D L : Addr}
theorem Inn.step (m : Inn F H ps rows) (s : Stp S F H F1 H1) (h : ∀ p ∈ ps, p ∉ S) : Inn F1 H1 ps rows := ⟨m.len, m.nd, fun i p r hp hr => s.mu (m.at_ i p r hp hr) (h p (List.mem_of_getElem? hp))⟩
theorem Inn.write (m : Inn F H ps rows) {k : Nat} {p : Addr} {r2 : List Nat} (hp : ps[k]? = some p) : Inn F (upd H p (.lst (r2.map vN))) ps (rows.set k r2) := by
  refine ⟨by rw [List.length_set]; exact m.len, m.nd, fun i q r hq hr => ?_⟩
  have hk := (List.getElem?_eq_some_iff.mp hp).1
  by_cases hik : i = k
  · subst hik
    rw [hp] at hq
    cases hq
    have hk2 : i < rows.length := by rw [← m.len]; exact hk
    rw [List.getElem?_set_self hk2] at hr
    cases hr
    exact (m.at_ i p _ hp (List.getElem?_eq_getElem hk2)).wrote
  · rw [List.getElem?_set_ne (Ne.symm hik)] at hr
    refine (m.at_ i q r hq hr).off fun e => hik ?_
    rw [← e] at hp
    exact nodup_get m.nd hq hp
theorem Inn.frzAll (K : PySem.W.Frag) : ∀ {ps : List Addr} {rows : List (List Nat)} {F1 : Hp}, Stp S F H F1 H1 → (∀ p ∈ ps, H p = none) → Inn F1 H1 ps rows → ∃ F2, Stp S F H F2 H1 ∧ Same F1 F2 ∧ DpAll K F2 (ps.map .ref) (rows.map lN) ∧ ∀ a, a ∉ ps → F2 a = F1 a
  | [], [], F1, s, _, _ => ⟨F1, s, Same.refl _, .nil, fun _ _ => rfl⟩
  | [], _ :: _, _, _, _, m => by have z := m.len; cases z
  | _ :: _, [], _, _, _, m => by have z := m.len; cases z
  | p :: ps, r :: rows, F1, s, h0, m => by
    have hp := m.at_ 0 p r rfl rfl
    obtain ⟨s1, d1⟩ := dp_frz (K := K) s (h0 p List.mem_cons_self) hp
    have nd := List.nodup_cons.mp m.nd
    have e1 : Same F1 (upd F1 p (.lst (r.map vN))) := fun x u z => by
      rw [upd_ne (ne_of_none z hp.fr)]
      exact z
    have m1 : Inn (upd F1 p (.lst (r.map vN))) H1 ps rows := ⟨Nat.succ.inj m.len, nd.2, fun i q r2 hq hr => (m.at_ (i + 1) q r2 hq hr).frzO fun e => nd.1 (by rw [← e]; exact List.mem_of_getElem? hq)⟩
    obtain ⟨F2, s2, e2, g2, k2⟩ := Inn.frzAll K s1 (fun q hq => h0 q (List.mem_cons_of_mem _ hq)) m1
    refine ⟨F2, s2, e1.trans e2, .cons (d1.up e2) g2, fun a ha => ?_⟩
    rw [k2 a fun z => ha (List.mem_cons_of_mem _ z), upd_ne fun e => ha (by rw [e]; exact List.mem_cons_self)]
theorem Deal.fr2 (h : Deal F H D L) (h1 : F1 D = F D) (h2 : F1 L = F L) : Deal F1 H D L := by
  obtain ⟨ns, b, h⟩ := h
  exact ⟨ns, b, ⟨h.d.at_, h1.trans h.d.fr⟩, ⟨h.l.at_, h2.trans h.l.fr⟩, h.few, h.pos, h.b0, h.b1⟩
/-- what was frozen on the way is not -/
theorem Stp.thaw (s : Stp S F H F1 H1) (e : Same F H) : Stp S F H F H1 := ⟨Same.refl F, s.ff.trans s.fh, s.hh, fun _ _ _ n => n, s.th⟩
end
def spPairs (K : PySem.W.Frag) : Sp := fun vs H Q _ => ∃ (F : Hp) (D L : Addr), vs = [.ref D] ∧ Same F H ∧ Deal F H D L ∧ Back [D, L] F H Q fun r F' H' => MD K F' r ∧ Deal F' H' D L
theorem ix_mod {K : PySem.W.Frag} {F H : Hp} {x : V} {a b j : Nat} {Y : VK} (h : Dp K F x (lN [a, b])) (e : Same F H) (h1 : Y (vN a) H) (h2 : Y (vN b) H) : rIxB K x (.int ((j : Int) % 2)) H Y := by
  rw [show ((j : Int) % 2) = ((j % 2 : Nat) : Int) by omega]
  rcases Nat.mod_two_eq_zero_or_one j with q | q
  · rw [q]
    exact ixB_dl h e rfl fun z hz => by rw [hz.int_inv]; exact h1
  · rw [q]
    exact ixB_dl h e rfl fun z hz => by rw [hz.int_inv]; exact h2
theorem ix_div {K : PySem.W.Frag} {F H : Hp} {x : V} {a b j : Nat} {Y : VK} (h : Dp K F x (lN [a, b])) (e : Same F H) (hj : j < 4) (h1 : Y (vN a) H) (h2 : Y (vN b) H) : rIxB K x (.int ((j : Int) / 2)) H Y := by
  rw [show ((j : Int) / 2) = ((j / 2 : Nat) : Int) by omega]
  rcases (show j / 2 = 0 ∨ j / 2 = 1 by omega) with q | q
  · rw [q]
    exact ixB_dl h e rfl fun z hz => by rw [hz.int_inv]; exact h1
  · rw [q]
    exact ixB_dl h e rfl fun z hz => by rw [hz.int_inv]; exact h2
theorem two_rows : ∀ row ∈ ([[0, 1], [1, 0], [0, 0], [1, 1], [0, 0], [1, 1]] : List (List Nat)), ∃ a b, row = [a, b] ∧ a < 2 ∧ b < 2 := fun row h => by
  simp only [List.mem_cons, List.not_mem_nil, or_false] at h
  rcases h with h | h | h | h | h | h <;> exact ⟨_, _, h, by decide, by decide⟩
theorem two_rows2 : ∀ row ∈ ([[0, 1], [0, 1], [1, 0], [0, 0], [1, 1], [1, 1]] : List (List Nat)), ∃ a b, row = [a, b] ∧ a < 2 ∧ b < 2 := fun row h => by
  simp only [List.mem_cons, List.not_mem_nil, or_false] at h
  rcases h with h | h | h | h | h | h <;> exact ⟨_, _, h, by decide, by decide⟩
section
variable {P : Program} {w : World} {K : PySem.W.Frag} {mg : Str → Option Value} {base : Heap}
theorem sc_law_pairs : FnScope ["_law_deal", "_law_form", "_law_commands", "_law_top", "_law_steps", "_law_state", "_law_command", "_law_down", "_law_one", "_law_other", "_law_first"] ["_law_deal"] (defScope s_law_pairs) := ⟨rfl, rfl, rfl, by decide +kernel, rfl, by decide +kernel, by decide +kernel⟩
theorem bn_law_pairs : BindN d_law_pairs ["_law_deal"] := fun _ _ _ _ _ _ us hl => match us, hl with | [_], _ => rfl
theorem ok_law_pairs (T : Top P w K mg base) : Cal P w K mg base d_law_pairs "_law_pairs" 3 ["_law_deal"] (spPairs K) := by
  refine T.cal 44 41 rfl rfl rfl rfl rfl sc_law_pairs bn_law_pairs (fun vs H Q E h => ?_) fun f cdv A outer s H vs Q E hr h => ?_
  · obtain ⟨_, _, _, rfl, _⟩ := h
    rfl
  have nd := (sc_law_pairs).nd
  refine ⟨_, (pss_cons (ps_par (i := 1) (j := 2) rfl nd rfl rfl (by decide) rfl rfl (pa_cons (pe_cal (ok_law_any T) hr (by decide) (by rfl) (pa_cons (pv 0) (pa_cons pe_int pa_nil))) (pa_cons (pe_op op_add pe_int (pe_cal (ok_law_any T) hr (by decide) (by rfl) (pa_cons (pv 0) (pa_cons pe_int pa_nil)))) pa_nil)) (by rfl))
    (pss_cons (ps_set (i := 3) nd rfl (.inl rfl) (pe_ifExp (pw_or (pt_cmpR op_eq (pv 1) pe_int (nomark _)) (pw_or1 (pt_cmpR op_eq (pv 2) pe_int (nomark _)))).pt pe_int (pe_op op_add pe_int (pe_cal (ok_law_any T) hr (by decide) (by rfl) (pa_cons (pv 0) (pa_cons pe_int pa_nil))))))
    (pss_cons (ps_setLc (i := 4) (by rfl) nd rfl rfl (sw_true rfl rfl rfl (by decide +kernel)) (own := [("_law_state", 5)]) (g := (gName 5)) (tt := tYes) (te := (tLst tNil)) (pi_range1 (by rfl) T.n_range (pa_cons (pe_op op_mul pe_int (pv 3)) pa_nil)) (blkOk_by (by kernel_rfl)) (fun _ _ _ _ _ => (pg_name (i := 5) nd rfl (.inl rfl))) (fun _ _ _ _ _ => pts_nil) (fun _ _ _ _ _ => (pe_lst pa_nil)))
    (pss_cons (ps_for (passes_of rfl) rfl (pi_range1 (by rfl) T.n_range (pa_cons (pv 2) pa_nil)) (pg_name (i := 6) nd rfl (.inl rfl))
      (pss_cons (ps_par (i := 7) (j := 8) rfl nd rfl rfl (by decide) rfl rfl (pa_cons (pe_cal (ok_law_any T) hr (by decide) (by rfl) (pa_cons (pv 0) (pa_cons pe_int pa_nil))) (pa_cons (pe_cal (ok_law_of T) hr (by decide) (by rfl) (pa_cons (pv 0) (pa_cons (pe_lst (pa_cons (pe_lst (pa_cons pe_int (pa_cons pe_int pa_nil))) (pa_cons (pe_lst (pa_cons pe_int (pa_cons pe_int pa_nil))) (pa_cons (pe_lst (pa_cons pe_int (pa_cons pe_int pa_nil))) (pa_cons (pe_lst (pa_cons pe_int (pa_cons pe_int pa_nil))) (pa_cons (pe_lst (pa_cons pe_int (pa_cons pe_int pa_nil))) (pa_cons (pe_lst (pa_cons pe_int (pa_cons pe_int pa_nil))) pa_nil))))))) pa_nil))) pa_nil)) (by rfl))
    (pss_cons (ps_set (i := 9) nd rfl (.inl rfl) (pe_cal (ok_law_of T) hr (by decide) (by rfl) (pa_cons (pv 0) (pa_cons (pe_lst (pa_cons (pe_lst (pa_cons pe_int (pa_cons pe_int pa_nil))) (pa_cons (pe_lst (pa_cons pe_int (pa_cons pe_int pa_nil))) (pa_cons (pe_lst (pa_cons pe_int (pa_cons pe_int pa_nil))) (pa_cons (pe_lst (pa_cons pe_int (pa_cons pe_int pa_nil))) (pa_cons (pe_lst (pa_cons pe_int (pa_cons pe_int pa_nil))) (pa_cons (pe_lst (pa_cons pe_int (pa_cons pe_int pa_nil))) pa_nil))))))) pa_nil))))
    (pss_one (ps_for (passes_of rfl) rfl (pi_range1 (by rfl) T.n_range (pa_cons (pe_op op_mul pe_int (pv 3)) pa_nil)) (pg_name (i := 5) nd rfl (.inl rfl))
      (pss_cons (ps_set (i := 10) nd rfl (.inl rfl) (pe_ifExp (pt_cmpR op_eq (pv 1) pe_int (nomark _)) (pe_ix ix_both (pv 9) (pe_op op_fdiv (pv 5) pe_int) (fun _ _ => rfl)) (pe_callB (cl_max rfl) (by rfl) T.n_max bt_max (pa_cons pe_int (pa_cons (pe_op op_sub (pe_op op_fdiv (pv 5) pe_int) (pv 7)) pa_nil)))))
    (pss_one (ps_expr (pe_bm PySem.F.plainAttrs_list PySem.F.slot_list_append PySem.F.type_list_append mt_append (pe_ix ix_both (pv 4) (pv 5) (fun _ _ => rfl)) (pa_cons (pe_op op_add (pe_op op_mul pe_int (pv 10)) (pe_ix ix_both (pv 8) (pe_op op_mod (pe_callTy cl_int (by rfl) T.n_int bt_int (pa_cons (pv 5) pa_nil)) pe_int) (fun _ _ => rfl))) pa_nil))))))))))
    (pss_one (ps_ret (pe_tup (pa_cons (pv 2) (pa_cons (pv 4) pa_nil))))))))), ?_⟩
  obtain ⟨F, D, L, rfl, hF, hd, q⟩ := h
  refine ⟨.ref D, rfl, F, D, L, 2, rfl, hF, hd, by decide, by decide, fun r F1 H1 st1 hr => ?_⟩
  obtain ⟨⟨fm, rfl, hfm⟩, d1⟩ := hr
  refine ⟨.ref D, rfl, F1, D, L, 2, rfl, st1.fh, d1, by decide, by decide, fun r F2 H2 st2 hr => ?_⟩
  obtain ⟨⟨cv, rfl, hcv⟩, d2⟩ := hr
  have s2 := st1.trans st2
  refine ⟨_, _, rfl, rfl, _, _, rfl, ?_⟩
  have key : ∀ k : VK, (∀ (top : Nat) (F3 H3 : Hp), Stp [D, L] F H F3 H3 → Deal F3 H3 D L → 2 ≤ top → top ≤ 3 → (fm = 0 → top = 2) → k (vN top) H3) →
      tIf (tOr (tTest (tOp rEq (tVar 1) (tC (.int 0)))) (tTest (tOp rEq (tVar 2) (tC (.int 3))))) (tC (.int 2)) (tOp rAdd_ (tC (.int 2)) (tCall (spAny K) [] C8.E0 (tCons (tVar 0) (tCons (tC (.int 2)) tNil)))) [some (.ref D), some (vN fm), some (vN (2 + cv)), none, none, none, none, none, none, none, none] H2 k := fun k rest => by
    refine ⟨vN fm, rfl, rfl, _, rfl, ?_⟩
    rw [int_dec]
    by_cases h0 : (fm : Int) = 0
    · rw [decide_eq_true h0]
      exact iteT (iteT (rest 2 F2 H2 s2 d2 (by decide) (by decide) fun _ => rfl))
    · rw [decide_eq_false h0]
      refine iteF ⟨vN (2 + cv), rfl, rfl, _, rfl, ?_⟩
      cases decide (vN (2 + cv) = V.int 3) with
      | true => exact iteT (rest 2 F2 H2 s2 d2 (by decide) (by decide) fun _ => rfl)
      | false =>
        refine iteF ⟨.ref D, rfl, F2, D, L, 2, rfl, s2.fh, d2, by decide, by decide, fun r F3 H3 st3 hr => ?_⟩
        obtain ⟨⟨tv, rfl, htv⟩, d3⟩ := hr
        exact ⟨_, _, rfl, rfl, rest (2 + tv) F3 H3 (s2.trans st3) d3 (by omega) (by omega) fun e => absurd (by omega) h0⟩
  show tIf (tOr (tTest (tOp rEq (tVar 1) (tC (.int 0)))) (tTest (tOp rEq (tVar 2) (tC (.int 3))))) (tC (.int 2)) (tOp rAdd_ (tC (.int 2)) (tCall (spAny K) [] C8.E0 (tCons (tVar 0) (tCons (tC (.int 2)) tNil)))) [some (.ref D), some (vN fm), some (vN (2 + cv)), none, none, none, none, none, none, none, none] H2 _
  refine key _ fun top F3 H3 s3 d3 ht2 ht3 ht0 => ?_
  refine ⟨vN top, rfl, _, _, rfl, rfl, .inl ⟨by decide, by decide⟩, 2 * (top : Int), rfl, by omega, by omega, ?_⟩
  rw [show (2 * (top : Int)).toNat = 2 * top by omega]
  refine lc_do (S := []) (src_r (F := F3)) s3.fh (fun a h => by cases h) (by rw [sizeLine_eq]; omega) (fun i acc F' _ => ∃ ps : List Addr, acc = ps.map .ref ∧ ps.length = i ∧ ps.Nodup ∧ ∀ p ∈ ps, F' p = some (.lst []) ∧ H3 p = none) (by refine ⟨[], rfl, rfl, List.nodup_nil, fun t h => ?_⟩; cases h) (fun i y acc F4 H4 hi hy st4 hp Y N hY hN => ?_) fun f acc F4 H4 st4 hf mf hl hp => ?_
  · obtain ⟨ps, rfl, hpl, hpn, hpp⟩ := hp
    refine ⟨rfl, lc_yes ⟨Nat.zero_le _, fun p hp => hY _ _ _ (Stp.new (o := .lst []) st4.fh hp) ⟨ps ++ [p], by rw [List.map_append] <;> rfl, by rw [List.length_append, hpl] <;> rfl, ?_, fun z hz => ?_⟩⟩⟩
    · rw [List.nodup_append]
      refine ⟨hpn, List.pairwise_singleton _ _, fun a ha b hb e => ?_⟩
      rw [List.mem_singleton.mp hb] at e
      have z := st4.fh _ _ (hpp a ha).1
      rw [e, hp] at z
      cases z
    · rcases List.mem_append.mp hz with h | h
      · obtain ⟨z1, z2⟩ := hpp z h
        exact ⟨(Stp.new (S := []) (o := .lst []) st4.fh hp).ff _ _ z1, z2⟩
      · rw [List.mem_singleton.mp h]
        exact ⟨upd_same, st4.none_ hp⟩
  · obtain ⟨ps, rfl, hpl, hpn, hpp⟩ := hp
    have st5 := st4.thaw s3.fh
    have s5 := s3.trans st5.up
    have d5 := d3.step0 st5
    have hfH : H f = none := s3.none_ hf
    have hpH : ∀ p ∈ ps, H p = none := fun p hp => s3.none_ (hpp p hp).2
    have inn5 : Inn F3 H4 ps (List.replicate (2 * top) []) := ⟨by rw [hpl, List.length_replicate], hpn, fun i p r hp hr => by
      have z := List.mem_of_getElem? hr
      rw [List.eq_of_mem_replicate z]
      obtain ⟨z1, z2⟩ := hpp p (List.mem_of_getElem? hp)
      exact ⟨st4.fh _ _ z1, fr_none s3.fh z2⟩⟩
    have mf5 : Mu F3 H4 f (.lst (ps.map .ref)) := ⟨mf.at_, fr_none s3.fh hf⟩
    have hpf : ∀ p ∈ ps, p ≠ f := fun p hp e => by
      have z := (hpp p hp).1
      rw [e, mf.fr] at z
      cases z
    have s6 := s5.freeze hfH mf5
    have o := hd.off hfH
    have d6 := d5.frz (u := .lst (ps.map .ref)) o.1 o.2
    have inn6 : Inn (upd F3 f (.lst (ps.map .ref))) H4 ps (List.replicate (2 * top) []) := ⟨inn5.len, inn5.nd, fun i p r hp hr => (inn5.at_ i p r hp hr).frzO (hpf p (List.mem_of_getElem? hp))⟩
    have hfs : SqL K (upd F3 f (.lst (ps.map .ref))) f (ps.map .ref) := .inl (.inl upd_same)
    generalize upd F3 f (.lst (ps.map .ref)) = F6 at s6 d6 inn6 hfs
    clear inn5 mf5 d5 s5 st5 st4 mf hpp d3 s3 d2 s2 d1 st1 st2 key
    have hpS : ∀ p ∈ ps, p ∉ [D, L] := fun p hp => notin_of hd.there (hpH p hp)
    refine ⟨vN (2 + cv), rfl, ((2 + cv : Nat) : Int), rfl, by omega, by omega, ?_⟩
    rw [Int.toNat_natCast]
    refine for_do (src_r (F := F6)) (fun i σ H' => ∃ (F' : Hp) (rows : List (List Nat)) (y5 y6 y7 y8 y9 y10 : Option V), σ = [some (.ref D), some (vN fm), some (vN (2 + cv)), some (vN top), some (.ref f), y5, y6, y7, y8, y9, y10] ∧ Stp [D, L] F H F' H' ∧ Same F6 F' ∧ Deal F' H' D L ∧ Inn F' H' ps rows ∧ ∀ r ∈ rows, r.length = i ∧ ∀ t ∈ r, t < 2 * top) (fun i σ H' h => ?_) ⟨F6, _, _, _, _, _, _, _, rfl, s6, Same.refl _, d6, inn6, fun r hr => ?_⟩ (fun i x σ H7 hi hx hp => ?_) fun σ H7 hp => ?_
    · obtain ⟨F', _, _, _, _, _, _, _, _, st, e, _⟩ := h
      exact e.trans st.fh
    · rw [List.eq_of_mem_replicate hr]
      exact ⟨rfl, fun t h => by cases h⟩
    · obtain ⟨F7, rows, y5, y6, y7, y8, y9, y10, rfl, s7, e7, d7, inn7, hrows⟩ := hp
      refine ⟨.ref D, rfl, F7, D, L, 3, rfl, s7.fh, d7, by decide, by decide, fun r F8 H8 st8 hr => ?_⟩
      obtain ⟨⟨down, rfl, hdown⟩, d8⟩ := hr
      refine ⟨.ref D, rfl, ?_⟩
      refine ⟨two_le, fun ap0 ahp0 => ?_⟩
      obtain ⟨at0, ae0, ag0, ak0⟩ := new_row (K := K) st8 ahp0 [0, 1]
      refine ⟨two_le, fun ap1 ahp1 => ?_⟩
      obtain ⟨at1, ae1, ag1, ak1⟩ := new_row (K := K) at0 ahp1 [1, 0]
      refine ⟨two_le, fun ap2 ahp2 => ?_⟩
      obtain ⟨at2, ae2, ag2, ak2⟩ := new_row (K := K) at1 ahp2 [0, 0]
      refine ⟨two_le, fun ap3 ahp3 => ?_⟩
      obtain ⟨at3, ae3, ag3, ak3⟩ := new_row (K := K) at2 ahp3 [1, 1]
      refine ⟨two_le, fun ap4 ahp4 => ?_⟩
      obtain ⟨at4, ae4, ag4, ak4⟩ := new_row (K := K) at3 ahp4 [0, 0]
      refine ⟨two_le, fun ap5 ahp5 => ?_⟩
      obtain ⟨at5, ae5, ag5, ak5⟩ := new_row (K := K) at4 ahp5 [1, 1]
      refine ⟨(show 6 ≤ sizeLine by decide), fun aq ahq => ?_⟩
      have an := Stp.new (S := []) (o := .lst [.ref ap0, .ref ap1, .ref ap2, .ref ap3, .ref ap4, .ref ap5]) at5.fh ahq
      have ad := (ak5 (ak4 (ak3 (ak2 (ak1 (ak0 d8)))))).step0 an
      have aal : DpAll K _ [.ref ap0, .ref ap1, .ref ap2, .ref ap3, .ref ap4, .ref ap5] (([[0, 1], [1, 0], [0, 0], [1, 1], [0, 0], [1, 1]] : List (List Nat)).map lN) := (.cons (((((ag0.up ae1).up ae2).up ae3).up ae4).up ae5) (.cons ((((ag1.up ae2).up ae3).up ae4).up ae5) (.cons (((ag2.up ae3).up ae4).up ae5) (.cons ((ag3.up ae4).up ae5) (.cons (ag4.up ae5) (.cons ag5 .nil))))))
      have aee := (((((ae0.trans ae1).trans ae2).trans ae3).trans ae4).trans ae5).trans an.ff
      have aS := at5.trans (Stp.up (S := [D, L]) an)
      refine ⟨_, D, L, aq, [.ref ap0, .ref ap1, .ref ap2, .ref ap3, .ref ap4, .ref ap5], rfl, aS.fh, ad, .inl (.inl upd_same), (show 1 ≤ 6 by decide), (show 6 ≤ 1000 by decide), fun r F9 H9 st9 hr => ⟨_, _, rfl, ?_⟩⟩
      obtain ⟨hr, d9⟩ := hr
      have hone : ∃ a b, Dp K F9 r (lN [a, b]) ∧ a < 2 ∧ b < 2 := by
        obtain ⟨z, hz, hzd⟩ := aal.mem hr
        obtain ⟨row, hrow, rfl⟩ := List.mem_map.mp hz
        obtain ⟨a, b, e, ha, hb⟩ := two_rows row hrow
        rw [e] at hzd
        exact ⟨a, b, (hzd.up an.ff).up st9.ff, ha, hb⟩
      have s9 := aS.trans st9
      have e9 : Same F8 F9 := aee.trans st9.ff
      generalize r = one at hone
      clear aal aee ad aS an
      clear at0 at1 at2 at3 at4 at5
      refine ⟨.ref D, rfl, ?_⟩
      refine ⟨two_le, fun bp0 bhp0 => ?_⟩
      obtain ⟨bt0, be0, bg0, bk0⟩ := new_row (K := K) s9 bhp0 [0, 1]
      refine ⟨two_le, fun bp1 bhp1 => ?_⟩
      obtain ⟨bt1, be1, bg1, bk1⟩ := new_row (K := K) bt0 bhp1 [0, 1]
      refine ⟨two_le, fun bp2 bhp2 => ?_⟩
      obtain ⟨bt2, be2, bg2, bk2⟩ := new_row (K := K) bt1 bhp2 [1, 0]
      refine ⟨two_le, fun bp3 bhp3 => ?_⟩
      obtain ⟨bt3, be3, bg3, bk3⟩ := new_row (K := K) bt2 bhp3 [0, 0]
      refine ⟨two_le, fun bp4 bhp4 => ?_⟩
      obtain ⟨bt4, be4, bg4, bk4⟩ := new_row (K := K) bt3 bhp4 [1, 1]
      refine ⟨two_le, fun bp5 bhp5 => ?_⟩
      obtain ⟨bt5, be5, bg5, bk5⟩ := new_row (K := K) bt4 bhp5 [1, 1]
      refine ⟨(show 6 ≤ sizeLine by decide), fun bq bhq => ?_⟩
      have bn := Stp.new (S := []) (o := .lst [.ref bp0, .ref bp1, .ref bp2, .ref bp3, .ref bp4, .ref bp5]) bt5.fh bhq
      have bd := (bk5 (bk4 (bk3 (bk2 (bk1 (bk0 d9)))))).step0 bn
      have bal : DpAll K _ [.ref bp0, .ref bp1, .ref bp2, .ref bp3, .ref bp4, .ref bp5] (([[0, 1], [0, 1], [1, 0], [0, 0], [1, 1], [1, 1]] : List (List Nat)).map lN) := (.cons (((((bg0.up be1).up be2).up be3).up be4).up be5) (.cons ((((bg1.up be2).up be3).up be4).up be5) (.cons (((bg2.up be3).up be4).up be5) (.cons ((bg3.up be4).up be5) (.cons (bg4.up be5) (.cons bg5 .nil))))))
      have bee := (((((be0.trans be1).trans be2).trans be3).trans be4).trans be5).trans bn.ff
      have bS := bt5.trans (Stp.up (S := [D, L]) bn)
      refine ⟨_, D, L, bq, [.ref bp0, .ref bp1, .ref bp2, .ref bp3, .ref bp4, .ref bp5], rfl, bS.fh, bd, .inl (.inl upd_same), (show 1 ≤ 6 by decide), (show 6 ≤ 1000 by decide), fun r F10 H10 st10 hr => ?_⟩
      obtain ⟨hr, d10⟩ := hr
      have hoth : ∃ a b, Dp K F10 r (lN [a, b]) ∧ a < 2 ∧ b < 2 := by
        obtain ⟨z, hz, hzd⟩ := bal.mem hr
        obtain ⟨row, hrow, rfl⟩ := List.mem_map.mp hz
        obtain ⟨a, b, e, ha, hb⟩ := two_rows2 row hrow
        rw [e] at hzd
        exact ⟨a, b, (hzd.up bn.ff).up st10.ff, ha, hb⟩
      have s10 := bS.trans st10
      have e10 : Same F9 F10 := bee.trans st10.ff
      obtain ⟨o1, o2, done, ho1, ho2⟩ := hone
      replace done := done.up e10
      have inn10 := inn7.step s10 hpS
      have e710 := e7.trans s10.ff
      replace s10 := s7.trans s10
      have hfs10 := same_l e710 hfs
      clear bal bee bd bS bn bt0 bt1 bt2 bt3 bt4 bt5 e9 e10 s9 inn7 s7 d7 st8 d8 st9 st10 hr d9 e7
      obtain ⟨h1, h2, doth, hh1, hh2⟩ := hoth
      refine ⟨vN top, rfl, _, _, rfl, rfl, .inl ⟨by decide, by decide⟩, 2 * (top : Int), rfl, by omega, by omega, ?_⟩
      rw [show (2 * (top : Int)).toNat = 2 * top by omega]
      refine for_do (src_r (F := F10)) (fun j σ H' => ∃ (F' : Hp) (rows' : List (List Nat)) (y5 y10 : Option V), σ = [some (.ref D), some (vN fm), some (vN (2 + cv)), some (vN top), some (.ref f), y5, some x, some (vN down), some one, some r, y10] ∧ Stp [D, L] F H F' H' ∧ Same F10 F' ∧ Deal F' H' D L ∧ Inn F' H' ps rows' ∧ ∀ (idx : Nat) (row : List Nat), rows'[idx]? = some row → row.length = (if idx < j then i + 1 else i) ∧ ∀ t ∈ row, t < 2 * top) (fun j σ H' h => ?_) ⟨F10, rows, y5, y10, rfl, s10, Same.refl _, d10, inn10, fun idx row hr => ?_⟩ (fun j z σ H11 hj hz hp => ?_) fun σ H11 hp => ?_
      · obtain ⟨F', _, _, _, _, st, e, _⟩ := h
        exact e.trans st.fh
      · rw [if_neg (Nat.not_lt_zero idx)]
        exact hrows row (List.mem_of_getElem? hr)
      · have hz' : z = vN j := by rw [hz, Int.zero_add] <;> rfl
        subst hz'
        obtain ⟨F11, rows', y5', y10', rfl, s11, e11, d11, inn11, hro⟩ := hp
        have hjl : j < ps.length := by rw [hpl]; exact hj
        have hjr : j < rows'.length := by rw [← inn11.len]; exact hjl
        have epj : ps[j]? = some ps[j] := List.getElem?_eq_getElem hjl
        have erj : rows'[j]? = some rows'[j] := List.getElem?_eq_getElem hjr
        have hmj := inn11.at_ j _ _ epj erj
        have hpm := List.getElem_mem hjl
        obtain ⟨hrl, hrt⟩ := hro j _ erj
        rw [if_neg (Nat.lt_irrefl j)] at hrl
        generalize ps[j] = pj at epj hmj hpm
        generalize rows'[j] = rj at erj hmj hrl hrt
        have epr : (ps.map V.ref)[j]? = some (.ref pj) := by rw [List.getElem?_map, epj] <;> rfl
        have done11 := done.up e11
        have hfs11 := same_l e11 hfs10
        have fin : ∀ (x1 : Int) (o : Nat), 0 ≤ x1 → x1 < top → o < 2 → ∃ v : Nat, V.int (2 * x1 + (o : Int)) = vN v ∧ ∃ (F' : Hp) (rows2 : List (List Nat)) (u5 u10 : Option V), [some (.ref D), some (vN fm), some (vN (2 + cv)), some (vN top), some (.ref f), some (vN j), some x, some (vN down), some one, some r, some (.int x1)] = [some (.ref D), some (vN fm), some (vN (2 + cv)), some (vN top), some (.ref f), u5, some x, some (vN down), some one, some r, u10] ∧ Stp [D, L] F H F' (upd H11 pj (.lst (rj.map vN ++ [V.int (2 * x1 + (o : Int))]))) ∧ Same F10 F' ∧ Deal F' (upd H11 pj (.lst (rj.map vN ++ [V.int (2 * x1 + (o : Int))]))) D L ∧ Inn F' (upd H11 pj (.lst (rj.map vN ++ [V.int (2 * x1 + (o : Int))]))) ps rows2 ∧ ∀ (idx : Nat) (row : List Nat), rows2[idx]? = some row → row.length = (if idx < j + 1 then i + 1 else i) ∧ ∀ t ∈ row, t < 2 * top := fun x1 o hx0 hx1 ho => by
          obtain ⟨v, ev, hv⟩ := nat_of (x := 2 * x1 + (o : Int)) (n := 2 * top) (by omega) (by omega)
          refine ⟨v, ev, ?_⟩
          rw [ev]
          have inn12 := inn11.write (r2 := rj ++ [v]) epj
          have oo := hd.off (hpH pj hpm)
          rw [List.map_append] at inn12
          refine ⟨F11, _, _, _, rfl, s11.write (.inl (hpH pj hpm)) hmj, e11, d11.upd oo.1 oo.2, inn12, fun idx row hrow => ?_⟩
          by_cases hij : idx = j
          · subst hij
            rw [List.getElem?_set_self hjr] at hrow
            cases hrow
            rw [if_pos (Nat.lt_succ_self idx), List.length_append, hrl]
            refine ⟨rfl, fun t ht => ?_⟩
            rcases List.mem_append.mp ht with h | h
            · exact hrt t h
            · rw [List.mem_singleton.mp h]
              omega
          · rw [List.getElem?_set_ne (Ne.symm hij)] at hrow
            obtain ⟨g1, g2⟩ := hro idx row hrow
            refine ⟨?_, g2⟩
            rw [g1]
            by_cases hlt : idx < j
            · rw [if_pos hlt, if_pos (by omega)]
            · rw [if_neg hlt, if_neg (by omega)]
        refine ⟨vN fm, rfl, rfl, _, rfl, ?_⟩
        rw [int_dec]
        by_cases h0 : (fm : Int) = 0
        · rw [decide_eq_true h0]
          have htop : top = 2 := ht0 (by omega)
          refine iteT ⟨r, rfl, vN j, rfl, _, _, rfl, rfl, ⟨(show (0 : Int) < 2 by decide), (show (2 : Int) < 1073741824 by decide)⟩, ?_⟩
          refine ix_div (doth.up e11) s11.fh (show j < 4 by omega) ?_ ?_
          · refine ⟨.ref f, rfl, vN j, rfl, ixB_l (same_l s11.fh hfs11) epr ⟨.inl ⟨rfl, _, .inl (.inl hmj.at_)⟩, vN h1, rfl, _, _, rfl, rfl, .inl ⟨by decide, by decide⟩, one, rfl, vN j, rfl, .inl ⟨_, rfl, _, _, rfl, rfl, (show (0 : Int) < 2 by decide), ?_⟩⟩⟩
            refine ix_mod done11 s11.fh ?_ ?_
            · obtain ⟨v, ev, hinv⟩ := fin h1 o1 (by omega) (by omega) ho1
              exact ⟨_, _, rfl, rfl, pj, _, _, rfl, rfl, hmj.at_, by rw [List.length_map, sizeLine_eq]; omega, hinv⟩
            · obtain ⟨v, ev, hinv⟩ := fin h1 o2 (by omega) (by omega) ho2
              exact ⟨_, _, rfl, rfl, pj, _, _, rfl, rfl, hmj.at_, by rw [List.length_map, sizeLine_eq]; omega, hinv⟩
          · refine ⟨.ref f, rfl, vN j, rfl, ixB_l (same_l s11.fh hfs11) epr ⟨.inl ⟨rfl, _, .inl (.inl hmj.at_)⟩, vN h2, rfl, _, _, rfl, rfl, .inl ⟨by decide, by decide⟩, one, rfl, vN j, rfl, .inl ⟨_, rfl, _, _, rfl, rfl, (show (0 : Int) < 2 by decide), ?_⟩⟩⟩
            refine ix_mod done11 s11.fh ?_ ?_
            · obtain ⟨v, ev, hinv⟩ := fin h2 o1 (by omega) (by omega) ho1
              exact ⟨_, _, rfl, rfl, pj, _, _, rfl, rfl, hmj.at_, by rw [List.length_map, sizeLine_eq]; omega, hinv⟩
            · obtain ⟨v, ev, hinv⟩ := fin h2 o2 (by omega) (by omega) ho2
              exact ⟨_, _, rfl, rfl, pj, _, _, rfl, rfl, hmj.at_, by rw [List.length_map, sizeLine_eq]; omega, hinv⟩
        · rw [decide_eq_false h0]
          refine iteF ⟨vN j, rfl, _, _, rfl, rfl, ⟨(show (0 : Int) < 2 by decide), (show (2 : Int) < 1073741824 by decide)⟩, vN down, rfl, _, _, rfl, rfl, _, _, rfl, ?_⟩
          have hm0 : (0 : Int) ≤ (if ((j : Int) / 2 - (down : Int)) > 0 then ((j : Int) / 2 - (down : Int)) else 0) := by split <;> omega
          have hm1 : (if ((j : Int) / 2 - (down : Int)) > 0 then ((j : Int) / 2 - (down : Int)) else 0) < (top : Int) := by split <;> omega
          generalize (if ((j : Int) / 2 - (down : Int)) > 0 then ((j : Int) / 2 - (down : Int)) else 0) = mm at hm0 hm1 ⊢
          refine ⟨.ref f, rfl, vN j, rfl, ixB_l (same_l s11.fh hfs11) epr ⟨.inl ⟨rfl, _, .inl (.inl hmj.at_)⟩, .int mm, rfl, _, _, rfl, rfl, .inl ⟨by decide, by decide⟩, one, rfl, vN j, rfl, .inl ⟨_, rfl, _, _, rfl, rfl, (show (0 : Int) < 2 by decide), ?_⟩⟩⟩
          refine ix_mod done11 s11.fh ?_ ?_
          · obtain ⟨v, ev, hinv⟩ := fin mm o1 hm0 hm1 ho1
            exact ⟨_, _, rfl, rfl, pj, _, _, rfl, rfl, hmj.at_, by rw [List.length_map, sizeLine_eq]; omega, hinv⟩
          · obtain ⟨v, ev, hinv⟩ := fin mm o2 hm0 hm1 ho2
            exact ⟨_, _, rfl, rfl, pj, _, _, rfl, rfl, hmj.at_, by rw [List.length_map, sizeLine_eq]; omega, hinv⟩
      · obtain ⟨F11, rows', y5', y10', rfl, s11, e11, d11, inn11, hro⟩ := hp
        refine ⟨F11, rows', _, _, _, _, _, _, rfl, s11, e710.trans e11, d11, inn11, fun row hrow => ?_⟩
        obtain ⟨idx, hidx, eidx⟩ := List.mem_iff_getElem.mp hrow
        have z := hro idx row (by rw [← eidx]; exact List.getElem?_eq_getElem hidx)
        rw [if_pos (by rw [← inn11.len, hpl] at hidx; exact hidx)] at z
        exact z
    · obtain ⟨F7, rows, y5, y6, y7, y8, y9, y10, rfl, s7, e7, d7, inn7, hrows⟩ := hp
      have hD : D ∉ ps := fun z => hpS D z DealAt.inD
      have hL : L ∉ ps := fun z => hpS L z DealAt.inL
      obtain ⟨F8, s8, e8, g8, k8⟩ := inn7.frzAll K s7 hpH
      have d8 := d7.fr2 (k8 D hD) (k8 L hL)
      have hfs8 := same_l (e7.trans e8) hfs
      refine ⟨vN (2 + cv), rfl, .ref f, rfl, two_le, fun p9 hp9 => ?_⟩
      have n9 := Stp.new (S := []) (o := .tup [vN (2 + cv), .ref f]) s8.fh hp9
      have g9 : StD K F8 (.ref f) rows := .lst hfs8 g8
      refine q _ _ _ (s8.trans n9.up) ⟨⟨p9, .ref f, 2 + cv, 2 * top, rows, rfl, .inl (.inl upd_same), g9.up n9.ff, ⟨by rw [← inn7.len, hpl], fun r h => (hrows r h).1, fun r h => (hrows r h).2, by omega, by omega, by omega, by omega⟩⟩, d8.step0 n9⟩
end
end K11


set_option Elab.async false
set_option linter.all false
set_option maxRecDepth 100000
set_option maxHeartbeats 4000000
/-! _law_calm. -/
namespace K11
open PySem PySem.Spec PyProof.Rows L2
def spCalm (K : PySem.W.Frag) : Sp := fun vs H Q _ => ∃ (F : Hp) (D L : Addr), vs = [.ref D] ∧ Same F H ∧ Deal F H D L ∧ Back [D, L] F H Q fun r F' H' => MD K F' r ∧ Deal F' H' D L
theorem of112 {r : V} (h : r ∈ [V.int 1, .int 1, .int 2]) : ∃ c : Nat, r = vN c ∧ 1 ≤ c ∧ c ≤ 2 := by
  simp only [List.mem_cons, List.not_mem_nil, or_false] at h
  rcases h with h | h | h
  · exact ⟨1, h, by decide, by decide⟩
  · exact ⟨1, h, by decide, by decide⟩
  · exact ⟨2, h, by decide, by decide⟩
theorem perm_map {α β : Type} {f : α → β} {cs : List α} {es : List β} (h : es.Perm (cs.map f)) : ∃ cs2 : List α, es = cs2.map f ∧ cs2.Perm cs := by
  generalize hx : cs.map f = xs at h
  induction h generalizing cs with
  | nil =>
    cases cs with
    | nil => exact ⟨[], rfl, .nil⟩
    | cons a r => cases hx
  | cons x h ih =>
    cases cs with
    | nil => cases hx
    | cons a r =>
      injection hx with h1 h2
      obtain ⟨c2, e, p⟩ := ih h2
      exact ⟨a :: c2, by rw [e, ← h1] <;> rfl, p.cons a⟩
  | swap x y l =>
    cases cs with
    | nil => cases hx
    | cons a r =>
      cases r with
      | nil => cases hx
      | cons b t =>
        injection hx with h1 h2
        injection h2 with h2 h3
        exact ⟨b :: a :: t, by rw [← h1, ← h2, ← h3] <;> rfl, .swap a b t⟩
  | trans h1 h2 ih1 ih2 =>
    obtain ⟨c2, e2, p2⟩ := ih2 hx
    obtain ⟨c1, e1, p1⟩ := ih1 e2.symm
    exact ⟨c1, e1, p1.trans p2⟩
section
variable {P : Program} {w : World} {K : PySem.W.Frag} {mg : Str → Option Value} {base : Heap}
theorem sc_law_calm : FnScope ["_law_deal", "_law_form", "_law_commands", "_law_columns_here", "_law_many", "_law_command", "_law_by", "_law_floor", "_law_state"] ["_law_deal"] (defScope s_law_calm) := ⟨rfl, rfl, rfl, by decide +kernel, rfl, by decide +kernel, by decide +kernel⟩
theorem bn_law_calm : BindN d_law_calm ["_law_deal"] := fun _ _ _ _ _ _ us hl => match us, hl with | [_], _ => rfl
theorem ok_law_calm (T : Top P w K mg base) : Cal P w K mg base d_law_calm "_law_calm" 5 ["_law_deal"] (spCalm K) := by
  refine T.cal 45 42 rfl rfl rfl rfl rfl sc_law_calm bn_law_calm (fun vs H Q E h => ?_) fun f cdv A outer s H vs Q E hr h => ?_
  · obtain ⟨_, _, _, rfl, _⟩ := h
    rfl
  have nd := (sc_law_calm).nd
  refine ⟨_, (pss_cons (ps_set (i := 1) nd rfl (.inl rfl) (pe_cal (ok_law_any T) hr (by decide) (by rfl) (pa_cons (pv 0) (pa_cons pe_int pa_nil))))
    (pss_cons (ps_if (pt_cmpR op_eq (pv 1) pe_int (nomark _))
      (pss_one (ps_ret (pe_cal (ok_law_renumbered T) hr (by decide) (by rfl) (pa_cons (pv 0) (pa_cons (pe_cal (ok_law_machine T) hr (by decide) (by rfl) (pa_cons (pv 0) (pa_cons pe_int pa_nil))) pa_nil)))))
      pss_nil)
    (pss_cons (ps_if (pt_cmpR op_lt (pv 1) pe_int (nomark _))
      (pss_one (ps_ret (pe_cal (ok_law_renumbered T) hr (by decide) (by rfl) (pa_cons (pv 0) (pa_cons (pe_cal (ok_law_pairs T) hr (by decide) (by rfl) (pa_cons (pv 0) pa_nil)) pa_nil)))))
      pss_nil)
    (pss_cons (ps_par (i := 2) (j := 3) rfl nd rfl rfl (by decide) rfl rfl (pa_cons (pe_op op_add pe_int (pe_cal (ok_law_any T) hr (by decide) (by rfl) (pa_cons (pv 0) (pa_cons pe_int pa_nil)))) (pa_cons (pe_lst pa_nil) pa_nil)) (by rfl))
    (pss_cons (ps_set (i := 4) nd rfl (.inl rfl) (pe_op op_add pe_int (pe_cal (ok_law_any T) hr (by decide) (by rfl) (pa_cons (pv 0) (pa_cons (pe_ifExp (pt_cmpR op_lt (pv 2) pe_int (nomark _)) pe_int pe_int) pa_nil)))))
    (pss_cons (ps_for (passes_of rfl) rfl (pi_range1 (by rfl) T.n_range (pa_cons (pv 2) pa_nil)) (pg_name (i := 5) nd rfl (.inl rfl))
      (pss_cons (ps_asg (pe_tup (pa_cons (pe_callB (cl_min rfl) (by rfl) T.n_min bt_min (pa_cons (pe_op op_sub (pv 4) pe_int) (pa_cons (pe_cal (ok_law_of T) hr (by decide) (by rfl) (pa_cons (pv 0) (pa_cons (pe_lst (pa_cons pe_int (pa_cons pe_int (pa_cons pe_int pa_nil)))) pa_nil))) pa_nil))) (pa_cons (L2.pe_and (pe_cmpR op_gt (pv 5) pe_int (nomark _)) (pe_one (pe_cmpR op_eq (pe_cal (ok_law_any T) hr (by decide) (by rfl) (pa_cons (pv 0) (pa_cons pe_int pa_nil))) pe_int (nomark _)))) pa_nil))) (pg_tup rfl (pgs_cons (pg_name (i := 6) nd rfl (.inr rfl)) (pgs_cons (pg_name (i := 7) nd rfl (.inr rfl)) pgs_nil))))
    (pss_one (ps_if (pt_cmpR op_lt (pv 1) pe_int (nomark _))
      (pss_one (ps_expr (pe_bm PySem.F.plainAttrs_list PySem.F.slot_list_append PySem.F.type_list_append mt_append (pv 3) (pa_cons (pe_lc (own := [("_law_state", 8)]) (g := (gName 8)) (tt := tYes) (te := (tIf (tB (tVar 7)) (tCB rMax_ (tCons (tVar 6) (tCons (tVar 8) tNil))) (tCB rMax_ (tCons (tC (.int 0)) (tCons (tOp rSub_ (tVar 8) (tVar 6)) tNil))))) rfl nd (pi_range1 (by rfl) T.n_range (pa_cons (pv 4) pa_nil)) (blkOk_by (by kernel_rfl)) (fun _ _ _ _ _ => (pg_name (i := 8) nd rfl (.inl rfl))) (fun _ _ _ _ _ => pts_nil) (fun _ _ _ _ _ => (pe_ifExp (pt_val (pv 7)) (pe_callB (cl_max rfl) (by rfl) T.n_max bt_max (pa_cons (pv 6) (pa_cons (pv 8) pa_nil))) (pe_callB (cl_max rfl) (by rfl) T.n_max bt_max (pa_cons pe_int (pa_cons (pe_op op_sub (pv 8) (pv 6)) pa_nil)))))) pa_nil))))
      (pss_one (ps_expr (pe_bm PySem.F.plainAttrs_list PySem.F.slot_list_append PySem.F.type_list_append mt_append (pv 3) (pa_cons (pe_cal (ok_law_column T) hr (by decide) (by rfl) (pa_cons (pv 0) (pa_cons (pe_ifExp (pt_cmpR op_eq (pv 1) pe_int (nomark _)) pe_int (pe_ifExp (pt_val (pv 7)) pe_int pe_int)) (pa_cons (pv 4) pa_nil)))) pa_nil))))))))
    (pss_one (ps_ret (pe_cal (ok_law_renumbered T) hr (by decide) (by rfl) (pa_cons (pv 0) (pa_cons (pe_tup (pa_cons (pv 2) (pa_cons (pe_cal (ok_law_columns T) hr (by decide) (by rfl) (pa_cons (pe_cal (ok_law_mixed T) hr (by decide) (by rfl) (pa_cons (pv 0) (pa_cons (pv 3) pa_nil))) pa_nil)) pa_nil))) pa_nil))))))))))), ?_⟩
  obtain ⟨F, D, L, rfl, hF, hd, q⟩ := h
  refine ⟨.ref D, rfl, F, D, L, 7, rfl, hF, hd, by decide, by decide, fun r F1 H1 st1 hr => ?_⟩
  obtain ⟨⟨fm, rfl, hfm⟩, d1⟩ := hr
  refine ⟨vN fm, rfl, rfl, _, rfl, ?_⟩
  rw [int_dec]
  by_cases h0 : (fm : Int) = 0
  · rw [decide_eq_true h0]
    refine iteT ⟨.ref D, rfl, .ref D, rfl, F1, D, L, rfl, st1.fh, d1, fun r F2 H2 st2 hr => ?_⟩
    refine ⟨F2, D, L, r, rfl, st2.fh, hr.2, hr.1, fun r F3 H3 st3 hr => ?_⟩
    exact q r F3 H3 ((st1.trans st2).trans st3) hr
  rw [decide_eq_false h0]
  refine iteF ⟨vN fm, rfl, _, _, rfl, rfl, _, rfl, ?_⟩
  by_cases h3 : (fm : Int) < 3
  · rw [decide_eq_true h3]
    refine iteT ⟨.ref D, rfl, .ref D, rfl, F1, D, L, rfl, st1.fh, d1, fun r F2 H2 st2 hr => ?_⟩
    refine ⟨F2, D, L, r, rfl, st2.fh, hr.2, hr.1, fun r F3 H3 st3 hr => ?_⟩
    exact q r F3 H3 ((st1.trans st2).trans st3) hr
  rw [decide_eq_false h3]
  refine iteF ⟨.ref D, rfl, F1, D, L, 3, rfl, st1.fh, d1, by decide, by decide, fun r F2 H2 st2 hr => ?_⟩
  obtain ⟨⟨cv, rfl, hcv⟩, d2⟩ := hr
  have s2 := st1.trans st2
  refine ⟨_, _, rfl, rfl, Nat.zero_le _, fun l hl => ⟨_, _, rfl, ?_⟩⟩
  have hlH := s2.none_ hl
  have hlS : l ∉ [D, L] := notin_of hd.there hlH
  have s3 := s2.trans (Stp.newM (S := [D, L]) (o := .lst []) s2.fh hl)
  have d3 := d2.step0 (Stp.newM (o := .lst []) s2.fh hl)
  have m3 : Mu F2 _ l (.lst []) := Mu.new s2.fh hl
  generalize upd H2 l (.lst []) = H3 at s3 d3 m3 ⊢
  have ol := hd.off hlH
  refine ⟨.ref D, rfl, vN (1 + cv), rfl, _, _, rfl, rfl, _, rfl, ?_⟩
  have key : ∀ (b : Bool) (k : VK), (∀ (tv : Nat) (F4 H4 : Hp), Stp [D, L] F2 H3 F4 H4 → Deal F4 H4 D L → tv < 4 → k (vN tv) H4) → (if b = true then spAny K ([.ref D, .int 4] ++ []) H3 k C8.E0 else spAny K ([.ref D, .int 3] ++ []) H3 k C8.E0) := fun b k rest => by
    have one : ∀ m : Nat, 1 ≤ m → m ≤ 4 → spAny K ([.ref D, vN m] ++ []) H3 k C8.E0 := fun m hm1 hm2 => by
      refine ⟨F2, D, L, m, rfl, s3.fh, d3, hm1, by omega, fun r F4 H4 st4 hr => ?_⟩
      obtain ⟨⟨tv, rfl, htv⟩, d4⟩ := hr
      exact rest tv F4 H4 st4 d4 (by omega)
    cases b with
    | true => exact iteT (one 4 (by decide) (by decide))
    | false => exact iteF (one 3 (by decide) (by decide))
  show (if _ = true then spAny K ([.ref D, .int 4] ++ []) H3 _ C8.E0 else spAny K ([.ref D, .int 3] ++ []) H3 _ C8.E0)
  refine key _ _ fun tv F4 H4 st4 d4 htv => ?_
  have s4 := s3.trans st4
  have m4 := st4.mu m3 hlS
  clear key
  refine ⟨_, _, rfl, rfl, vN (1 + cv), rfl, ((1 + cv : Nat) : Int), rfl, by omega, by omega, ?_⟩
  rw [Int.toNat_natCast]
  refine for_do (src_r (F := F4)) (fun i σ H' => ∃ (F' : Hp) (cs : List (List Nat)) (xs : List V) (y5 y6 y7 y8 : Option V), σ = [some (.ref D), some (vN fm), some (vN (1 + cv)), some (.ref l), some (vN (2 + tv)), y5, y6, y7, y8] ∧ Stp [D, L] F H F' H' ∧ Same F4 F' ∧ Deal F' H' D L ∧ Mu F' H' l (.lst xs) ∧ DpAll K F' xs (cs.map lN) ∧ cs.length = i ∧ ∀ col ∈ cs, Col (2 + tv) col) (fun i σ H' h => ?_) ⟨F4, [], [], _, _, _, _, rfl, s4, Same.refl _, d4, m4, .nil, rfl, fun col h => by cases h⟩ (fun i x σ H6 hi hx hp => ?_) fun σ H6 hp => ?_
  · obtain ⟨F', _, _, _, _, _, _, _, st, e, _⟩ := h
    exact e.trans st.fh
  · obtain ⟨F6, cs, xs, y5, y6, y7, y8, rfl, s6, e6, d6, m6, al6, hcl, hco⟩ := hp
    refine ⟨vN (2 + tv), rfl, _, _, rfl, rfl, .ref D, rfl, (show 3 ≤ sizeLine by decide), fun p7 hp7 => ?_⟩
    have n7 := Stp.new (S := []) (o := .lst [V.int 1, .int 1, .int 2]) s6.fh hp7
    have sl7 : Stp [D, L] F6 H6 _ _ := n7.up
    refine ⟨_, D, L, p7, [V.int 1, .int 1, .int 2], rfl, n7.fh, d6.step0 n7, .inl (.inl upd_same), by decide, by decide, fun r F8 H8 st8 hr => ?_⟩
    obtain ⟨hr, d8⟩ := hr
    have s8 := sl7.trans st8
    obtain ⟨bo, rfl, hb1, hb2⟩ := of112 hr
    clear st8 n7 sl7 hp7 hr
    refine ⟨_, _, rfl, ?_⟩
    have hby0 : (0 : Int) ≤ (if ((bo : Nat) : Int) < ((2 + tv : Nat) : Int) - 1 then ((bo : Nat) : Int) else ((2 + tv : Nat) : Int) - 1) := by split <;> omega
    have hby1 : (if ((bo : Nat) : Int) < ((2 + tv : Nat) : Int) - 1 then ((bo : Nat) : Int) else ((2 + tv : Nat) : Int) - 1) < (2 + tv : Nat) := by split <;> omega
    generalize hby : (if ((bo : Nat) : Int) < ((2 + tv : Nat) : Int) - 1 then ((bo : Nat) : Int) else ((2 + tv : Nat) : Int) - 1) = by_ at hby0 hby1 ⊢
    clear hby
    have key2 : ∀ k : VK, (∀ (fl : Bool) (F9 H9 : Hp), Stp [D, L] F8 H8 F9 H9 → Deal F9 H9 D L → k (.bl fl) H9) → tAndV (tOp rGt_ (tVar 5) (tC (.int 0))) (tOp rEq (tCall (spAny K) [] C8.E0 (tCons (tVar 0) (tCons (tC (.int 2)) tNil))) (tC (.int 0))) [some (.ref D), some (vN fm), some (vN (1 + cv)), some (.ref l), some (vN (2 + tv)), some x, y6, y7, y8] H8 k := fun k rest => by
      have hx' : x = vN i := by rw [hx, Int.zero_add] <;> rfl
      subst hx'
      refine ⟨vN i, rfl, _, _, rfl, rfl, _, rfl, ?_⟩
      cases decide ((0 : Int) < (i : Int)) with
      | false => exact iteF (rest false F8 H8 (Stp.refl s8.fh) d8)
      | true =>
        refine iteT ⟨.ref D, rfl, F8, D, L, 2, rfl, s8.fh, d8, by decide, by decide, fun r F9 H9 st9 hr => ?_⟩
        obtain ⟨⟨v, rfl, hv⟩, d9⟩ := hr
        exact ⟨rfl, rest _ F9 H9 st9 d9⟩
    show tAndV (tOp rGt_ (tVar 5) (tC (.int 0))) (tOp rEq (tCall (spAny K) [] C8.E0 (tCons (tVar 0) (tCons (tC (.int 2)) tNil))) (tC (.int 0))) [some (.ref D), some (vN fm), some (vN (1 + cv)), some (.ref l), some (vN (2 + tv)), some x, y6, y7, y8] H8 _
    refine key2 _ fun fl F9 H9 st9 d9 => ?_
    have s9 := s8.trans st9
    clear key2 d8 s8 st9
    refine ⟨two_le, fun pt hpt => ⟨pt, _, rfl, .inl (.inl upd_same), rfl, _, _, rfl, _, _, rfl, rfl, ?_⟩⟩
    have n10 := Stp.new (S := []) (o := .tup [V.int by_, .bl fl]) s9.fh hpt
    replace s9 := s9.trans (Stp.up (S := [D, L]) n10)
    replace d9 := d9.step0 n10
    generalize upd F9 pt (.tup [V.int by_, .bl fl]) = F9 at s9 d9
    generalize upd H9 pt (.tup [V.int by_, .bl fl]) = H9 at s9 d9 ⊢
    have m9 := s9.mu m6 hlS
    have fin : ∀ r F10 H10, Stp [D, L] F9 H9 F10 H10 → (∃ col, Dp K F10 r (lN col) ∧ Col (2 + tv) col) → Deal F10 H10 D L → ∀ y : Option V, H10 l = some (.lst xs) ∧ xs.length < sizeLine ∧ ∃ (F' : Hp) (cs : List (List Nat)) (xs2 : List V) (u5 u6 u7 u8 : Option V), [some (.ref D), some (vN fm), some (vN (1 + cv)), some (.ref l), some (vN (2 + tv)), some x, some (.int by_), some (.bl fl), y] = [some (.ref D), some (vN fm), some (vN (1 + cv)), some (.ref l), some (vN (2 + tv)), u5, u6, u7, u8] ∧ Stp [D, L] F H F' (upd H10 l (.lst (xs ++ [r]))) ∧ Same F4 F' ∧ Deal F' (upd H10 l (.lst (xs ++ [r]))) D L ∧ Mu F' (upd H10 l (.lst (xs ++ [r]))) l (.lst xs2) ∧ DpAll K F' xs2 (cs.map lN) ∧ cs.length = i + 1 ∧ ∀ col ∈ cs, Col (2 + tv) col := fun r F10 H10 st10 hr d10 y => by
      obtain ⟨col, dc, hc⟩ := hr
      have m10 := st10.mu m9 hlS
      have e10 := s9.ff.trans st10.ff
      refine ⟨m10.at_, by rw [al6.len, List.length_map, sizeLine_eq]; omega, F10, cs ++ [col], xs ++ [r], _, _, _, _, rfl, ((s6.trans s9).trans st10).write (.inl hlH) m10, e6.trans e10, d10.upd ol.1 ol.2, m10.wrote, ?_, by rw [List.length_append, hcl] <;> rfl, fun z hz => ?_⟩
      · rw [List.map_append]
        exact (al6.up e10).snoc dc
      · rcases List.mem_append.mp hz with h | h
        · exact hco z h
        · rw [List.mem_singleton.mp h]
          exact hc
    refine ⟨vN fm, rfl, _, _, rfl, rfl, _, rfl, ?_⟩
    cases decide ((fm : Int) < 5) with
    | true =>
      refine iteT ⟨.ref l, rfl, .inl ⟨rfl, _, .inl (.inl m9.at_)⟩, vN (2 + tv), rfl, ((2 + tv : Nat) : Int), rfl, by omega, by omega, ?_⟩
      rw [Int.toNat_natCast]
      refine lc_do (S := []) (src_r (F := F9)) s9.fh (fun a h => by cases h) (by rw [sizeLine_eq]; omega) (fun i acc _ _ => ∃ col : List Nat, acc = col.map vN ∧ col.length = i ∧ ∀ t ∈ col, t < 2 + tv) (by refine ⟨[], rfl, rfl, fun t h => ?_⟩; cases h) (fun j z acc F10 H10 hj hz st10 hp Y N hY hN => ?_) fun D2 acc F10 H10 st10 hD mu hl10 hp => ?_
      · have hz' : z = vN j := by rw [hz, Int.zero_add] <;> rfl
        subst hz'
        obtain ⟨col, rfl, hcl, hct⟩ := hp
        have finI : ∀ x : Int, 0 ≤ x → x < (2 + tv : Nat) → Y (.int x) H10 := fun x h0 h1 => by
          obtain ⟨v, e, h⟩ := nat_of h0 h1
          rw [e]
          exact hY _ F10 H10 (Stp.refl st10.fh) ⟨col ++ [v], by rw [List.map_append] <;> rfl, by rw [List.length_append, hcl] <;> rfl, fun z hz => (List.mem_append.mp hz).elim (hct z) fun q => by rw [List.mem_singleton.mp q]; exact Int.ofNat_lt.mp h⟩
        refine ⟨rfl, lc_yes ⟨_, rfl, _, rfl, ?_⟩⟩
        cases fl with
        | true =>
          refine iteT ⟨.int by_, rfl, vN j, rfl, _, _, rfl, finI _ ?_ ?_⟩
          · split <;> omega
          · split <;> omega
        | false =>
          refine iteF ⟨vN j, rfl, .int by_, rfl, _, _, rfl, rfl, _, _, rfl, finI _ ?_ ?_⟩
          · split <;> omega
          · split <;> omega
      · obtain ⟨col, rfl, hcl2, hct⟩ := hp
        have s610 := (s6.trans s9).trans (Stp.up (S := [D, L]) st10)
        have hDH : H D2 = none := (s6.trans s9).none_ hD
        obtain ⟨t11, d11⟩ := dp_frz (K := K) st10 hD mu
        have oD := hd.off hDH
        have d10' := (d9.step0 st10).frz (p := D2) (u := .lst (col.map vN)) oD.1 oD.2
        obtain ⟨z1, z2, z3⟩ := fin (.ref D2) _ _ t11.up ⟨col, d11, hcl2, hct⟩ d10' y8
        exact ⟨l, xs, .ref D2, rfl, rfl, z1, z2, z3⟩
    | false =>
      refine iteF ⟨.ref l, rfl, .inl ⟨rfl, _, .inl (.inl m9.at_)⟩, .ref D, rfl, vN fm, rfl, rfl, _, rfl, ?_⟩
      have key3 : ∀ (k : VK), (∀ r F10 H10, Stp [D, L] F9 H9 F10 H10 → (∃ col, Dp K F10 r (lN col) ∧ Col (2 + tv) col) → Deal F10 H10 D L → k r H10) → ∀ e : Int, spColumn K [.ref D, .int e, vN (2 + tv)] H9 k C8.E0 := fun k rest e => ⟨F9, D, L, e, 2 + tv, rfl, s9.fh, d9, by omega, by omega, fun r F10 H10 st10 hr => rest r F10 H10 st10 hr.1 hr.2⟩
      have step : ∀ r F10 H10, Stp [D, L] F9 H9 F10 H10 → (∃ col, Dp K F10 r (lN col) ∧ Col (2 + tv) col) → Deal F10 H10 D L → _ := fun r F10 H10 st10 hc d10 => fin r F10 H10 st10 hc d10 y8
      cases decide (vN fm = V.int 6) with
      | true =>
        refine iteT ⟨vN (2 + tv), rfl, key3 _ (fun r F10 H10 st10 hc d10 => ?_) 7⟩
        obtain ⟨z1, z2, z3⟩ := step r F10 H10 st10 hc d10
        exact ⟨l, xs, r, rfl, rfl, z1, z2, z3⟩
      | false =>
        refine iteF ⟨_, rfl, _, rfl, ?_⟩
        cases fl with
        | true =>
          refine iteT ⟨vN (2 + tv), rfl, key3 _ (fun r F10 H10 st10 hc d10 => ?_) 4⟩
          obtain ⟨z1, z2, z3⟩ := step r F10 H10 st10 hc d10
          exact ⟨l, xs, r, rfl, rfl, z1, z2, z3⟩
        | false =>
          refine iteF ⟨vN (2 + tv), rfl, key3 _ (fun r F10 H10 st10 hc d10 => ?_) 1⟩
          obtain ⟨z1, z2, z3⟩ := step r F10 H10 st10 hc d10
          exact ⟨l, xs, r, rfl, rfl, z1, z2, z3⟩
  · obtain ⟨F6, cs, xs, y5, y6, y7, y8, rfl, s6, e6, d6, m6, al6, hcl, hco⟩ := hp
    obtain ⟨t7, e7, g7, k7⟩ := deal_frz hd s6 hlH m6 al6 d6
    have sm : Sm (cs.map lN) := ⟨by rw [List.length_map]; omega, fun x hx => by
      obtain ⟨col, _, rfl⟩ := List.mem_map.mp hx
      exact ⟨(lay_seq (lay_nD col)).2, Nat.le_trans (dep_seq (dep_nD col)).2 (by decide)⟩⟩
    refine ⟨.ref D, rfl, vN (1 + cv), rfl, .ref D, rfl, .ref l, rfl, _, D, L, .ref l, cs.map lN, rfl, t7.fh, k7, g7, sm, fun r F8 H8 st8 hr => ?_⟩
    obtain ⟨⟨es, hes, des⟩, d8⟩ := hr
    obtain ⟨cs2, rfl, hcs2⟩ : ∃ cs2 : List (List Nat), es = cs2.map lN ∧ cs2.Perm cs := by
      obtain ⟨a, ys, _, _, hall⟩ := des.lst_inv
      exact perm_map hes
    have hcl2 : cs2.length = 1 + cv := by rw [hcs2.length_eq, hcl]
    have hco2 : ∀ col ∈ cs2, Col (2 + tv) col := fun col h => hco col (hcs2.mem_iff.mp h)
    have s8 := t7.trans st8
    refine ⟨F8, r, cs2, 2 + tv, rfl, s8.fh, des, by omega, by omega, by omega, fun col h => (hco2 col h).1, fun r F9 H9 st9 hr => ?_⟩
    refine ⟨two_le, fun p9 hp9 => ?_⟩
    have s9 := s8.trans st9.up
    have n9 := Stp.new (S := []) (o := .tup [vN (1 + cv), r]) s9.fh hp9
    have s10 := s9.trans n9.up
    refine ⟨_, D, L, .ref p9, rfl, s10.fh, (d8.step0 st9).step0 n9, ⟨p9, r, 1 + cv, 2 + tv, rowsOf cs2 (2 + tv), rfl, .inl (.inl upd_same), L2.Dp.up hr n9.ff, rowsOf_wf hcl2 hco2 (by omega) (by omega) (by omega) (by omega)⟩, fun r F11 H11 st11 hr => ?_⟩
    exact q r F11 H11 (s10.trans st11) hr

end
end K11


set_option Elab.async false
set_option linter.all false
set_option maxRecDepth 100000
set_option maxHeartbeats 4000000
/-! _law_spoiled. -/
namespace K11
open PySem PySem.Spec PyProof.Rows L2
/-- data whose tuples are short -/
def Sho (d : PyData) : Prop := ∀ ds, d = .tuple ds → ds.length ≤ 1000
def spSpoil (K : PySem.W.Frag) : Sp := fun vs H Q _ => ∃ (F : Hp) (D L : Addr) (v : V) (ks : List Nat) (m : Nat), vs = [.ref D, v, vN m] ∧ Same F H ∧ Deal F H D L ∧ Dp K F v (tN ks) ∧ ks.length ≤ 100 ∧ m ≤ 100 ∧ Back [D, L] F H Q fun r F' H' => (∃ d, Dp K F' r d ∧ Sho d) ∧ Deal F' H' D L
section
variable {K : PySem.W.Frag} {F H : Hp}
theorem dp_tZ {a : Addr} {is : List Int} (h : SqT K F a (is.map V.int)) : Dp K F (.ref a) (tZ is) := .tup h (all_ints is)
theorem tZ_inv {x : V} {is : List Int} (h : Dp K F x (tZ is)) : ∃ a, x = .ref a ∧ SqT K F a (is.map V.int) := by
  obtain ⟨a, xs, rfl, hs, hall⟩ := h.tup_inv
  rw [all_ints_inv hall] at hs
  exact ⟨a, rfl, hs⟩
theorem slice_read {x : V} {is : List Int} {lo hi : Option Int} {Q : VK} (h : Dp K F x (tZ is)) (e : Same F H) (q : ∀ F' H' y ns, Stp [] F H F' H' → Dp K F' y (tZ ns) → ns.length ≤ is.length → Q y H') : rSlA K x lo hi H Q := by
  obtain ⟨a, rfl, ha⟩ := tZ_inv h
  refine ⟨a, _, rfl, same_t e ha, fun _ => q F H _ is (Stp.refl e) h (Nat.le_refl _), fun _ p hp => ?_⟩
  have ec : cutV (is.map V.int) lo hi = ((is.drop (HT.sIx (is.map V.int).length 0 lo)).take (HT.sIx (is.map V.int).length (is.map V.int).length hi - HT.sIx (is.map V.int).length 0 lo)).map V.int := by
    unfold cutV
    rw [← List.map_drop, ← List.map_take]
  rw [ec]
  refine q _ _ _ _ (Stp.new (o := .tup _) e hp) (dp_tZ (.inl (.inl upd_same))) ?_
  rw [List.length_take, List.length_drop]
  omega
theorem cat_read {x y : V} {is js : List Int} {Q : VK} (h : Dp K F x (tZ is)) (h2 : Dp K F y (tZ js)) (e : Same F H) (hl : is.length + js.length ≤ 1000) (q : ∀ F' H' z, Stp [] F H F' H' → Dp K F' z (tZ (is ++ js)) → Q z H') : rCatA K x y H Q := by
  obtain ⟨a, rfl, ha⟩ := tZ_inv h
  obtain ⟨b, rfl, hb⟩ := tZ_inv h2
  refine ⟨a, b, _, _, rfl, rfl, same_t e ha, same_t e hb, by rw [List.length_map, List.length_map, sizeLine_eq]; omega, fun z => ?_, fun _ z => ?_, fun _ _ p hp => ?_⟩
  · have z2 : is = [] := List.map_eq_nil_iff.mp z
    rw [z2] at q
    exact q F H _ (Stp.refl e) h2
  · have z2 : js = [] := List.map_eq_nil_iff.mp z
    rw [z2, List.append_nil] at q
    exact q F H _ (Stp.refl e) h
  · rw [← List.map_append]
    exact q _ _ _ (Stp.new (o := .tup _) e hp) (dp_tZ (.inl (.inl upd_same)))
theorem one_read {i : Int} {p : Addr} (e : Same F H) (hp : H p = none) : Stp [] F H (upd F p (.tup [.int i])) (upd H p (.tup [.int i])) ∧ Dp K (upd F p (.tup [.int i])) (.ref p) (tZ [i]) := ⟨Stp.new e hp, dp_tZ (.inl (.inl upd_same))⟩
/-- tuple(sorted(..)) of a tuple of numbers -/
theorem sort_read {x : V} {is : List Int} {Q : VK} (h : Dp K F x (tZ is)) (e : Same F H) (q : ∀ F' H' z ns, Stp [] F H F' H' → Dp K F' z (tZ ns) → ns.length = is.length → Q z H') : rSortTI K [x] H fun y H1 => rTup_ K [y] H1 Q := by
  obtain ⟨a, rfl, ha⟩ := tZ_inv h
  refine ⟨a, is, rfl, same_t e ha, fun ns p hp hn => ⟨p, _, rfl, .inl ⟨.inl (.inl upd_same), fun p2 hp2 => ?_⟩⟩⟩
  have s1 := Stp.new (S := []) (o := .lst (ns.map V.int)) e hn
  exact q _ _ _ _ (s1.tup (xs := ns.map V.int) hp2) (dp_tZ (.inl (.inl upd_same))) hp.length_eq
theorem sho_tZ {is : List Int} (h : is.length ≤ 1000) : Sho (tZ is) := fun ds e => by
  injection e with e
  rw [← e, List.length_map]
  exact h
end
section
variable {P : Program} {w : World} {K : PySem.W.Frag} {mg : Str → Option Value} {base : Heap}
theorem sc_law_spoiled : FnScope ["_law_deal", "_law_places_here", "_law_many", "_law_form", "_law_at", "_law_place", "_law_one"] ["_law_deal", "_law_places_here", "_law_many"] (defScope s_law_spoiled) := ⟨rfl, rfl, rfl, by decide +kernel, rfl, by decide +kernel, by decide +kernel⟩
theorem bn_law_spoiled : BindN d_law_spoiled ["_law_deal", "_law_places_here", "_law_many"] := fun _ _ _ _ _ _ us hl => match us, hl with | [_, _, _], _ => rfl
theorem ok_law_spoiled (T : Top P w K mg base) : Cal P w K mg base d_law_spoiled "_law_spoiled" 3 ["_law_deal", "_law_places_here", "_law_many"] (spSpoil K) := by
  refine T.cal 48 45 rfl rfl rfl rfl rfl sc_law_spoiled bn_law_spoiled (fun vs H Q E h => ?_) fun f cdv A outer s H vs Q E hr h => ?_
  · obtain ⟨_, _, _, _, _, _, rfl, _⟩ := h
    rfl
  have nd := (sc_law_spoiled).nd
  refine ⟨_, (pss_cons (ps_par (i := 3) (j := 4) rfl nd rfl rfl (by decide) rfl rfl (pa_cons (pe_cal (ok_law_any T) hr (by decide) (by rfl) (pa_cons (pv 0) (pa_cons pe_int pa_nil))) (pa_cons (pe_cal (ok_law_any T) hr (by decide) (by rfl) (pa_cons (pv 0) (pa_cons (pe_op op_add (pe_callB cl_len (by rfl) T.n_len bt_len (pa_cons (pv 1) pa_nil)) pe_int) pa_nil))) pa_nil)) (by rfl))
    (pss_cons (ps_set (i := 5) nd rfl (.inl rfl) (pe_cal (ok_law_any T) hr (by decide) (by rfl) (pa_cons (pv 0) (pa_cons (pe_op op_add (pv 2) pe_int) pa_nil))))
    (pss_cons (ps_if (pt_cmpR op_eq (pv 3) pe_int (nomark _))
      (pss_one (ps_ret (pe_op op_catA (pe_slice sl_tupA (pv 1) po_none (po_some (pv 4))) (pe_slice sl_tupA (pv 1) (po_some (pe_op op_add (pv 4) pe_int)) po_none))))
      pss_nil)
    (pss_cons (ps_if (pt_cmpR op_eq (pv 3) pe_int (nomark _))
      (pss_one (ps_ret (pe_callTy cl_tup (by rfl) T.n_tuple bt_tuple (pa_cons (pe_callB call_sortTI (by rfl) T.n_sorted bt_sorted (pa_cons (pe_op op_catA (pv 1) (pe_tup (pa_cons (pv 5) pa_nil))) pa_nil)) pa_nil))))
      pss_nil)
    (pss_cons (ps_if (pt_cmpR op_eq (pv 3) pe_int (nomark _))
      (pss_one (ps_ret (pe_callTy cl_tup (by rfl) T.n_tuple bt_tuple (pa_cons (pe_callB call_sortTI (by rfl) T.n_sorted bt_sorted (pa_cons (pe_op op_catA (pe_op op_catA (pe_slice sl_tupA (pv 1) po_none (po_some (pv 4))) (pe_slice sl_tupA (pv 1) (po_some (pe_op op_add (pv 4) pe_int)) po_none)) (pe_tup (pa_cons (pv 5) pa_nil))) pa_nil)) pa_nil))))
      pss_nil)
    (pss_cons (ps_if (pt_cmpR op_eq (pv 3) pe_int (nomark _))
      (pss_one (ps_ret (pe_callTy cl_lst (by rfl) T.n_list bt_list (pa_cons (pv 1) pa_nil))))
      pss_nil)
    (pss_cons (ps_if (pt_cmpR op_eq (pv 3) pe_int (nomark _))
      (pss_one (ps_ret (pe_revT (pv 1))))
      pss_nil)
    (pss_cons (ps_if (pt_cmpR op_eq (pv 3) pe_int (nomark _))
      (pss_one (ps_ret (pe_callTy cl_tup (by rfl) T.n_tuple bt_tuple (pa_cons (pe_callB call_sortTI (by rfl) T.n_sorted bt_sorted (pa_cons (pe_op op_catA (pv 1) (pe_tup (pa_cons (pe_cal (ok_law_of T) hr (by decide) (by rfl) (pa_cons (pv 0) (pa_cons (pe_lst (pa_cons (pe_un un_neg pe_int) (pa_cons (pv 2) pa_nil))) pa_nil))) pa_nil))) pa_nil)) pa_nil))))
      pss_nil)
    (pss_cons (ps_if (pt_cmpR op_eq (pv 3) pe_int (nomark _))
      (pss_one (ps_ret (pe_callTy cl_tup (by rfl) T.n_tuple bt_tuple (pa_cons (pe_lc (own := [("_law_one", 6)]) (g := (gName 6)) (tt := tYes) (te := (tIf (tTest (tOp rLt_ (tVar 6) (tC (.int 2)))) (tCB rBool_ (tCons (tVar 6) tNil)) (tVar 6))) rfl nd (pi_tup (pv 1)) (blkOk_by (by kernel_rfl)) (fun _ _ _ _ _ => (pg_name (i := 6) nd rfl (.inl rfl))) (fun _ _ _ _ _ => pts_nil) (fun _ _ _ _ _ => (pe_ifExp (pt_cmpR op_lt (pv 6) pe_int (nomark _)) (pe_callTy cl_bool (by rfl) T.n_bool bt_bool (pa_cons (pv 6) pa_nil)) (pv 6)))) pa_nil))))
      pss_nil)
    (pss_one (ps_ret (pe_cal (ok_law_of T) hr (by decide) (by rfl) (pa_cons (pv 0) (pa_cons (pe_lst (pa_cons pe_non (pa_cons pe_int (pa_cons pe_str (pa_cons (pe_tup (pa_cons pe_non pa_nil)) (pa_cons (pe_tup (pa_cons (pe_tup (pa_cons pe_int pa_nil)) pa_nil)) (pa_cons (pe_callTy cl_tup (by rfl) T.n_tuple bt_tuple (pa_cons (pe_listRg rfl (by rfl) T.n_list (prg_1 (by rfl) T.n_range (pv 2))) pa_nil)) pa_nil))))))) pa_nil)))))))))))))), ?_⟩
  obtain ⟨F, D, L, v, ks, m, rfl, hF, hd, hv, hkl, hm, q⟩ := h
  have hv0 : Dp K F v (tZ (ks.map fun (k : Nat) => (k : Int))) := by
    have e : (ks.map fun (k : Nat) => (k : Int)).map PyData.int = ks.map nD := by rw [List.map_map] <;> rfl
    show Dp K F v (.tuple _)
    rw [e]
    exact hv
  have hil : (ks.map fun (k : Nat) => (k : Int)).length ≤ 100 := by rw [List.length_map]; exact hkl
  generalize (ks.map fun (k : Nat) => (k : Int)) = is at hv0 hil
  obtain ⟨b, rfl, hb⟩ := tZ_inv hv0
  have hbl : (is.map V.int).length = is.length := List.length_map ..
  refine ⟨.ref D, rfl, F, D, L, 9, rfl, hF, hd, by decide, by decide, fun r F1 H1 st1 hr => ?_⟩
  obtain ⟨⟨fm, rfl, hfm⟩, d1⟩ := hr
  refine ⟨.ref D, rfl, .ref b, rfl, b, _, rfl, .inr (same_t (st1.ff.trans st1.fh) hb), _, _, rfl, rfl, F1, D, L, (is.map V.int).length + 1, rfl, st1.fh, d1, by omega, by omega, fun r F2 H2 st2 hr => ⟨_, _, rfl, ?_⟩⟩
  obtain ⟨⟨av, rfl, hav⟩, d2⟩ := hr
  have s2 := st1.trans st2
  refine ⟨.ref D, rfl, vN m, rfl, _, _, rfl, rfl, F2, D, L, m + 1, rfl, s2.fh, d2, by omega, by omega, fun r F3 H3 st3 hr => ?_⟩
  obtain ⟨⟨pv, rfl, hpv⟩, d3⟩ := hr
  have s3 := s2.trans st3
  have dv := hv0.up s3.ff
  clear st3 d2 s2 st2 d1 st1
  have fin : ∀ r F4 H4 ns, Stp [] F3 H3 F4 H4 → Dp K F4 r (tZ ns) → ns.length ≤ 1000 → Q r H4 := fun r F4 H4 ns st dr hl => q r F4 H4 (s3.trans st.up) ⟨⟨_, dr, sho_tZ hl⟩, d3.step0 st⟩
  refine ⟨vN fm, rfl, rfl, _, rfl, ?_⟩
  rw [int_dec]
  by_cases h0 : (fm : Int) = 0
  · rw [decide_eq_true h0]
    refine iteT ⟨.ref b, rfl, vN av, rfl, _, rfl, ?_⟩
    refine slice_read dv s3.fh fun F4 H4 y1 n1 st4 g1 l1 => ⟨.ref b, rfl, vN av, rfl, _, _, rfl, rfl, _, rfl, ?_⟩
    unfold tNoPart
    refine slice_read (dv.up st4.ff) st4.fh fun F5 H5 y2 n2 st5 g2 l2 => ?_
    refine cat_read (g1.up st5.ff) g2 st5.fh (by omega) fun F6 H6 z st6 g6 => ?_
    exact fin z F6 H6 _ ((st4.trans st5).trans st6) g6 (by rw [List.length_append]; omega)
  rw [decide_eq_false h0]
  refine iteF ⟨vN fm, rfl, rfl, _, rfl, ?_⟩
  rw [int_dec]
  by_cases h1 : (fm : Int) = 1
  · rw [decide_eq_true h1]
    refine iteT ⟨.ref b, rfl, vN pv, rfl, (show 1 ≤ sizeLine by decide), fun p hp => ?_⟩
    obtain ⟨st4, g4⟩ := one_read (K := K) (i := (pv : Int)) s3.fh hp
    refine cat_read (dv.up st4.ff) g4 st4.fh (by show _ + 1 ≤ _; omega) fun F5 H5 z st5 g5 => ?_
    refine sort_read g5 st5.fh fun F6 H6 z ns st6 g6 hl => ?_
    exact fin z F6 H6 _ ((st4.trans st5).trans st6) g6 (by rw [hl, List.length_append]; show _ + 1 ≤ _; omega)
  rw [decide_eq_false h1]
  refine iteF ⟨vN fm, rfl, rfl, _, rfl, ?_⟩
  rw [int_dec]
  by_cases h2 : (fm : Int) = 2
  · rw [decide_eq_true h2]
    refine iteT ⟨.ref b, rfl, vN av, rfl, _, rfl, ?_⟩
    refine slice_read dv s3.fh fun F4 H4 y1 n1 st4 g1 l1 => ⟨.ref b, rfl, vN av, rfl, _, _, rfl, rfl, _, rfl, ?_⟩
    unfold tNoPart
    refine slice_read (dv.up st4.ff) st4.fh fun F5 H5 y2 n2 st5 g2 l2 => ?_
    refine cat_read (g1.up st5.ff) g2 st5.fh (by omega) fun F6 H6 z st6 g6 => ⟨vN pv, rfl, (show 1 ≤ sizeLine by decide), fun p hp => ?_⟩
    obtain ⟨st7, g7⟩ := one_read (K := K) (i := (pv : Int)) st6.fh hp
    refine cat_read (g6.up st7.ff) g7 st7.fh (by rw [List.length_append]; show _ + 1 ≤ _; omega) fun F8 H8 z st8 g8 => ?_
    refine sort_read g8 st8.fh fun F9 H9 z ns st9 g9 hl => ?_
    exact fin z F9 H9 _ (((((st4.trans st5).trans st6).trans st7).trans st8).trans st9) g9 (by rw [hl, List.length_append, List.length_append]; show _ + 1 ≤ _; omega)
  rw [decide_eq_false h2]
  refine iteF ⟨vN fm, rfl, rfl, _, rfl, ?_⟩
  rw [int_dec]
  by_cases h3 : (fm : Int) = 3
  · rw [decide_eq_true h3]
    refine iteT ⟨.ref b, rfl, b, _, rfl, .inr (same_t (s3.ff.trans s3.fh) hb), fun l hl => ?_⟩
    have st := Stp.new (S := []) (o := .lst (is.map V.int)) s3.fh hl
    exact q _ _ _ (s3.trans st.up) ⟨⟨lZ is, .lst (.inl (.inl upd_same)) (all_ints is), fun ds e => by cases e⟩, d3.step0 st⟩
  rw [decide_eq_false h3]
  refine iteF ⟨vN fm, rfl, rfl, _, rfl, ?_⟩
  rw [int_dec]
  by_cases h4 : (fm : Int) = 4
  · rw [decide_eq_true h4]
    refine iteT ⟨.ref b, rfl, b, _, rfl, same_t (s3.ff.trans s3.fh) hb, fun p hp => ?_⟩
    rw [← List.map_reverse]
    exact fin _ _ _ is.reverse (Stp.new (o := .tup _) s3.fh hp) (dp_tZ (.inl (.inl upd_same))) (by rw [List.length_reverse]; omega)
  rw [decide_eq_false h4]
  refine iteF ⟨vN fm, rfl, rfl, _, rfl, ?_⟩
  rw [int_dec]
  by_cases h5 : (fm : Int) = 5
  · rw [decide_eq_true h5]
    refine iteT ⟨.ref b, rfl, .ref D, rfl, 1, rfl, vN m, rfl, two_le, fun p hp => ?_⟩
    have st4 := Stp.new (S := []) (o := .lst [V.int (-1), vN m]) s3.fh hp
    refine ⟨_, D, L, p, [V.int (-1), vN m], rfl, st4.fh, d3.step0 st4, .inl (.inl upd_same), (show 1 ≤ 2 by decide), (show 2 ≤ 1000 by decide), fun r F5 H5 st5 hr => ?_⟩
    obtain ⟨hr, d5⟩ := hr
    obtain ⟨i, rfl⟩ : ∃ i : Int, r = .int i := by
      simp only [List.mem_cons, List.not_mem_nil, or_false] at hr
      rcases hr with h | h
      · exact ⟨_, h⟩
      · exact ⟨_, h⟩
    refine ⟨(show 1 ≤ sizeLine by decide), fun p hp => ?_⟩
    have s5 := (s3.trans st4.up).trans st5
    obtain ⟨st6, g6⟩ := one_read (K := K) (i := i) s5.fh hp
    refine cat_read (((dv.up st4.ff).up st5.ff).up st6.ff) g6 st6.fh (by show _ + 1 ≤ _; omega) fun F7 H7 z st7 g7 => ?_
    refine sort_read g7 st7.fh fun F8 H8 z ns st8 g8 hl => ?_
    have st68 := (st6.trans st7).trans st8
    exact q z F8 H8 (s5.trans st68.up) ⟨⟨_, g8, sho_tZ (by rw [hl, List.length_append]; show _ + 1 ≤ _; omega)⟩, d5.step0 st68⟩
  rw [decide_eq_false h5]
  refine iteF ⟨vN fm, rfl, rfl, _, rfl, ?_⟩
  rw [int_dec]
  by_cases h6 : (fm : Int) = 6
  · rw [decide_eq_true h6]
    refine iteT ⟨.ref b, rfl, b, rfl, ⟨_, same_t (s3.ff.trans s3.fh) hb⟩, ?_⟩
    refine lc_do (S := []) (src_t (same_t s3.ff hb)) s3.fh (fun a h => by cases h) (by rw [hbl, sizeLine_eq]; omega) (fun i acc F' _ => ∃ ds : List PyData, DpAll K F' acc ds ∧ ds.length = i) ⟨[], .nil, rfl⟩ (fun i y acc F4 H4 hi hy st4 hp Y N hY hN => ?_) fun D2 acc F4 H4 st4 hD mu hl hp => ?_
    · obtain ⟨ds, hds, hdl⟩ := hp
      obtain ⟨z, rfl⟩ : ∃ z : Int, y = .int z := by
        rw [List.getElem?_map] at hy
        cases hz : is[i]? with
        | none =>
          rw [hz] at hy
          cases hy
        | some z =>
          rw [hz] at hy
          exact ⟨z, (Option.some.inj hy).symm⟩
      refine ⟨rfl, lc_yes ⟨.int z, rfl, _, _, rfl, rfl, _, rfl, ?_⟩⟩
      cases decide (z < 2) with
      | true => exact iteT ⟨.int z, rfl, .inl ⟨z, rfl, hY _ F4 H4 (Stp.refl st4.fh) ⟨ds ++ [.bool (z != 0)], hds.snoc (.bl _), by rw [List.length_append, hdl] <;> rfl⟩⟩⟩
      | false => exact iteF ⟨.int z, rfl, hY _ F4 H4 (Stp.refl st4.fh) ⟨ds ++ [.int z], hds.snoc (.int _), by rw [List.length_append, hdl] <;> rfl⟩⟩
    · obtain ⟨ds, hds, hdl⟩ := hp
      refine ⟨D2, acc, rfl, .inl ⟨.inl (.inl mu.at_), fun p hp => ?_⟩⟩
      have st5 := st4.trans (Stp.new (S := []) (o := .tup acc) st4.fh hp)
      refine q _ _ _ (s3.trans st5.up) ⟨⟨_, dp_tup st4.fh hp hds, fun es e => ?_⟩, d3.step0 st5⟩
      injection e with e
      rw [← e, hdl, hbl]
      omega
  rw [decide_eq_false h6]
  refine iteF ⟨.ref D, rfl, (show 1 ≤ sizeLine by decide), fun p1 hp1 => ⟨(show 1 ≤ sizeLine by decide), fun p2 hp2 => ⟨(show 1 ≤ sizeLine by decide), fun p3 hp3 => ?_⟩⟩⟩
  have n1 := Stp.new (S := []) (o := .tup [V.non]) s3.fh hp1
  have n2 := n1.trans (Stp.new (S := []) (o := .tup [V.int 0]) n1.fh hp2)
  have n3 := n2.trans (Stp.new (S := []) (o := .tup [V.ref p2]) n2.fh hp3)
  have g1 : Dp K _ (.ref p1) (.tuple [.none]) := dp_tup (xs := [V.non]) s3.fh hp1 (.cons .non .nil)
  have g2 : Dp K _ (.ref p2) (.tuple [.int 0]) := dp_tup (xs := [V.int 0]) n1.fh hp2 (.cons (.int 0) .nil)
  have g3 : Dp K _ (.ref p3) (.tuple [.tuple [.int 0]]) := dp_tup (xs := [V.ref p2]) n2.fh hp3 (.cons g2 .nil)
  have g13 := (g1.up (Stp.new (S := []) (o := .tup [V.int 0]) n1.fh hp2).ff).up (Stp.new (S := []) (o := .tup [V.ref p2]) n2.fh hp3).ff
  generalize upd (upd (upd F3 p1 (.tup [V.non])) p2 (.tup [V.int 0])) p3 (.tup [V.ref p2]) = F4 at n3 g3 g13
  generalize upd (upd (upd H3 p1 (.tup [V.non])) p2 (.tup [V.int 0])) p3 (.tup [V.ref p2]) = H4 at n3 ⊢
  refine ⟨vN m, rfl, _, rfl, RgOk.of_le (by omega) (by omega) (by omega) (by omega), fun p5 hp5 => ⟨p5, _, rfl, .inl ⟨.inl (.inl upd_same), fun p6 hp6 => ⟨(show 6 ≤ sizeLine by decide), fun p7 hp7 => ?_⟩⟩⟩⟩
  rw [rgV_nat] at hp6 hp7 ⊢
  have n5 := n3.trans (Stp.new (S := []) (o := .lst ((List.range m).map vN)) n3.fh hp5)
  have m5 := Stp.new (S := []) (o := .lst ((List.range m).map vN)) n3.fh hp5
  have m6 := Stp.new (S := []) (o := .tup ((List.range m).map vN)) n5.fh hp6
  have n6 := n5.trans m6
  have g6 : Dp K _ (.ref p6) (tN (List.range m)) := dp_tup n5.fh hp6 (all_nats _)
  have g36 := (g3.up m5.ff).up m6.ff
  have g16 := (g13.up m5.ff).up m6.ff
  generalize upd (upd F4 p5 (.lst ((List.range m).map vN))) p6 (.tup ((List.range m).map vN)) = F6 at n6 g6 g36 g16
  generalize upd (upd H4 p5 (.lst ((List.range m).map vN))) p6 (.tup ((List.range m).map vN)) = H6 at n6 hp7 ⊢
  have m7 := Stp.new (S := []) (o := .lst [V.non, .int 0, .str "", .ref p1, .ref p3, .ref p6]) n6.fh hp7
  have n7 := n6.trans m7
  have al : DpAll K F6 [V.non, .int 0, .str "", .ref p1, .ref p3, .ref p6] [.none, .int 0, .str "", .tuple [.none], .tuple [.tuple [.int 0]], tN (List.range m)] := .cons .non (.cons (.int 0) (.cons (.str "") (.cons g16 (.cons g36 (.cons g6 .nil)))))
  refine ⟨_, D, L, p7, [V.non, .int 0, .str "", .ref p1, .ref p3, .ref p6], rfl, n7.fh, d3.step0 n7, .inl (.inl upd_same), (show 1 ≤ 6 by decide), (show 6 ≤ 1000 by decide), fun r F8 H8 st8 hr => ?_⟩
  obtain ⟨hr, d8⟩ := hr
  obtain ⟨d, hd2, hdr⟩ := al.mem hr
  refine q r F8 H8 ((s3.trans n7.up).trans st8) ⟨⟨d, (hdr.up m7.ff).up st8.ff, fun ds e => ?_⟩, d8⟩
  rw [e] at hd2
  simp only [List.mem_cons, List.not_mem_nil, or_false] at hd2
  rcases hd2 with h | h | h | h | h | h
  · cases h
  · cases h
  · cases h
  · injection h with h
    rw [h]
    decide
  · injection h with h
    rw [h]
    decide
  · injection h with h
    rw [h, List.length_map, List.length_range]
    omega

end
end K11


set_option Elab.async false
set_option linter.all false
set_option maxRecDepth 100000
set_option maxHeartbeats 4000000
/-! _law_bad_row. -/
namespace K11
open PySem PySem.Spec PyProof.Rows L2
def spBad (K : PySem.W.Frag) : Sp := fun vs H Q _ => ∃ (F : Hp) (D L : Addr) (v : V) (w : List Nat) (c : Nat), vs = [.ref D, v, vN c] ∧ Same F H ∧ Deal F H D L ∧ Dp K F v (tN w) ∧ Word c w ∧ w.length ≤ 100 ∧ Back [D, L] F H Q fun r F' H' => (∃ (p : Addr) (bad : V) (k : Nat) (d : PyData), r = .ref p ∧ SqT K F' p [bad, vN k] ∧ Any K F' bad d ∧ RowBad c d k) ∧ Deal F' H' D L
section
variable {K : PySem.W.Frag} {F H : Hp}
theorem take_read {x : V} {w : List Nat} {k : Nat} {Q : VK} (h : Dp K F x (tN w)) (e : Same F H) (q : ∀ F' H' y, Stp [] F H F' H' → Dp K F' y (tN (w.take k)) → Q y H') : rSlA K x none (some (k : Int)) H Q := by
  obtain ⟨a, rfl, ha⟩ := h.tN_inv
  refine ⟨a, _, rfl, same_t e ha, fun z => ?_, fun _ p hp => ?_⟩
  · have z2 := z.2
    rw [HT.sIx_nat, List.length_map] at z2
    have e2 : w.take k = w := List.take_of_length_le (by omega)
    rw [e2] at q
    exact q F H _ (Stp.refl e) h
  · rw [cut_nat, ← List.map_take]
    exact q _ _ _ (Stp.new (o := .tup _) e hp) (.of_tN (.inl (.inl upd_same)))
theorem dp_tN_tZ {x : V} {w : List Nat} (h : Dp K F x (tN w)) : Dp K F x (tZ (w.map fun (k : Nat) => (k : Int))) := by
  have e : (w.map fun (k : Nat) => (k : Int)).map PyData.int = w.map nD := by rw [List.map_map] <;> rfl
  show Dp K F x (.tuple _)
  rw [e]
  exact h
end
section
variable {P : Program} {w : World} {K : PySem.W.Frag} {mg : Str → Option Value} {base : Heap}
theorem sc_law_bad_row : FnScope ["_law_deal", "_law_row_here", "_law_commands", "_law_at"] ["_law_deal", "_law_row_here", "_law_commands"] (defScope s_law_bad_row) := ⟨rfl, rfl, rfl, by decide +kernel, rfl, by decide +kernel, by decide +kernel⟩
theorem bn_law_bad_row : BindN d_law_bad_row ["_law_deal", "_law_row_here", "_law_commands"] := fun _ _ _ _ _ _ us hl => match us, hl with | [_, _, _], _ => rfl
theorem ok_law_bad_row (T : Top P w K mg base) : Cal P w K mg base d_law_bad_row "_law_bad_row" 3 ["_law_deal", "_law_row_here", "_law_commands"] (spBad K) := by
  refine T.cal 50 47 rfl rfl rfl rfl rfl sc_law_bad_row bn_law_bad_row (fun vs H Q E h => ?_) fun f cdv A outer s H vs Q E hr h => ?_
  · obtain ⟨_, _, _, _, _, _, rfl, _⟩ := h
    rfl
  have nd := (sc_law_bad_row).nd
  refine ⟨_, (pss_cons (ps_if (pt_cmpR op_eq (pe_cal (ok_law_any T) hr (by decide) (by rfl) (pa_cons (pv 0) (pa_cons pe_int pa_nil))) pe_int (nomark _))
      (pss_one (ps_ret (pe_tup (pa_cons (pe_cal (ok_law_of T) hr (by decide) (by rfl) (pa_cons (pv 0) (pa_cons (pe_lst (pa_cons pe_non (pa_cons pe_int (pa_cons pe_str (pa_cons pe_dnewK pa_nil))))) pa_nil))) (pa_cons pe_int pa_nil)))))
      pss_nil)
    (pss_cons (ps_set (i := 3) nd rfl (.inl rfl) (pe_cal (ok_law_any T) hr (by decide) (by rfl) (pa_cons (pv 0) (pa_cons (pe_op op_add (pe_callB cl_len (by rfl) T.n_len bt_len (pa_cons (pv 1) pa_nil)) pe_int) pa_nil))))
    (pss_one (ps_ret (pe_tup (pa_cons (pe_op op_cat (pe_op op_cat (pe_op op_cat (pe_callTy cl_lst (by rfl) T.n_list bt_list (pa_cons (pe_slice sl_tupA (pv 1) po_none (po_some (pv 3))) pa_nil)) (pe_lst (pa_cons (pe_cal (ok_law_of T) hr (by decide) (by rfl) (pa_cons (pv 0) (pa_cons (pe_lst (pa_cons (pv 2) (pa_cons (pe_un un_neg pe_int) (pa_cons pe_non (pa_cons pe_bl (pa_cons pe_str pa_nil)))))) pa_nil))) pa_nil))) (pe_callTy cl_lst (by rfl) T.n_list bt_list (pa_cons (pe_slice sl_tupA (pv 1) (po_some (pv 3)) po_none) pa_nil))) (pe_lst (pa_cons pe_non pa_nil))) (pa_cons (pv 3) pa_nil))))))), ?_⟩
  obtain ⟨F, D, L, v, w1, c, rfl, hF, hd, hv, hw, hwl, q⟩ := h
  refine ⟨.ref D, rfl, F, D, L, 4, rfl, hF, hd, by decide, by decide, fun r F1 H1 st1 hr => ?_⟩
  obtain ⟨⟨i4, rfl, _⟩, d1⟩ := hr
  refine ⟨rfl, _, rfl, ?_⟩
  cases decide (vN i4 = V.int 0) with
  | true =>
    refine iteT ⟨.ref D, rfl, fun pd hpd => ⟨(show 4 ≤ sizeLine by decide), fun p hp => ?_⟩⟩
    have n2 := Stp.new (S := []) (o := .dK []) st1.fh hpd
    have g2 : upd F1 pd (.dK []) pd = some (.dK []) := upd_same
    have d2 := d1.step0 n2
    have n3 := Stp.new (S := []) (o := .lst [V.non, .int 0, .str "0", .ref pd]) n2.fh hp
    refine ⟨_, D, L, p, [V.non, .int 0, .str "0", .ref pd], rfl, n3.fh, d2.step0 n3, .inl (.inl upd_same), (show 1 ≤ 4 by decide), (show 4 ≤ 1000 by decide), fun r F4 H4 st4 hr => ⟨two_le, fun p9 hp9 => ?_⟩⟩
    obtain ⟨hr, d4⟩ := hr
    have n9 := Stp.new (S := []) (o := .tup [r, .int 0]) st4.fh hp9
    refine q _ _ _ ((((st1.trans n2.up).trans n3.up).trans st4).trans n9.up) ⟨?_, d4.step0 n9⟩
    have g4 := n9.ff _ _ (st4.ff _ _ (n3.ff _ _ g2))
    simp only [List.mem_cons, List.not_mem_nil, or_false] at hr
    rcases hr with rfl | rfl | rfl | rfl
    · exact ⟨p9, _, 0, .none, rfl, .inl (.inl upd_same), .d .non, .inl ⟨rfl, rfl⟩⟩
    · exact ⟨p9, _, 0, .int 0, rfl, .inl (.inl upd_same), .d (.int 0), .inl ⟨rfl, rfl⟩⟩
    · exact ⟨p9, _, 0, .str "0", rfl, .inl (.inl upd_same), .d (.str "0"), .inl ⟨rfl, rfl⟩⟩
    · exact ⟨p9, _, 0, .dict [], rfl, .inl (.inl upd_same), .e g4, .inl ⟨rfl, rfl⟩⟩
  | false =>
    have hv1 := hv.up st1.ff
    obtain ⟨b, rfl, hb⟩ := hv1.tN_inv
    refine iteF ⟨.ref D, rfl, .ref b, rfl, b, _, rfl, .inr (same_t st1.fh hb), _, _, rfl, rfl, F1, D, L, (w1.map vN).length + 1, rfl, st1.fh, d1, by omega, by rw [List.length_map]; omega, fun r F2 H2 st2 hr => ?_⟩
    obtain ⟨⟨av, rfl, hav⟩, d2⟩ := hr
    rw [List.length_map] at hav
    have s2 := st1.trans st2
    have hv2 := hv1.up st2.ff
    refine ⟨.ref b, rfl, vN av, rfl, _, rfl, ?_⟩
    refine take_read hv2 s2.fh fun F3 H3 y3 st3 g3 => ?_
    obtain ⟨b3, rfl, hb3⟩ := g3.tN_inv
    refine ⟨b3, _, rfl, .inr (same_t st3.fh hb3), fun l4 hl4 => ⟨.ref D, rfl, vN c, rfl, 1, rfl, (show 5 ≤ sizeLine by decide), fun p5 hp5 => ?_⟩⟩
    have n4 := Stp.new (S := []) (o := .lst ((w1.take av).map vN)) st3.fh hl4
    have g4 : upd H3 l4 (.lst ((w1.take av).map vN)) l4 = some (.lst ((w1.take av).map vN)) := upd_same
    have n5 := Stp.new (S := []) (o := .lst [vN c, .int (-1), .non, .bl false, .str "0"]) n4.fh hp5
    have n345 := (st3.trans n4).trans n5
    refine ⟨_, D, L, p5, [vN c, .int (-1), .non, .bl false, .str "0"], rfl, n5.fh, d2.step0 n345, .inl (.inl upd_same), (show 1 ≤ 5 by decide), (show 5 ≤ 1000 by decide), fun r F6 H6 st6 hr => ⟨(show 1 ≤ sizeLine by decide), fun l7 hl7 => ?_⟩⟩
    obtain ⟨hr, d6⟩ := hr
    have hbad : ∃ d, Dp K F6 r d ∧ isIx d c = false := by
      simp only [List.mem_cons, List.not_mem_nil, or_false] at hr
      rcases hr with rfl | rfl | rfl | rfl | rfl
      · refine ⟨nD c, .int _, ?_⟩
        show (decide (0 ≤ (c : Int)) && decide ((c : Int) < (c : Int))) = false
        rw [decide_eq_false (Int.lt_irrefl _), Bool.and_false]
      · exact ⟨.int (-1), .int _, rfl⟩
      · exact ⟨.none, .non, rfl⟩
      · exact ⟨.bool false, .bl _, rfl⟩
      · exact ⟨.str "0", .str _, rfl⟩
    obtain ⟨dx, hdx, hix⟩ := hbad
    have s6 := (s2.trans n345.up).trans st6
    have e46 := n5.ff.trans st6.ff
    have gF4 : F6 l4 = some (.lst ((w1.take av).map vN)) := e46 _ _ upd_same
    have hv6 := ((hv2.up st3.ff).up n4.ff).up e46
    clear n345 n5 n4 st6 g4 hb3 g3 st3 hp5 hl4
    have n7 := Stp.new (S := []) (o := .lst [r]) s6.fh hl7
    have gF4' := n7.ff _ _ gF4
    refine ⟨l4, l7, _, _, rfl, rfl, n7.fh _ _ gF4', upd_same, by rw [List.length_map, List.length_take, sizeLine_eq]; show _ + 1 ≤ _; omega, fun l8 hl8 => ?_⟩
    have n8 := n7.trans (Stp.new (S := []) (o := .lst ((w1.take av).map vN ++ [r])) n7.fh hl8)
    have gF8 : upd (upd F6 l7 (.lst [r])) l8 (.lst ((w1.take av).map vN ++ [r])) l8 = some (.lst ((w1.take av).map vN ++ [r])) := upd_same
    generalize upd (upd F6 l7 (.lst [r])) l8 (.lst ((w1.take av).map vN ++ [r])) = F8 at n8 gF8
    generalize upd (upd H6 l7 (.lst [r])) l8 (.lst ((w1.take av).map vN ++ [r])) = H8 at n8 ⊢
    refine ⟨.ref b, rfl, vN av, rfl, _, rfl, ?_⟩
    unfold tNoPart
    refine slice_read (dp_tN_tZ (hv6.up n8.ff)) n8.fh fun F9 H9 y9 ns9 st9 g9 hl9 => ?_
    rw [List.length_map] at hl9
    obtain ⟨b9, rfl, hb9⟩ := tZ_inv g9
    refine ⟨b9, _, rfl, .inr (same_t st9.fh hb9), fun l10 hl10 => ?_⟩
    have m10 := Stp.new (S := []) (o := .lst (ns9.map V.int)) st9.fh hl10
    have n10 := (n8.trans st9).trans m10
    have gF8' := m10.ff _ _ (st9.ff _ _ gF8)
    refine ⟨l8, l10, _, _, rfl, rfl, n10.fh _ _ gF8', upd_same, by rw [List.length_append, List.length_map, List.length_take, List.length_map, sizeLine_eq]; show _ + 1 + _ ≤ _; omega, fun l11 hl11 => ⟨(show 1 ≤ sizeLine by decide), fun l12 hl12 => ?_⟩⟩
    have n11 := n10.trans (Stp.new (S := []) (o := .lst ((w1.take av).map vN ++ [r] ++ ns9.map V.int)) n10.fh hl11)
    have gF11 : upd (upd F9 l10 (.lst (ns9.map V.int))) l11 (.lst ((w1.take av).map vN ++ [r] ++ ns9.map V.int)) l11 = some (.lst ((w1.take av).map vN ++ [r] ++ ns9.map V.int)) := upd_same
    generalize upd (upd F9 l10 (.lst (ns9.map V.int))) l11 (.lst ((w1.take av).map vN ++ [r] ++ ns9.map V.int)) = F11 at n11 gF11
    generalize upd (upd H9 l10 (.lst (ns9.map V.int))) l11 (.lst ((w1.take av).map vN ++ [r] ++ ns9.map V.int)) = H11 at n11 hl12 ⊢
    have m12 := Stp.new (S := []) (o := .lst [V.non]) n11.fh hl12
    have n12 := n11.trans m12
    refine ⟨l11, l12, _, _, rfl, rfl, n12.fh _ _ (m12.ff _ _ gF11), upd_same, by rw [List.length_append, List.length_append, List.length_map, List.length_take, List.length_map, sizeLine_eq]; show _ + 1 + _ + 1 ≤ _; omega, fun l13 hl13 => ⟨vN av, rfl, two_le, fun p14 hp14 => ?_⟩⟩
    have hall : DpAll K F6 ((w1.take av).map vN ++ [r] ++ ns9.map V.int ++ [V.non]) ((w1.take av).map nD ++ [dx] ++ ns9.map .int ++ [.none]) := (((all_nats _).snoc hdx).app (all_ints ns9)).snoc .non
    have m13 := Stp.new (S := []) (o := .lst ((w1.take av).map vN ++ [r] ++ ns9.map V.int ++ [V.non])) n12.fh hl13
    have n13 := n12.trans m13
    have g13 : Dp K _ (.ref l13) (.list ((w1.take av).map nD ++ [dx] ++ ns9.map .int ++ [.none])) := dp_lst n12.fh hl13 (hall.up n12.ff)
    have m14 := Stp.new (S := []) (o := .tup [V.ref l13, vN av]) n13.fh hp14
    refine q _ _ _ ((s6.trans n13.up).trans m14.up) ⟨⟨p14, .ref l13, av, _, rfl, .inl (.inl upd_same), .d (g13.up m14.ff), .inr ⟨_, .inl rfl, ⟨dx, ?_, hix⟩, fun j x hj hx => ?_⟩⟩, d6.step0 (n13.trans m14)⟩
    · have hl0 : ((w1.take av).map nD).length = av := by rw [List.length_map, List.length_take]; omega
      rw [List.append_assoc, List.append_assoc, List.getElem?_append_right (by omega), hl0, Nat.sub_self] <;> rfl
    · have hl0 : ((w1.take av).map nD).length = av := by rw [List.length_map, List.length_take]; omega
      rw [List.append_assoc, List.append_assoc, List.getElem?_append_left (by omega), List.getElem?_map] at hx
      cases ht : (w1.take av)[j]? with
      | none =>
        rw [ht] at hx
        cases hx
      | some t =>
        rw [ht] at hx
        cases hx
        exact isIx_nD (hw t (List.mem_of_mem_take (List.mem_of_getElem? ht)))

end
end K11


set_option Elab.async false
set_option linter.all false
set_option maxRecDepth 100000
set_option maxHeartbeats 4000000
/-! f(k = v, ..), every parameter by its name and in the reverse order; _law_asked. -/
namespace K11
open PySem PySem.Spec PyProof.Rows L2
theorem vals_rev {vs : List V} {us : List Value} (r : Vals vs us) : Vals vs.reverse us.reverse := by
  induction r with
  | nil => exact .nil
  | cons a _ ih =>
    rw [List.reverse_cons, List.reverse_cons]
    exact ih.append (.cons a .nil)
theorem kbn_rev {K : PySem.W.Frag} {x qual : Str} {params : Arguments} {body : List Stmt} {scope : Scope} {f : Addr} {fd : FuncData} {ps ks : List Str} (F : FunD K x qual params body scope [] [] f fd)
    (h : ∀ (kV doc pm : Value) (an : Option Addr) (cdv ct : Value) (ws : List Value), ws.length = ks.length → bindArgs (PySem.W.fnOf x qual params body scope .none kV doc pm an cdv ct) ⟨[], ks.zip ws⟩ = pure (ps.zip ws.reverse)) : KBn K fd ps 0 ks (fun _ ws => ws.reverse) (fun _ zs => zs.reverse) := by
  obtain ⟨oc, od, dV, kV, doc, pm, an, cdv, ct, osl, rfl, lk, hcd, hD, hK⟩ := F.ex
  rcases hD with ⟨_, rfl⟩ | ⟨e, _⟩
  · refine ⟨fun s us ws X l1 l2 => ?_, fun _ r => vals_rev r⟩
    have e : us = [] := List.length_eq_zero_iff.mp l1
    rw [e]
    exact .of_eq (h kV doc pm an cdv ct ws l2)
  · exact absurd rfl e
/-- f(k = v, ..), what it raises by the slots -/
def tCallR (m : Nat) (sp : Sp) (E : L2.St → XK) (tk : TA) : TE := fun σ H Q => tk σ H fun zs H2 => zs.length = m ∧ sp zs.reverse H2 Q (E σ)
section
variable {X : Cx} {d : He.DefD} {x : Str} {j k : Nat} {ps ks : List Str} {sp : Sp} {E : L2.St → XK} {p pos : Pos} {kws : List Keyword} {tk : TA}
theorem pe_callR (C : Cal X.prog X.w X.K X.mg X.base d x k ps sp) (hb : ∀ (kV doc pm : Value) (an : Option Addr) (cdv ct : Value) (ws : List Value), ws.length = ks.length → bindArgs (PySem.W.fnOf d.name d.qual d.params d.body d.scope .none kV doc pm an cdv ct) ⟨[], ks.zip ws⟩ = pure (ps.zip ws.reverse))
    (hr : Room j X.A) (hk : k ≤ j) (hx : ∀ σ, PassesAt (L2.CX X.prog X.w) X σ (E σ)) (hg : Gl X x) (hkw : PK X kws tk)
    (hall : (backToKw pos (keywordEach kws X.env)).all (·.1.isSome) = true := by rfl) (hks : (backToKw pos (keywordEach kws X.env)).filterMap (·.1) = ks := by rfl) (hdb : (x == ("__debug__" : Str)) = false := by decide)
    (hpl : ((backTo pos (starEach [] X.env)).any (·.1) || (backToKw pos (keywordEach kws X.env)).any (·.1.isNone)) = false := by rfl) :
    PE X (.Call (.Name x p) [] kws pos) (tCallR ks.length sp E tk) := by
  obtain ⟨⟨fd, F, G, _⟩, hm⟩ := C
  have KB := kbn_rev F hb
  refine ⟨fun pins s σ H Q I h => ?_⟩
  refine wpAny_Call_Name_kw (ld_glob I hg hm ?_ hdb)
  refine PySem.W.callWith_KW0 (h₀ := X.base) I.ok.mod.kin F.kp hall ?_ hpl
  refine thn (hkw.run pos pins s σ H _ I h) fun ws s2 ⟨zs, H2, I2, rz, l2, q2⟩ => ⟨I2.kIn, ?_⟩
  rw [hks]
  have r2 : Vals zs.reverse ws.reverse := vals_rev rz
  refine wpAny_call (codeAny_mono (G.run X.A X.stack s2 H2 ⟨[], ks.zip ws⟩ ws.reverse zs.reverse Q (E σ) (hr.mono hk) I2.env0 (KB.to s2 [] ws I2.kIn rfl (rz.length.symm.trans l2)) r2 q2) fun r s' hq => ?_)
  cases r with
  | error e => exact hx σ pins H2 s2 e s' I2 hq
  | ok fl =>
    cases fl with
    | ret u => exact I2.after hq
    | next => exact False.elim hq
    | brk => exact False.elim hq
    | cont => exact False.elim hq
end
/-- the answers: the row is wrong, the machine is blind, or R -/
def Told (K : PySem.W.Frag) (w : World) (F H : Hp) (c : Nat) (δ : List (List Nat)) (d0 : Addr) (d : PyData) (Q : VK) (R : List Nat → V → Hp → Prop) : Prop :=
  (BlindM δ c → Back [d0, tabA K] F H Q fun r F' H' => (∃ p, r = .ref p ∧ SqT K F' p [.str "blind", vN 0]) ∧ Sta K w F' H' c δ d0) ∧
  (¬ BlindM δ c → (∀ w1, RowOk c d w1 → Back [d0, tabA K] F H Q fun r F' H' => R w1 r F' ∧ Sta K w F' H' c δ d0) ∧ ∀ k, RowBad c d k → Back [d0, tabA K] F H Q fun r F' H' => (∃ p, r = .ref p ∧ SqT K F' p [.str "row", vN k]) ∧ Sta K w F' H' c δ d0)
def spAsk (K : PySem.W.Frag) (w : World) : Sp := fun vs H Q _ => ∃ (F : Hp) (fm : Int) (m v v2 : V) (c n : Nat) (δ : List (List Nat)) (d0 : Addr) (d d2 : PyData), vs = [.int fm, m, v, v2] ∧ Same F H ∧ Mach K F m c n δ d0 ∧ Sta K w F H c δ d0 ∧ Any K F v d ∧ (∀ w1, RowOk c d w1 → w1.length ≤ 1000) ∧ Any K F v2 d2 ∧ Sho d2 ∧
  Told K w F H c δ d0 d Q fun w1 r F' => (fm = 0 → Dp K F' r (tN (keptM δ w1))) ∧ (fm ≠ 0 → ∃ b, r = .bl b ∧ ∀ g, GreatW δ c g → (b = true ↔ Enough δ n w1 g d2))
section
variable {P : Program} {w : World} {K : PySem.W.Frag} {mg : Str → Option Value} {base : Heap}
theorem bk_kept : ∀ (kV doc pm : Value) (an : Option Addr) (cdv ct : Value) (ws : List Value), ws.length = (["row", "machine"] : List Str).length → bindArgs (PySem.W.fnOf d_kept_commands.name d_kept_commands.qual d_kept_commands.params d_kept_commands.body d_kept_commands.scope .none kV doc pm an cdv ct) ⟨[], (["row", "machine"] : List Str).zip ws⟩ = pure ((["machine", "row"] : List Str).zip ws.reverse) := fun _ _ _ _ _ _ ws hl => match ws, hl with
  | [_, _], _ => rfl
theorem bk_enough : ∀ (kV doc pm : Value) (an : Option Addr) (cdv ct : Value) (ws : List Value), ws.length = (["value", "row", "machine"] : List Str).length → bindArgs (PySem.W.fnOf d_is_enough.name d_is_enough.qual d_is_enough.params d_is_enough.body d_is_enough.scope .none kV doc pm an cdv ct) ⟨[], (["value", "row", "machine"] : List Str).zip ws⟩ = pure ((["machine", "row", "value"] : List Str).zip ws.reverse) := fun _ _ _ _ _ _ ws hl => match ws, hl with
  | [_, _, _], _ => rfl
theorem bk_part : ∀ (kV doc pm : Value) (an : Option Addr) (cdv ct : Value) (ws : List Value), ws.length = (["other", "one"] : List Str).length → bindArgs (PySem.W.fnOf d_is_part.name d_is_part.qual d_is_part.params d_is_part.body d_is_part.scope .none kV doc pm an cdv ct) ⟨[], (["other", "one"] : List Str).zip ws⟩ = pure ((["one", "other"] : List Str).zip ws.reverse) := fun _ _ _ _ _ _ ws hl => match ws, hl with
  | [_, _], _ => rfl

theorem sc_law_asked : FnScope ["_law_form", "_law_machine_here", "_law_row_here", "_law_value", "wrong"] ["_law_form", "_law_machine_here", "_law_row_here", "_law_value"] (defScope s_law_asked) := ⟨rfl, rfl, rfl, by decide +kernel, rfl, by decide +kernel, by decide +kernel⟩
theorem bn_law_asked : BindN d_law_asked ["_law_form", "_law_machine_here", "_law_row_here", "_law_value"] := fun _ _ _ _ _ _ us hl => match us, hl with | [_, _, _, _], _ => rfl
theorem ok_law_asked (T : Top P w K mg base) : Cal P w K mg base d_law_asked "_law_asked" 26 ["_law_form", "_law_machine_here", "_law_row_here", "_law_value"] (spAsk K w) := by
  refine T.cal 53 50 rfl rfl rfl rfl rfl sc_law_asked bn_law_asked (fun vs H Q E h => ?_) fun f cdv A outer s H vs Q E hr h => ?_
  · obtain ⟨_, _, _, _, _, _, _, _, _, _, _, rfl, _⟩ := h
    rfl
  have nd := (sc_law_asked).nd
  refine ⟨_, (pss_one (ps_try_all (i := 4) rfl rfl nd rfl rfl (takes_of rfl rfl rfl rfl) (fun W pn xe tkW pO => (pss_cons (ps_if (pt_cmpR op_eq (pv 0) pe_int (nomark _)) (pss_one (ps_ret (pe_callR (E := WE W) (ok_kept_commands T) bk_kept hr (by decide) (fun σ => passAt tkW σ) (by rfl) (pk_cons (pv 2) (pk_cons (pv 1) pk_nil))))) pss_nil) (pss_one (ps_ret (pe_callR (E := WE W) (ok_is_enough T) bk_enough hr (by decide) (fun σ => passAt tkW σ) (by rfl) (pk_cons (pv 3) (pk_cons (pv 2) (pk_cons (pv 1) pk_nil))))))))
    (Clauses.cons (p := (.ref (He.ga K "Blind"), _)) ⟨by rfl, by decide, .inl T.g_Blind⟩ (fun a oe cls d pn hz hf => pss_one (ps_ret (pe_tup (pa_cons pe_str (pa_cons (pe_xf (T.err_Blind).xf (T.err_Blind).no hz hf (pv 4)) pa_nil)))))
      (Clauses.cons (p := (.ref (He.ga K "InvalidRow"), _)) ⟨by rfl, by decide, .inl T.g_InvalidRow⟩ (fun a oe cls d pn hz hf => pss_one (ps_ret (pe_tup (pa_cons pe_str (pa_cons (pe_xf (T.err_InvalidRow).xf (T.err_InvalidRow).no hz hf (pv 4)) pa_nil))))) Clauses.nil)))), ?_⟩
  obtain ⟨F, fm, m, v, v2, c, n, δ, d0, d, d2, rfl, hF, M, N, hv, hwl, hv2, hs2, qb, qn⟩ := h
  refine ⟨.int fm, rfl, rfl, _, rfl, ?_⟩
  rw [int_dec]
  by_cases h0 : fm = 0
  · rw [decide_eq_true h0]
    refine iteT ⟨v, rfl, m, rfl, rfl, F, m, v, c, n, δ, d0, d, rfl, hF, M, N, hv, hwl, fun hb dx F' H' st hx N' => ?_, fun hb => ⟨fun w1 hw r F' H' st hr => ?_, fun k hk dx F' H' st hx N' => ?_⟩⟩
    · refine ⟨true, T.x_Blind_Blind, fun _ a ha => ?_, fun z => (by cases z)⟩
      refine ⟨.ref a, rfl, rfl, rfl, dx, _, vN 0, rfl, st.fh _ _ hx, rfl, two_le, fun p hp => ?_⟩
      exact qb hb _ _ _ (st.trans (Stp.up (Stp.new (o := .tup [.str "blind", vN 0]) st.fh hp))) ⟨⟨p, rfl, .inl (.inl upd_same)⟩, N'.step0 (Stp.new (o := .tup [.str "blind", vN 0]) st.fh hp)⟩
    · exact (qn hb).1 w1 hw r F' H' st ⟨⟨fun _ => hr.1, fun z => absurd h0 z⟩, hr.2⟩
    · refine ⟨false, T.x_InvalidRow_Blind, fun z => (by cases z), fun _ => ⟨true, T.x_InvalidRow_InvalidRow, fun _ a ha => ?_, fun z => (by cases z)⟩⟩
      refine ⟨.ref a, rfl, rfl, rfl, dx, _, vN k, rfl, st.fh _ _ hx, rfl, two_le, fun p hp => ?_⟩
      exact (qn hb).2 k hk _ _ _ (st.trans (Stp.up (Stp.new (o := .tup [.str "row", vN k]) st.fh hp))) ⟨⟨p, rfl, .inl (.inl upd_same)⟩, N'.step0 (Stp.new (o := .tup [.str "row", vN k]) st.fh hp)⟩
  · rw [decide_eq_false h0]
    refine iteF ⟨v2, rfl, v, rfl, m, rfl, rfl, F, m, v, v2, c, n, δ, d0, d, d2, rfl, hF, M, N, hv, hwl, hv2, hs2, fun hb dx F' H' st hx N' => ?_, fun hb => ⟨fun w1 hw r F' H' st hr => ?_, fun k hk dx F' H' st hx N' => ?_⟩⟩
    · refine ⟨true, T.x_Blind_Blind, fun _ a ha => ?_, fun z => (by cases z)⟩
      refine ⟨.ref a, rfl, rfl, rfl, dx, _, vN 0, rfl, st.fh _ _ hx, rfl, two_le, fun p hp => ?_⟩
      exact qb hb _ _ _ (st.trans (Stp.up (Stp.new (o := .tup [.str "blind", vN 0]) st.fh hp))) ⟨⟨p, rfl, .inl (.inl upd_same)⟩, N'.step0 (Stp.new (o := .tup [.str "blind", vN 0]) st.fh hp)⟩
    · exact (qn hb).1 w1 hw r F' H' st ⟨⟨fun z => absurd z h0, fun _ => hr.1⟩, hr.2⟩
    · refine ⟨false, T.x_InvalidRow_Blind, fun z => (by cases z), fun _ => ⟨true, T.x_InvalidRow_InvalidRow, fun _ a ha => ?_, fun z => (by cases z)⟩⟩
      refine ⟨.ref a, rfl, rfl, rfl, dx, _, vN k, rfl, st.fh _ _ hx, rfl, two_le, fun p hp => ?_⟩
      exact (qn hb).2 k hk _ _ _ (st.trans (Stp.up (Stp.new (o := .tup [.str "row", vN k]) st.fh hp))) ⟨⟨p, rfl, .inl (.inl upd_same)⟩, N'.step0 (Stp.new (o := .tup [.str "row", vN k]) st.fh hp)⟩
end
end K11


set_option Elab.async false
set_option linter.all false
set_option maxRecDepth 100000
set_option maxHeartbeats 4000000
/-! repr of what the law asks; a machine's torn kernels. -/
namespace K11
open PySem PySem.Spec PyProof.Rows L2
section
theorem showAll_nD : ∀ {ks : List Nat}, (∀ k ∈ ks, k < 1000) → PyData.showableAll (ks.map nD) = true
  | [], _ => by simp [PyData.showableAll]
  | k :: ks, h => by
    have h1 := h k List.mem_cons_self
    have h2 := showAll_nD fun x hx => h x (List.mem_cons_of_mem _ hx)
    have h3 : Nat.log2 k ≤ k := Nat.log2_le_self k
    simp only [List.map_cons, PyData.showableAll, h2, Bool.and_true, PyData.showable]
    exact decide_eq_true (by show Nat.log2 k < 1920; omega)
theorem shownAll_map : ∀ ds : List PyData, PyData.shownAll ds = ds.map PyData.shown
  | [] => by simp [PyData.shownAll]
  | d :: ds => by simp [PyData.shownAll, shownAll_map ds]
theorem sum_le {B : Nat} : ∀ {l : List Nat}, (∀ x ∈ l, x ≤ B) → l.sum ≤ B * l.length
  | [], _ => by simp
  | x :: l, h => by
    have h1 := h x List.mem_cons_self
    have h2 := sum_le fun y hy => h y (List.mem_cons_of_mem _ hy)
    rw [List.sum_cons, List.length_cons, Nat.mul_add]
    omega
theorem shown_tN {ks : List Nat} (h : ∀ k ∈ ks, k < 1000) (hl : ks.length ≤ 100) : (tN ks).shown.length ≤ sizeLine := by
  have e : (tN ks).shown = tupleText (PyData.shownAll (ks.map nD)) := by simp only [PyData.shown]
  rw [e]
  have z := tupleText_len_le (PyData.shownAll (ks.map nD))
  have hlen : (PyData.shownAll (ks.map nD)).length = ks.length := by rw [shownAll_map, List.length_map, List.length_map]
  have z2 := sum_le (B := 13) (l := (PyData.shownAll (ks.map nD)).map (·.length)) fun x hx => by
    rw [shownAll_map] at hx
    obtain ⟨t, ht, rfl⟩ := List.mem_map.mp hx
    obtain ⟨d, hd, rfl⟩ := List.mem_map.mp ht
    obtain ⟨k, hk, rfl⟩ := List.mem_map.mp hd
    have q := h k hk
    exact PyData.shown_int_le (by show k < 10 ^ 12; omega)
  rw [List.length_map] at z2
  rw [hlen] at z z2
  rw [sizeLine_eq]
  omega
variable {K : PySem.W.Frag} {H : Hp} {x : V} {Q : VK}
theorem rep_tN {ks : List Nat} (hd : Dp K H x (tN ks)) (h : ∀ k ∈ ks, k < 1000) (hl : ks.length ≤ 100) (q : Q (.str (tN ks).shown) H) : rRepr K [x] H Q :=
  ⟨x, tN ks, rfl, hd, .inr ⟨rfl, by simpa [PyData.showable] using showAll_nD h, PyData.hasDict_of_canLay _ (lay_seq (lay_nD ks)).1, Nat.le_trans (dep_seq (dep_nD ks)).1 (by decide), shown_tN h hl⟩, q⟩
theorem rep_bl {b : Bool} (q : Q (.str (PyData.bool b).shown) H) : rRepr K [.bl b] H Q := ⟨.bl b, .bool b, rfl, .bl b, .inl ⟨b, rfl⟩, q⟩
theorem shown_true : (PyData.bool true).shown = ("True" : Str) := by simp only [PyData.shown]; rfl
end
section
variable {c n : Nat} {δ : List (List Nat)} {L : List (List Nat)}
theorem allK_kers (W : WF c n δ) (h : AllK δ c L) : Kers n L := fun κ hκ => by
  obtain ⟨w, _, rfl⟩ := h.1 κ hκ
  exact ⟨ker_len W w, ker_lt W w⟩
theorem ker_getD (W : WF c n δ) (w : List Nat) {s : Nat} (h : s < n) : (kerM δ w).getD s 0 = rep δ w s := by
  rw [List.getD_eq_getElem?_getD, ker_at W w h] <;> rfl
theorem torn_iff (W : WF c n δ) (h : AllK δ c L) : Torn c n δ L ↔ BlindM δ c := by
  rw [blind_iff W]
  constructor
  · rintro ⟨κ, hκ, s, x, hs, hx, hne⟩
    obtain ⟨w, hw, rfl⟩ := h.1 κ hκ
    obtain ⟨_, _, _, h1⟩ := W.dl_at hs hx
    have hr : rep δ w s < n := Nat.lt_of_le_of_lt (rep_le W w hs).1 hs
    obtain ⟨_, _, _, h2⟩ := W.dl_at hr hx
    rw [ker_getD W w h1, ker_getD W w hs, ker_getD W w h2] at hne
    exact ⟨w, s, x, hw, hs, hx, hne⟩
  · rintro ⟨w, s, x, hw, hs, hx, hne⟩
    obtain ⟨_, _, _, h1⟩ := W.dl_at hs hx
    have hr : rep δ w s < n := Nat.lt_of_le_of_lt (rep_le W w hs).1 hs
    obtain ⟨_, _, _, h2⟩ := W.dl_at hr hx
    refine ⟨kerM δ w, h.2 w hw, s, x, hs, hx, ?_⟩
    rw [ker_getD W w h1, ker_getD W w hs, ker_getD W w h2]
    exact hne
theorem cnt_cls (W : WF c n δ) (w : List Nat) {k : Nat} (h : Cnt (kerM δ w) k) : k = cls n δ w := by
  obtain ⟨m, h1, h2, rfl⟩ := h
  exact cls_set W w h1 h2
theorem undup : ∀ l : List Int, ∃ m : List Int, m.Nodup ∧ ∀ x, x ∈ m ↔ x ∈ l
  | [] => ⟨[], List.nodup_nil, fun _ => Iff.rfl⟩
  | y :: l => by
    obtain ⟨m, h1, h2⟩ := undup l
    by_cases h : y ∈ m
    · refine ⟨m, h1, fun x => ?_⟩
      rw [List.mem_cons, h2]
      refine ⟨.inr, fun z => z.elim (fun e => by rw [e, ← h2]; exact h) id⟩
    · refine ⟨y :: m, List.nodup_cons.mpr ⟨h, h1⟩, fun x => ?_⟩
      rw [List.mem_cons, List.mem_cons, h2]
theorem cnt_ex (κ : List Nat) : ∃ k, Cnt κ k := by
  obtain ⟨m, h1, h2⟩ := undup (κ.map fun (x : Nat) => (x : Int))
  exact ⟨_, m, h1, h2, rfl⟩
/-- the law's fewest classes are any greatest kernel's -/
theorem least_great (W : WF c n δ) (h : AllK δ c L) {k : Nat} (h1 : ∃ κ ∈ L, Cnt κ k) (h2 : ∀ κ ∈ L, ∀ j, Cnt κ j → k ≤ j) {g : List Nat} (G : GreatW δ c g) : k = cls n δ g := by
  obtain ⟨κ, hκ, hc⟩ := h1
  obtain ⟨w, hw, rfl⟩ := h.1 κ hκ
  have e := cnt_cls W w hc
  obtain ⟨j, hj⟩ := cnt_ex (kerM δ g)
  have z := h2 _ (h.2 g G.1) j hj
  rw [cnt_cls W g hj] at z
  have z2 := cls_le W (great_coarse W G hw)
  omega
theorem least_ge (W : WF c n δ) (h : AllK δ c L) {k : Nat} (h2 : ∀ κ ∈ L, ∀ j, Cnt κ j → k ≤ j) {w : List Nat} (hw : Word c w) : k ≤ cls n δ w := by
  obtain ⟨j, hj⟩ := cnt_ex (kerM δ w)
  have z := h2 _ (h.2 w hw) j hj
  rwa [cnt_cls W w hj] at z
end
end K11

set_option Elab.async false
set_option linter.all false
set_option maxRecDepth 100000
set_option maxHeartbeats 4000000
/-! How the law stands between its statements. -/
namespace K11
open PySem PySem.Spec PyProof.Rows L2
abbrev lawN : List Str := ["_law_script", "_law_deal", "_law_commands", "_law_steps", "_law_machine_here", "_law_due", "_law_many", "_law_row_here", "_law_bad", "_law_at", "_law_asked_here", "_law_k", "_law_behind_here", "_law_few", "_law_places_here", "_law_given", "_law_turn", "_law_value", "_law_right", "_law_longer", "_law_led_here", "_law_state", "_law_some", "_law_one", "_law_other"]
abbrev LX (P : Program) (w : World) (K : PySem.W.Frag) (mg : Str → Option Value) (base : Heap) (f : Addr) (cdv : Value) (s : Shared) (H : Hp) : Cx := cxOf C8.CX0 P w K mg base lawN d_law.qual d_law.scope f cdv callerA [] s H C8.E0
abbrev LR (f : Addr) (cdv : Value) (s : Shared) : Prop := Room 30 (callerA.deeper (envOfC d_law.qual d_law.scope s.heap.objs.size f cdv))
/-- the law says True -/
abbrev lawD : Ends := { nx := fun _ H' => (fun (v : V) (_ : Hp) => v = .bl true) .non H', rt := fun v _ => v = .bl true }
/-- what is frozen and known -/
structure LF (K : PySem.W.Frag) (F : Hp) (m : V) (c n : Nat) (δ : List (List Nat)) (d : Addr) (sv rv : V) (w1 : List Nat) : Prop where
  mch : Mach K F m c n δ d
  stp : StD K F sv δ
  row : Dp K F rv (tN w1)
  wd : Word c w1
  wl : w1.length ≤ 14
  nb : ¬ BlindM δ c
theorem LF.up {K : PySem.W.Frag} {F F1 : Hp} {m : V} {c n : Nat} {δ : List (List Nat)} {d : Addr} {sv rv : V} {w1 : List Nat} (l : LF K F m c n δ d sv rv w1) (e : Same F F1) : LF K F1 m c n δ d sv rv w1 := ⟨l.mch.up e, l.stp.up e, l.row.up e, l.wd, l.wl, l.nb⟩
/-- what may change -/
structure LM (K : PySem.W.Frag) (w : World) (F H : Hp) (D L : Addr) (c : Nat) (δ : List (List Nat)) (d : Addr) : Prop where
  fh : Same F H
  dl : Deal F H D L
  sta : Sta K w F H c δ d
section
variable {K : PySem.W.Frag} {w : World} {F H F1 H1 : Hp} {D L : Addr} {c : Nat} {δ : List (List Nat)} {d d2 : Addr}
theorem Deal.lstD (h : Deal F H D L) : ∀ a ∈ [D, L], ∃ xs, H a = some (.lst xs) := fun a ha => by
  obtain ⟨ns, b, h⟩ := h
  cases ha with
  | head => exact ⟨_, h.d.at_⟩
  | tail _ ha =>
    rw [List.mem_singleton.mp ha]
    exact ⟨_, h.l.at_⟩
theorem LM.offD (m : LM K w F H D L c δ d) : ∀ a ∈ [D, L], a ∉ [d, tabA K] := fun a ha hb => by
  obtain ⟨xs, hx⟩ := m.dl.lstD a ha
  cases hb with
  | head =>
    obtain ⟨ys, mu, _⟩ := m.sta.f.ex
    rw [mu.at_] at hx
    cases hx
  | tail _ hb =>
    rw [List.mem_singleton.mp hb] at hx
    obtain ⟨⟨ps, h1, _⟩, _⟩ := m.sta.t
    rw [h1] at hx
    cases hx
theorem LM.step0 (m : LM K w F H D L c δ d) (s : Stp [] F H F1 H1) : LM K w F1 H1 D L c δ d := ⟨s.fh, m.dl.step0 s, m.sta.step0 s⟩
theorem LM.stepDT (m : LM K w F H D L c δ d) (s : Stp [d, tabA K] F H F1 H1) (t : Sta K w F1 H1 c δ d) : LM K w F1 H1 D L c δ d := ⟨s.fh, m.dl.step s (m.offD D DealAt.inD) (m.offD L DealAt.inL), t⟩
theorem LM.stepDL (m : LM K w F H D L c δ d) (s : Stp [D, L] F H F1 H1) (dl : Deal F1 H1 D L) : LM K w F1 H1 D L c δ d := by
  have h1 : d ∉ [D, L] := fun z => m.offD d z List.mem_cons_self
  have h2 : tabA K ∉ [D, L] := fun z => m.offD _ z (List.mem_cons_of_mem _ List.mem_cons_self)
  refine ⟨s.fh, dl, m.sta.f.step s h1, m.sta.t.stp s h2 fun a ha q e => ?_⟩
  obtain ⟨xs, hx⟩ := m.dl.lstD a ha
  rw [hx] at e
  cases e
theorem LM.newL (m : LM K w F H D L c δ d) {p : Addr} {o : HO} (hp : H p = none) : LM K w F (upd H p o) D L c δ d := m.step0 (Stp.newM m.fh hp)
/-- an own list is written -/
theorem LM.wrote (m : LM K w F H D L c δ d) {p : Addr} {xs ys : List V} (mu : Mu F H p (.lst xs)) (h1 : D ≠ p) (h2 : L ≠ p) : LM K w F (upd H p (.lst ys)) D L c δ d := by
  refine ⟨fun x u z => ?_, m.dl.upd h1 h2, m.sta.lstU (.inr ⟨xs, mu.at_⟩)⟩
  rw [upd_ne (ne_of_none z mu.fr)]
  exact m.fh x u z
/-- an own list is frozen -/
theorem LM.frz (m : LM K w F H D L c δ d) {p : Addr} {xs : List V} (mu : Mu F H p (.lst xs)) (h1 : D ≠ p) (h2 : L ≠ p) : LM K w (upd F p (.lst xs)) H D L c δ d ∧ Same F (upd F p (.lst xs)) := by
  have e : Same F (upd F p (.lst xs)) := fun x u z => by
    rw [upd_ne (ne_of_none z mu.fr)]
    exact z
  have fh : Same (upd F p (.lst xs)) H := fun x u z => by
    by_cases hx : x = p
    · rw [hx, upd_same] at z
      rw [hx, ← z]
      exact mu.at_
    · rw [upd_ne hx] at z
      exact m.fh x u z
  obtain ⟨ys, md, k, nd⟩ := m.sta.f.ex
  have hd : d ≠ p := fun z => by
    have q := md.at_
    rw [z, mu.at_] at q
    cases q
  obtain ⟨⟨ps, t1, t2⟩, t3⟩ := m.sta.t
  have ht : tabA K ≠ p := fun z => by
    rw [z, mu.at_] at t1
    cases t1
  refine ⟨⟨fh, m.dl.frz h1 h2, ⟨⟨ys, md.frzO hd, fun q hq => ?_, nd⟩⟩, ⟨⟨ps, t1, t2⟩, ?_⟩⟩, e⟩
  · obtain ⟨a1, a2, a3, a4⟩ := k q hq
    exact ⟨a1, a2.up e, a3.up e, a4⟩
  · rw [upd_ne ht]
    exact t3
/-! ### a list is thawed -/
def off (l : Addr) (F : Hp) : Hp := fun a => if a = l then none else F a
theorem off_ne {l a : Addr} (h : a ≠ l) : off l F a = F a := if_neg h
theorem off_t {l p : Addr} {xs ys : List V} (hl : F l = some (.lst xs)) (h : SqT K F p ys) : SqT K (off l F) p ys := by
  have key : ∀ u, Rd F p (.tup u) → Rd (off l F) p (.tup u) := fun u h => by
    have hne : p ≠ l := fun e => by
      rcases h with h | ⟨o, h⟩
      · rw [e, hl] at h
        cases h
      · rw [e, hl] at h
        cases h
    rcases h with h | ⟨o, h⟩
    · exact .inl ((off_ne hne).trans h)
    · exact .inr ⟨o, (off_ne hne).trans h⟩
  rcases h with h | h
  · exact .inl (key _ h)
  · exact .inr h
theorem off_same {l : Addr} {F0 : Hp} (e : Same F0 F) (h : F0 l = none) : Same F0 (off l F) := fun x u z => by
  rw [off_ne (fun q => by rw [q, h] at z; cases z)]
  exact e x u z
theorem off_tN {l : Addr} {xs : List V} {x : V} {ns : List Nat} (hl : F l = some (.lst xs)) (h : Dp K F x (tN ns)) : Dp K (off l F) x (tN ns) := by
  obtain ⟨a, rfl, ha⟩ := h.tN_inv
  exact .of_tN (off_t hl ha)
theorem off_key {l : Addr} {xs : List V} {x : V} {k : PyData} (hl : F l = some (.lst xs)) (hk : OurKey c δ k) (h : Dp K F x k) : Dp K (off l F) x k := by
  rcases hk with rfl | ⟨y, _, rfl⟩
  · cases h
    exact .str _
  · obtain ⟨a, ys, rfl, hs, hall⟩ := h.tup_inv
    obtain ⟨y1, r1, rfl, h1, hall⟩ := dp_cons hall
    obtain ⟨y2, r2, rfl, h2, hall⟩ := dp_cons hall
    obtain rfl := dp_nil hall
    cases h1
    exact .tup (off_t hl hs) (.cons (.str _) (.cons (off_tN hl h2) .nil))
theorem LM.thaw (m : LM K w F H D L c δ d) {l : Addr} {xs : List V} (hl : F l = some (.lst xs)) : LM K w (off l F) H D L c δ d := by
  have fr : ∀ a, F a = none → off l F a = none := fun a h => by
    by_cases e : a = l
    · exact if_pos e
    · rw [off_ne e]
      exact h
  obtain ⟨ns, b, dl⟩ := m.dl
  obtain ⟨ys, md, k, nd⟩ := m.sta.f.ex
  refine ⟨fun x u z => ?_, ⟨ns, b, ⟨dl.d.at_, fr _ dl.d.fr⟩, ⟨dl.l.at_, fr _ dl.l.fr⟩, dl.few, dl.pos, dl.b0, dl.b1⟩, ⟨⟨ys, ⟨md.at_, fr _ md.fr⟩, fun q hq => ?_, nd⟩⟩, ⟨m.sta.t.tab, fr _ m.sta.t.fr⟩⟩
  · by_cases e : x = l
    · have q : off l F x = none := if_pos e
      rw [q] at z
      cases z
    · rw [off_ne e] at z
      exact m.fh x u z
  · obtain ⟨a1, a2, a3, a4⟩ := k q hq
    refine ⟨a1, off_key hl a4 a2, ⟨fun x hx e => ?_, fun e => ?_⟩, a4⟩
    · obtain ⟨p, a, b, h1, h2, h3⟩ := a3.ch x hx e
      exact ⟨p, a, b, h1, off_t hl h2, h3⟩
    · obtain ⟨g, h1, h2⟩ := a3.gr e
      exact ⟨g, h1, off_tN hl h2⟩
end
theorem rowBad_uniq {c k j : Nat} {d : PyData} (a : RowBad c d k) (b : RowBad c d j) : k = j := by
  rcases a with ⟨a1, a2⟩ | ⟨ds, hd, ⟨x, hx, hb⟩, hg⟩
  · rcases b with ⟨b1, b2⟩ | ⟨es, he, _⟩
    · rw [a2, b2]
    · rcases he with rfl | rfl <;> cases a1
  · rcases b with ⟨b1, b2⟩ | ⟨es, he, ⟨y, hy, hc⟩, hg2⟩
    · rcases hd with rfl | rfl <;> cases b1
    · have e : ds = es := by
        rcases hd with rfl | rfl <;> rcases he with h | h
        · injection h
        · cases h
        · cases h
        · injection h
      subst e
      rcases Nat.lt_trichotomy k j with q | q | q
      · rw [hg2 k x q hx] at hb
        cases hb
      · exact q
      · rw [hg j y q hy] at hc
        cases hc
theorem row_told {k : Nat} : SeqAt.shaped (.tuple [.str "row", nD k]) = true := shaped_by (k := 1) (by simp [PyData.canLay0, PyData.canLayAll0]; decide +kernel) (by simp [PyData.depth, PyData.depthAll]) (by decide)
theorem row_eqv (a b : Nat) : PyData.eqv (.tuple [.str "row", nD a]) (.tuple [.str "row", nD b]) = decide (a = b) := by
  simp only [PyData.eqv, PyData.eqvAll]
  simp
  rw [Bool.eq_iff_iff, beq_iff_eq, decide_eq_true_iff]
  exact Int.ofNat_inj
theorem kept_small {c : Nat} {δ : List (List Nat)} {w1 : List Nat} (h : w1.length ≤ 100) : (∀ k ∈ keptM δ w1, k < 1000) ∧ (keptM δ w1).length ≤ 100 := by
  refine ⟨fun k hk => ?_, ?_⟩
  · have z := keptM_lt k hk
    omega
  · unfold keptM
    have z := List.length_filter_le (chg δ w1) (List.range w1.length)
    rw [List.length_range] at z
    omega
end K11

set_option Elab.async false
set_option linter.all false
set_option maxRecDepth 100000
set_option maxHeartbeats 4000000
/-! law: the last statements. -/
namespace K11
open PySem PySem.Spec PyProof.Rows L2
theorem sc_law : FnScope ["_law_script", "_law_deal", "_law_commands", "_law_steps", "_law_machine_here", "_law_due", "_law_many", "_law_row_here", "_law_bad", "_law_at", "_law_asked_here", "_law_k", "_law_behind_here", "_law_few", "_law_places_here", "_law_given", "_law_turn", "_law_value", "_law_right", "_law_longer", "_law_led_here", "_law_state", "_law_some", "_law_one", "_law_other"] ["_law_script"] (defScope s_law) := ⟨rfl, rfl, rfl, by decide +kernel, rfl, by decide +kernel, by decide +kernel⟩
theorem bn_law : BindN d_law ["_law_script"] := fun _ _ _ _ _ _ us hl => match us, hl with | [_], _ => rfl
section
variable {P : Program} {w : World} {K : PySem.W.Frag} {mg : Str → Option Value} {base : Heap}
theorem str_ne (a : Str) : (!decide (V.str a = V.str a)) = false := by rw [decide_eq_true rfl] <;> rfl
theorem seg_G (T : Top P w K mg base) {f : Addr} {cdv : Value} {s : Shared} {H0 : Hp} (hr : LR f cdv s) : ∃ t, PSs (LX P w K mg base f cdv s H0) (d_law.body.drop 20) t ∧
    ∀ (Fz F H : Hp) (D L q : Addr) (m : V) (c n : Nat) (δ : List (List Nat)) (d : Addr) (sv rv pv : V) (w1 w2 : List Nat) (s0 s5 s6 s8 s9 s10 s11 s12 s13 s15 s16 s17 s18 s20 s21 s22 s23 s24 : Option V),
      LF K Fz m c n δ d sv rv w1 → Same Fz F → LM K w F H D L c δ d → Dp K Fz pv (tN (keptM δ w1)) → F q = some (.lst (w2.map vN)) → Word c w2 → w2.length ≤ 50 →
      t lawD [s0, some (.ref D), some (vN c), some sv, some m, s5, s6, some rv, s8, s9, s10, s11, s12, s13, some pv, s15, s16, s17, s18, some (.ref q), s20, s21, s22, s23, s24] H := by
  have nd := (sc_law).nd
  refine ⟨_, (pss_cons (ps_if (pt_cmpR op_ne (pe_callB (call_repr rfl hr.units) (by rfl) T.n_repr bt_repr (pa_cons (pe_cal (ok_law_asked T) hr (by decide) (by rfl) (pa_cons pe_int (pa_cons (pe_calC (ok_Machine_init T) hr (by decide) T.mk_ T.g_Machine (by rfl) (pa_cons (pv 2) (pa_cons (pv 3) pa_nil))) (pa_cons (pv 19) (pa_cons pe_non pa_nil))))) pa_nil)) (pe_callB (call_repr rfl hr.units) (by rfl) T.n_repr bt_repr (pa_cons (pe_cal (ok_law_asked T) hr (by decide) (by rfl) (pa_cons pe_int (pa_cons (pv 4) (pa_cons (pe_callTy cl_tup (by rfl) T.n_tuple bt_tuple (pa_cons (pv 19) pa_nil)) (pa_cons pe_non pa_nil))))) pa_nil)) (nomark _))
      (pss_one (ps_ret pe_bl))
      pss_nil)
    (pss_one (ps_ret (pe_cmpR op_eq (pe_callB (call_repr rfl hr.units) (by rfl) T.n_repr bt_repr (pa_cons (pe_cal (ok_law_asked T) hr (by decide) (by rfl) (pa_cons pe_int (pa_cons (pv 4) (pa_cons (pv 7) (pa_cons pe_non pa_nil))))) pa_nil)) (pe_callB (call_repr rfl hr.units) (by rfl) T.n_repr bt_repr (pa_cons (pv 14) pa_nil)) (nomark _))))), ?_⟩
  intro Fz F H D L q m c n δ d sv rv pv w1 w2 s0 s5 s6 s8 s9 s10 s11 s12 s13 s15 s16 s17 s18 s20 s21 s22 s23 s24 lf eF lm hpv hq hw2 hwl2
  have nb := lf.nb
  have W := lf.mch.wf
  have k2 := kept_small (δ := δ) (w1 := w2) (c := c) (by omega)
  have k1 := kept_small (δ := δ) (w1 := w1) (c := c) (by have := lf.wl; omega)
  refine ⟨vN c, rfl, sv, rfl, fun x dx hx hdx hne => ⟨F, H, x, dx, sv, c, n, δ, rfl, lm.fh, hx, hdx, hne, rfl, W, L2.Dp.up lf.stp eF, fun F1 H1 d2 st1 hd2 M2 N2 => ⟨rfl, ?_⟩⟩⟩
  have hq1 := st1.ff _ _ hq
  have lmA : LM K w F1 H1 D L c δ d2 := ⟨st1.fh, lm.dl.step0 st1, ⟨N2, lm.sta.t.step0 st1⟩⟩
  have dq1 : Dp K F1 (.ref q) (lN w2) := .of_lN (.inl (.inl hq1))
  refine ⟨.ref q, rfl, F1, 0, .ref x, .ref q, .non, c, n, δ, d2, lN w2, .none, rfl, st1.fh, M2, lmA.sta, .d dq1, fun w' hw' => by rw [rowOk_inj hw' ⟨.inl rfl, hw2⟩]; omega, .d .non, fun ds e => (by cases e), fun z => absurd z nb, fun _ => ⟨fun w' hw' r F2 H2 st2 hr => ?_, fun k hk => (rowBad_not ⟨.inl rfl, hw2⟩ hk).elim⟩⟩
  obtain rfl := rowOk_inj hw' ⟨.inl rfl, hw2⟩
  obtain ⟨hr, t2⟩ := hr
  replace hr := hr.1 rfl
  have lmB := lmA.stepDT st2 t2
  have hdd : d ≠ d2 := fun e => lm.sta.f.there (by rw [e]; exact hd2)
  have sta2 : Sta K w F2 H2 c δ d := ⟨(lm.sta.f.step0 st1).step st2 fun z => by
    cases z with
    | head => exact hdd rfl
    | tail _ z => exact lm.sta.f.ne_tab lm.sta.t (List.mem_singleton.mp z).symm, t2.t⟩
  have lm2 : LM K w F2 H2 D L c δ d := ⟨lmB.fh, lmB.dl, sta2⟩
  have e2 := (eF.trans st1.ff).trans st2.ff
  have hq2 := st2.ff _ _ hq1
  try unfold tNil
  refine rep_tN (hr.up lm2.fh) k2.1 k2.2 ?_
  clear lmA lmB sta2 t2 st2 st1 lm hr dq1 hq1 hq N2 M2 eF hx hdx
  refine ⟨m, rfl, .ref q, rfl, q, _, rfl, .inl ⟨.inl (.inl (lm2.fh _ _ hq2)), fun p hp => ?_⟩⟩
  have n3 := Stp.new (S := []) (o := .tup (w'.map vN)) lm2.fh hp
  have lm3 := lm2.step0 n3
  have d3 : Dp K _ (.ref p) (tN w') := dp_tup lm2.fh hp (all_nats w')
  have e3 := e2.trans n3.ff
  refine ⟨_, 0, m, .ref p, .non, c, n, δ, d, tN w', .none, rfl, lm3.fh, lf.mch.up e3, lm3.sta, .d d3, fun w2 hw2' => by rw [rowOk_inj hw2' ⟨.inr rfl, hw2⟩]; omega, .d .non, fun ds e => (by cases e), fun z => absurd z nb, fun _ => ⟨fun w2 hw2' r F4 H4 st4 hr => ?_, fun k hk => (rowBad_not ⟨.inr rfl, hw2⟩ hk).elim⟩⟩
  obtain rfl := rowOk_inj hw2' ⟨.inr rfl, hw2⟩
  obtain ⟨hr, t4⟩ := hr
  replace hr := hr.1 rfl
  have lm4 := lm3.stepDT st4 t4
  have e4 := e3.trans st4.ff
  try unfold tNil
  refine rep_tN (hr.up lm4.fh) k2.1 k2.2 ⟨rfl, _, rfl, ?_⟩
  rw [str_ne]
  clear lm3 d3 n3 hp hr st4 t4 lm2
  refine iteF ⟨m, rfl, rv, rfl, F4, 0, m, rv, .non, c, n, δ, d, tN w1, .none, rfl, lm4.fh, lf.mch.up e4, lm4.sta, .d (lf.row.up e4), fun w2 hw2' => by rw [rowOk_inj hw2' ⟨.inr rfl, lf.wd⟩]; have := lf.wl; omega, .d .non, fun ds e => (by cases e), fun z => absurd z nb, fun _ => ⟨fun w2 hw2' r F5 H5 st5 hr => ?_, fun k hk => (rowBad_not ⟨.inr rfl, lf.wd⟩ hk).elim⟩⟩
  obtain rfl := rowOk_inj hw2' ⟨.inr rfl, lf.wd⟩
  obtain ⟨hr, t5⟩ := hr
  replace hr := hr.1 rfl
  have lm5 := lm4.stepDT st5 t5
  have e5 := e4.trans st5.ff
  try unfold tNil
  refine rep_tN (hr.up lm5.fh) k1.1 k1.2 ⟨pv, rfl, rep_tN ((hpv.up e5).up lm5.fh) k1.1 k1.2 ⟨rfl, ?_⟩⟩
  show V.bl _ = V.bl true
  rw [decide_eq_true rfl]
/-- the given row: the row itself, or a list of it at l -/
def Giv (F : Hp) (gv rv : V) (w1 : List Nat) (l : Addr) : Prop := gv = rv ∨ (gv = .ref l ∧ F l = some (.lst (w1.map vN)))
theorem seg_F (T : Top P w K mg base) {f : Addr} {cdv : Value} {s : Shared} {H0 : Hp} (hr : LR f cdv s) : ∃ t, PSs (LX P w K mg base f cdv s H0) (d_law.body.drop 18) t ∧
    ∀ (Fz F H : Hp) (D L l q : Addr) (m : V) (c n : Nat) (δ : List (List Nat)) (d : Addr) (sv rv bad pv gv : V) (db : PyData) (kb : Nat) (w1 w2 : List Nat) (s0 s5 s6 s10 s11 s12 s13 s16 s17 s18 s20 s21 s22 s23 s24 : Option V),
      LF K Fz m c n δ d sv rv w1 → Same Fz F → LM K w F H D L c δ d → Any K Fz bad db → RowBad c db kb → Dp K Fz pv (tN (keptM δ w1)) → Giv F gv rv w1 l → Fz l = none → F q = some (.lst (w2.map vN)) → q ≠ l → Word c w2 → w2.length ≤ 50 → D ≠ l → L ≠ l →
      t lawD [s0, some (.ref D), some (vN c), some sv, some m, s5, s6, some rv, some bad, some (vN kb), s10, s11, s12, s13, some pv, some gv, s16, s17, s18, some (.ref q), s20, s21, s22, s23, s24] H := by
  have nd := (sc_law).nd
  obtain ⟨tG, hG, rG⟩ := seg_G T (H0 := H0) hr
  refine ⟨_, (pss_cons (ps_if (pw_or (pt_cmpR (op_neD hr.units) (pe_cal (ok_law_asked T) hr (by decide) (by rfl) (pa_cons pe_int (pa_cons (pv 4) (pa_cons (pv 8) (pa_cons pe_non pa_nil))))) (pe_tup (pa_cons pe_str (pa_cons (pv 9) pa_nil))) (nomark _)) (pw_or1 (pt_cmpR (op_neD hr.units) (pe_cal (ok_law_asked T) hr (by decide) (by rfl) (pa_cons pe_int (pa_cons (pv 4) (pa_cons (pv 8) (pa_cons (pe_tup pa_nil) pa_nil))))) (pe_tup (pa_cons pe_str (pa_cons (pv 9) pa_nil))) (nomark _)))).pt
      (pss_one (ps_ret pe_bl))
      pss_nil)
    (pss_cons (ps_if (pt_val (pe_callB call_isA (by rfl) T.n_isinstance bt_isinstance (pa_cons (pv 15) (pa_cons (pe_bltn (v := .ty "list") (by rfl) T.n_list bt_list rfl) pa_nil))))
      (pss_one (ps_expr (pe_bm PySem.F.plainAttrs_list PySem.F.slot_list_append PySem.F.type_list_append mt_append (pv 15) (pa_cons pe_int pa_nil))))
      pss_nil)
    hG)), ?_⟩
  intro Fz F H D L l q m c n δ d sv rv bad pv gv db kb w1 w2 s0 s5 s6 s10 s11 s12 s13 s16 s17 s18 s20 s21 s22 s23 s24 lf eF lm hbad hrb hpv hgv hFl hq hql hw2 hwl2 hDl hLl
  have nb := lf.nb
  refine ⟨m, rfl, bad, rfl, F, 0, m, bad, .non, c, n, δ, d, db, .none, rfl, lm.fh, lf.mch.up eF, lm.sta, hbad.up eF, fun w' hw' => (rowBad_not hw' hrb).elim, .d .non, fun ds e => (by cases e), fun z => absurd z nb, fun _ => ⟨fun w' hw' => (rowBad_not hw' hrb).elim, fun k hk r F1 H1 st1 hr => ?_⟩⟩
  obtain ⟨⟨p, rfl, hp⟩, t1⟩ := hr
  obtain rfl := rowBad_uniq hk hrb
  have lm1 := lm.stepDT st1 t1
  refine ⟨vN k, rfl, two_le, fun p2 hp2 => ?_⟩
  have n2 := Stp.new (S := []) (o := .tup [.str "row", vN k]) lm1.fh hp2
  have lm2 := lm1.step0 n2
  have dA : Dp K _ (.ref p) (.tuple [.str "row", nD k]) := .tup (same_t n2.ff hp) (.cons (.str _) (.cons (.int _) .nil))
  have dB : Dp K _ (.ref p2) (.tuple [.str "row", nD k]) := dp_tup (xs := [.str "row", vN k]) lm1.fh hp2 (.cons (.str _) (.cons (.int _) .nil))
  have e2 := (eF.trans st1.ff).trans n2.ff
  have hq2 := n2.ff _ _ (st1.ff _ _ hq)
  have hgv2 : Giv _ gv rv w1 l := hgv.imp id fun z => ⟨z.1, n2.ff _ _ (st1.ff _ _ z.2)⟩
  generalize upd F1 p2 (.tup [.str "row", vN k]) = F2 at lm2 dA dB e2 hq2 hgv2
  generalize upd H1 p2 (.tup [.str "row", vN k]) = H2 at lm2 ⊢
  clear n2 hp2 hp lm1 t1 st1 lm hq hgv eF hk
  refine ⟨_, _, dA.up lm2.fh, dB.up lm2.fh, row_told, row_told, _, rfl, ?_⟩
  rw [row_eqv, decide_eq_true rfl]
  refine iteF ⟨m, rfl, bad, rfl, Nat.zero_le _, fun p3 hp3 => ?_⟩
  have n3 := Stp.new (S := []) (o := .tup []) lm2.fh hp3
  have lm3 := lm2.step0 n3
  have e3 := e2.trans n3.ff
  have d3 : Dp K _ (.ref p3) (.tuple []) := dp_tup (xs := []) lm2.fh hp3 .nil
  have hq3 := n3.ff _ _ hq2
  have hgv3 : Giv _ gv rv w1 l := hgv2.imp id fun z => ⟨z.1, n3.ff _ _ z.2⟩
  generalize upd F2 p3 (.tup []) = F3 at lm3 e3 hq3 hgv3 d3
  generalize upd H2 p3 (.tup []) = H3 at lm3 ⊢
  refine ⟨F3, 1, m, bad, .ref p3, c, n, δ, d, db, .tuple [], rfl, lm3.fh, lf.mch.up e3, lm3.sta, hbad.up e3, fun w' hw' => (rowBad_not hw' hrb).elim, .d d3, fun ds e => (by injection e with e; rw [← e]; decide), fun z => absurd z nb, fun _ => ⟨fun w' hw' => (rowBad_not hw' hrb).elim, fun k' hk r F4 H4 st4 hr => ?_⟩⟩
  obtain ⟨⟨p4, rfl, hp4⟩, t4⟩ := hr
  obtain rfl := rowBad_uniq hk hrb
  have lm4 := lm3.stepDT st4 t4
  refine ⟨vN k', rfl, two_le, fun p5 hp5 => ?_⟩
  have n5 := Stp.new (S := []) (o := .tup [.str "row", vN k']) lm4.fh hp5
  have lm5 := lm4.step0 n5
  have dC : Dp K _ (.ref p4) (.tuple [.str "row", nD k']) := .tup (same_t n5.ff hp4) (.cons (.str _) (.cons (.int _) .nil))
  have dE : Dp K _ (.ref p5) (.tuple [.str "row", nD k']) := dp_tup (xs := [.str "row", vN k']) lm4.fh hp5 (.cons (.str _) (.cons (.int _) .nil))
  have e5 := (e3.trans st4.ff).trans n5.ff
  have hq5 := n5.ff _ _ (st4.ff _ _ hq3)
  have hgv5 : Giv _ gv rv w1 l := hgv3.imp id fun z => ⟨z.1, n5.ff _ _ (st4.ff _ _ z.2)⟩
  generalize upd F4 p5 (.tup [.str "row", vN k']) = F5 at lm5 dC dE e5 hq5 hgv5
  generalize upd H4 p5 (.tup [.str "row", vN k']) = H5 at lm5 ⊢
  clear n5 hp5 hp4 lm4 t4 st4 lm3 hq3 hgv3 e3 n3 hp3 d3 lm2 dA dB e2 hq2 hgv2 hk
  refine ⟨_, _, dC.up lm5.fh, dE.up lm5.fh, row_told, row_told, _, rfl, ?_⟩
  rw [row_eqv, decide_eq_true rfl]
  refine iteF ?_
  clear dC dE
  rcases hgv5 with rfl | ⟨rfl, hFl5⟩
  · refine ⟨gv, rfl, gv, tN w1, "list", rfl, rfl, .d ((lf.row.up e5).up lm5.fh), _, rfl, ?_⟩
    rw [isTy_list]
    exact iteF (rG Fz F5 H5 D L q m c n δ d sv gv pv w1 w2 _ _ _ _ _ _ _ _ _ _ _ _ _ _ _ _ _ _ lf e5 lm5 hpv hq5 hw2 hwl2)
  · refine ⟨.ref l, rfl, .ref l, lN w1, "list", rfl, rfl, .d (.of_lN (.inl (.inl (lm5.fh _ _ hFl5)))), _, rfl, ?_⟩
    rw [isTy_list]
    have lmT := lm5.thaw hFl5
    have muT : Mu (off l F5) H5 l (.lst (w1.map vN)) := ⟨lm5.fh _ _ hFl5, if_pos rfl⟩
    have hwl := lf.wl
    refine iteT ⟨.ref l, rfl, .inl ⟨rfl, _, .inl (.inl muT.at_)⟩, l, _, _, rfl, rfl, muT.at_, by rw [List.length_map, sizeLine_eq]; omega, ?_⟩
    exact rG Fz (off l F5) _ D L q m c n δ d sv rv pv w1 w2 _ _ _ _ _ _ _ _ _ _ _ _ _ _ _ _ _ _ lf (off_same e5 hFl) (lmT.wrote muT hDl hLl) hpv ((off_ne hql).trans hq5) hw2 hwl2
end
end K11


set_option Elab.async false
set_option linter.all false
set_option maxRecDepth 100000
set_option maxHeartbeats 4000000
/-! law: the parts. -/
namespace K11
open PySem PySem.Spec PyProof.Rows L2
section
/-- two rows -/
def Pair (K : PySem.W.Frag) (F : Hp) (x : V) : Prop := ∃ (p a b : Addr) (u v : List Nat), x = .ref p ∧ SqT K F p [.ref a, .ref b] ∧ SeqB K F a (u.map vN) ∧ SeqB K F b (v.map vN) ∧ u.length ≤ 1000 ∧ v.length ≤ 1000
theorem drop1_read {K : PySem.W.Frag} {F H : Hp} {x : V} {w : List Nat} {Q : VK} (h : Dp K F x (tN w)) (e : Same F H) (q : ∀ F' H' y, Stp [] F H F' H' → Dp K F' y (tN (w.drop 1)) → Q y H') : rSlA K x (some 1) none H Q := by
  obtain ⟨a, rfl, ha⟩ := h.tN_inv
  have e1 : HT.sIx (w.map vN).length 0 (some 1) = min 1 (w.map vN).length := HT.sIx_nat _ _ 1
  refine ⟨a, _, rfl, same_t e ha, fun z => ?_, fun _ p hp => ?_⟩
  · have z1 := z.1
    rw [e1, List.length_map] at z1
    have e2 : w = [] := List.length_eq_zero_iff.mp (by omega)
    subst e2
    exact q F H _ (Stp.refl e) h
  · have ec : cutV (w.map vN) (some 1) none = (w.drop 1).map vN := by
      unfold cutV
      rw [e1, HT.sIx_none, List.map_drop]
      cases w with
      | nil => rfl
      | cons x r =>
        have e3 : min 1 ((x :: r).map vN).length = 1 := by rw [List.length_map, List.length_cons]; omega
        rw [e3, List.take_of_length_le (by rw [List.length_drop]; exact Nat.le_refl _)]
    rw [ec]
    exact q _ _ _ (Stp.new (o := .tup _) e hp) (.of_tN (.inl (.inl upd_same)))
theorem Pair.up {K : PySem.W.Frag} {F H : Hp} {x : V} (h : Pair K F x) (e : Same F H) : Pair K H x := by
  obtain ⟨p, a, b, u, v, h1, h2, h3, h4, h5⟩ := h
  exact ⟨p, a, b, u, v, h1, same_t e h2, h3.up e, h4.up e, h5⟩
end
section
variable {P : Program} {w : World} {K : PySem.W.Frag} {mg : Str → Option Value} {base : Heap}
theorem seg_E (T : Top P w K mg base) {f : Addr} {cdv : Value} {s : Shared} {H0 : Hp} (hr : LR f cdv s) : ∃ t, PSs (LX P w K mg base f cdv s H0) (d_law.body.drop 16) t ∧
    ∀ (Fz F H : Hp) (D L l q : Addr) (m : V) (c n : Nat) (δ : List (List Nat)) (d : Addr) (sv rv bad pv gv : V) (db : PyData) (kb : Nat) (w1 w2 : List Nat) (s0 s5 s6 s10 s11 s12 s13 s16 s17 s18 s20 s21 s22 s23 s24 : Option V),
      LF K Fz m c n δ d sv rv w1 → Same Fz F → LM K w F H D L c δ d → Any K Fz bad db → RowBad c db kb → Dp K Fz pv (tN (keptM δ w1)) → Giv F gv rv w1 l → Fz l = none → F q = some (.lst (w2.map vN)) → q ≠ l → Word c w2 → w2.length ≤ 50 → D ≠ l → L ≠ l →
      t lawD [s0, some (.ref D), some (vN c), some sv, some m, s5, s6, some rv, some bad, some (vN kb), s10, s11, s12, s13, some pv, some gv, s16, s17, s18, some (.ref q), s20, s21, s22, s23, s24] H := by
  have nd := (sc_law).nd
  obtain ⟨tF, hF, rF⟩ := seg_F T (H0 := H0) hr
  refine ⟨_, (pss_cons (ps_set (i := 22) nd rfl (.inl rfl) (pe_cal (ok_law_row T) hr (by decide) (by rfl) (pa_cons (pv 1) (pa_cons (pv 2) (pa_cons (pe_cal (ok_law_any T) hr (by decide) (by rfl) (pa_cons (pv 1) (pa_cons pe_int pa_nil))) pa_nil)))))
    (pss_cons (ps_for (passes_of rfl) rfl (pi_list (pe_lst (pa_cons (pe_tup (pa_cons (pv 7) (pa_cons (pv 19) pa_nil))) (pa_cons (pe_tup (pa_cons (pv 19) (pa_cons (pv 7) pa_nil))) (pa_cons (pe_tup (pa_cons (pv 22) (pa_cons (pv 7) pa_nil))) (pa_cons (pe_tup (pa_cons (pe_lc (own := [("_law_k", 11)]) (g := (gName 11)) (tt := tYes) (te := (tOp (rIxB K) (tVar 7) (tVar 11))) rfl nd (pi_tup (pv 14)) (blkOk_by (by kernel_rfl)) (fun _ _ _ _ _ => (pg_name (i := 11) nd rfl (.inl rfl))) (fun _ _ _ _ _ => pts_nil) (fun _ _ _ _ _ => (pe_ix ix_both (pv 7) (pv 11) (fun _ _ => rfl)))) (pa_cons (pv 7) pa_nil))) (pa_cons (pe_tup (pa_cons (pv 22) (pa_cons (pe_slice sl_tupA (pv 22) (po_some pe_int) po_none) pa_nil))) pa_nil))))))) (pg_tup rfl (pgs_cons (pg_name (i := 23) nd rfl (.inl rfl)) (pgs_cons (pg_name (i := 24) nd rfl (.inl rfl)) pgs_nil)))
      (pss_one (ps_if (pt_cmpR op_ne (pe_callB (call_repr rfl hr.units) (by rfl) T.n_repr bt_repr (pa_cons (pe_callR (E := fun _ => C8.E0) (ok_is_part T) bk_part hr (by decide) (fun σ pins H s e s2 I c => passL pins σ H s e s2 I c) (by rfl) (pk_cons (pv 24) (pk_cons (pv 23) pk_nil))) pa_nil)) (pe_callB (call_repr rfl hr.units) (by rfl) T.n_repr bt_repr (pa_cons (pe_cal (ok_law_part T) hr (by decide) (by rfl) (pa_cons (pv 23) (pa_cons (pv 24) pa_nil))) pa_nil)) (nomark _))
      (pss_one (ps_ret pe_bl))
      pss_nil)))
    hF)), ?_⟩
  intro Fz F H D L l q m c n δ d sv rv bad pv gv db kb w1 w2 s0 s5 s6 s10 s11 s12 s13 s16 s17 s18 s20 s21 s22 s23 s24 lf eF lm hbad hrb hpv hgv hFl hq hql hw2 hwl2 hDl hLl
  refine ⟨.ref D, rfl, vN c, rfl, .ref D, rfl, F, D, L, 5, rfl, lm.fh, lm.dl, by decide, by decide, fun r F1 H1 st1 hr => ?_⟩
  obtain ⟨⟨v5, rfl, hv5⟩, d1⟩ := hr
  have W := lf.mch.wf
  have hc1 := W.c1
  have hc3 := W.c3
  refine ⟨F1, D, L, c, v5, rfl, st1.fh, d1, hc1, by omega, by omega, fun r F2 H2 st2 hr => ?_⟩
  obtain ⟨⟨w3, hw3, hl3, d3⟩, d2⟩ := hr
  have lm2 := lm.stepDL (st1.trans st2) d2
  have e2 := (eF.trans st1.ff).trans st2.ff
  have hq2 := st2.ff _ _ (st1.ff _ _ hq)
  have hgv2 : Giv F2 gv rv w1 l := hgv.imp id fun z => ⟨z.1, st2.ff _ _ (st1.ff _ _ z.2)⟩
  obtain ⟨bs, rfl, hbs⟩ := d3.tN_inv
  obtain ⟨br, rfl, hbr⟩ := (lf.row.up e2).tN_inv
  obtain ⟨bp, rfl, hbp⟩ := (hpv.up e2).tN_inv
  clear lm st1 st2 d1 d2 hq hgv eF
  have hwl1 := lf.wl
  have kp := kept_small (δ := δ) (w1 := w1) (c := c) (by omega)
  have sr2 : SeqB K F2 br (w1.map vN) := .inr hbr
  have ss2 : SeqB K F2 bs (w3.map vN) := .inr hbs
  have sq2 : SeqB K F2 q (w2.map vN) := .inl (.inl (.inl hq2))
  have sp2 := hbp
  refine ⟨.ref br, rfl, .ref q, rfl, two_le, fun p2 hp2 => ?_⟩
  have n2 := Stp.new (S := []) (o := .tup [.ref br, .ref q]) lm2.fh hp2
  have P2 : Pair K (upd F2 p2 (.tup [.ref br, .ref q])) (.ref p2) := ⟨p2, br, q, w1, w2, rfl, .inl (.inl upd_same), sr2.up n2.ff, sq2.up n2.ff, by omega, by omega⟩
  have lm3 := lm2.step0 n2
  have e3 := e2.trans n2.ff
  have hq3 := n2.ff _ _ hq2
  have hgv3 : Giv _ gv (.ref br) w1 l := hgv2.imp id fun z => ⟨z.1, n2.ff _ _ z.2⟩
  have sr3 := sr2.up n2.ff
  have ss3 := ss2.up n2.ff
  have sq3 := sq2.up n2.ff
  have sp3 := same_t n2.ff sp2
  replace d3 := d3.up n2.ff
  generalize upd F2 p2 (.tup [.ref br, .ref q]) = F3 at lm3 e3 hq3 hgv3 sr3 ss3 sq3 sp3 P2 n2 d3
  generalize upd H2 p2 (.tup [.ref br, .ref q]) = H3 at lm3 n2 ⊢
  refine ⟨.ref q, rfl, .ref br, rfl, two_le, fun p3 hp3 => ?_⟩
  have n3 := Stp.new (S := []) (o := .tup [.ref q, .ref br]) lm3.fh hp3
  have P3 : Pair K (upd F3 p3 (.tup [.ref q, .ref br])) (.ref p3) := ⟨p3, q, br, w2, w1, rfl, .inl (.inl upd_same), sq3.up n3.ff, sr3.up n3.ff, by omega, by omega⟩
  have lm4 := lm3.step0 n3
  have e4 := e3.trans n3.ff
  have hq4 := n3.ff _ _ hq3
  have hgv4 : Giv _ gv (.ref br) w1 l := hgv3.imp id fun z => ⟨z.1, n3.ff _ _ z.2⟩
  have sr4 := sr3.up n3.ff
  have ss4 := ss3.up n3.ff
  have sq4 := sq3.up n3.ff
  have sp4 := same_t n3.ff sp3
  replace P2 := P2.up n3.ff
  replace d3 := d3.up n3.ff
  generalize upd F3 p3 (.tup [.ref q, .ref br]) = F4 at lm4 e4 hq4 hgv4 sr4 ss4 sq4 sp4 P2 P3 n3 d3
  generalize upd H3 p3 (.tup [.ref q, .ref br]) = H4 at lm4 n3 ⊢
  refine ⟨.ref bs, rfl, .ref br, rfl, two_le, fun p4 hp4 => ?_⟩
  have n4 := Stp.new (S := []) (o := .tup [.ref bs, .ref br]) lm4.fh hp4
  have P4 : Pair K (upd F4 p4 (.tup [.ref bs, .ref br])) (.ref p4) := ⟨p4, bs, br, w3, w1, rfl, .inl (.inl upd_same), ss4.up n4.ff, sr4.up n4.ff, by omega, by omega⟩
  have lm5 := lm4.step0 n4
  have e5 := e4.trans n4.ff
  have hq5 := n4.ff _ _ hq4
  have hgv5 : Giv _ gv (.ref br) w1 l := hgv4.imp id fun z => ⟨z.1, n4.ff _ _ z.2⟩
  have sr5 := sr4.up n4.ff
  have ss5 := ss4.up n4.ff
  have sq5 := sq4.up n4.ff
  have sp5 := same_t n4.ff sp4
  replace P2 := P2.up n4.ff
  replace P3 := P3.up n4.ff
  replace d3 := d3.up n4.ff
  generalize upd F4 p4 (.tup [.ref bs, .ref br]) = F5 at lm5 e5 hq5 hgv5 sr5 ss5 sq5 sp5 P2 P3 P4 n4 d3
  generalize upd H4 p4 (.tup [.ref bs, .ref br]) = H5 at lm5 n4 ⊢
  have hkk : ((keptM δ w1).map vN).length = (keptM δ w1).length := List.length_map ..
  refine ⟨.ref bp, rfl, bp, rfl, ⟨_, same_t lm5.fh sp5⟩, ?_⟩
  refine lc_do (S := []) (src_t sp5) lm5.fh (fun a h => by cases h) (by rw [sizeLine_eq, hkk]; omega) (fun i acc _ _ => acc = (atW w1 ((keptM δ w1).take i)).map vN) rfl (fun i y acc F6 H6 hi hy st6 hp Y N hY hN => ?_) fun p5 acc F6 H6 st6 hD mu hl6 hp => ?_
  · obtain ⟨t, ht, rfl⟩ := vN_at hy
    have htl := keptM_lt t (List.mem_of_getElem? ht)
    refine ⟨rfl, lc_yes ⟨.ref br, rfl, vN t, rfl, ix_tN ((lf.row.up e5).up st6.ff) st6.fh (getD_some htl) (hY _ F6 H6 (Stp.refl st6.fh) ?_)⟩⟩
    rw [hp, take_snoc ht]
    unfold atW
    rw [List.map_append, List.map_append] <;> rfl
  rw [hkk, List.take_length] at hp
  have n5 := st6.freeze hD mu
  have sk6 : SeqB K (upd F6 p5 (.lst acc)) p5 ((atW w1 (keptM δ w1)).map vN) := by
    rw [hp]
    exact .inl (.inl (.inl upd_same))
  have hkl : (atW w1 (keptM δ w1)).length ≤ 1000 := by
    unfold atW
    rw [List.length_map]
    omega
  have lm6 := lm5.step0 n5
  have e6 := e5.trans n5.ff
  have hq6 := n5.ff _ _ hq5
  have hgv6 : Giv _ gv (.ref br) w1 l := hgv5.imp id fun z => ⟨z.1, n5.ff _ _ z.2⟩
  have sr6 := sr5.up n5.ff
  have ss6 := ss5.up n5.ff
  have sq6 := sq5.up n5.ff
  have sp6 := same_t n5.ff sp5
  replace P2 := P2.up n5.ff
  replace P3 := P3.up n5.ff
  replace P4 := P4.up n5.ff
  replace d3 := d3.up n5.ff
  clear mu st6
  generalize upd F6 p5 (.lst acc) = F6 at n5 lm6 e6 hq6 hgv6 sr6 ss6 sq6 sp6 sk6 P2 P3 P4 d3
  refine ⟨.ref br, rfl, two_le, fun p6 hp6 => ?_⟩
  have n6 := Stp.new (S := []) (o := .tup [.ref p5, .ref br]) lm6.fh hp6
  have P6 : Pair K (upd F6 p6 (.tup [.ref p5, .ref br])) (.ref p6) := ⟨p6, p5, br, (atW w1 (keptM δ w1)), w1, rfl, .inl (.inl upd_same), sk6.up n6.ff, sr6.up n6.ff, hkl, by omega⟩
  have lm7 := lm6.step0 n6
  have e7 := e6.trans n6.ff
  have hq7 := n6.ff _ _ hq6
  have hgv7 : Giv _ gv (.ref br) w1 l := hgv6.imp id fun z => ⟨z.1, n6.ff _ _ z.2⟩
  have sr7 := sr6.up n6.ff
  have ss7 := ss6.up n6.ff
  have sq7 := sq6.up n6.ff
  have sp7 := same_t n6.ff sp6
  replace P2 := P2.up n6.ff
  replace P3 := P3.up n6.ff
  replace P4 := P4.up n6.ff
  replace d3 := d3.up n6.ff
  generalize upd F6 p6 (.tup [.ref p5, .ref br]) = F7 at lm7 e7 hq7 hgv7 sr7 ss7 sq7 sp7 P2 P3 P4 P6 n6 d3
  generalize upd H6 p6 (.tup [.ref p5, .ref br]) = H7 at lm7 n6 ⊢
  refine ⟨.ref bs, rfl, .ref bs, rfl, 1, rfl, ?_⟩
  try unfold tNoPart
  refine drop1_read d3 lm7.fh fun F8 H8 y n7 g8 => ?_
  obtain ⟨b8, rfl, hb8⟩ := g8.tN_inv
  have lm8 := lm7.step0 n7
  have e8 := e7.trans n7.ff
  have hq8 := n7.ff _ _ hq7
  have hgv8 : Giv _ gv (.ref br) w1 l := hgv7.imp id fun z => ⟨z.1, n7.ff _ _ z.2⟩
  replace P2 := P2.up n7.ff
  replace P3 := P3.up n7.ff
  replace P4 := P4.up n7.ff
  replace P6 := P6.up n7.ff
  have ss8 := ss7.up n7.ff
  refine ⟨two_le, fun p8 hp8 => ⟨(show 5 ≤ sizeLine by decide), fun p9 hp9 => ?_⟩⟩
  have n8 := Stp.new (S := []) (o := .tup [.ref bs, .ref b8]) lm8.fh hp8
  have P8 : Pair K (upd F8 p8 (.tup [.ref bs, .ref b8])) (.ref p8) := ⟨p8, bs, b8, w3, w3.drop 1, rfl, .inl (.inl upd_same), ss8.up n8.ff, .inr (same_t n8.ff hb8), by omega, by rw [List.length_drop]; omega⟩
  have n9 := n8.trans (Stp.new (S := []) (o := .lst [.ref p2, .ref p3, .ref p4, .ref p6, .ref p8]) n8.fh hp9)
  have m9 := (Stp.new (S := []) (o := .lst [.ref p2, .ref p3, .ref p4, .ref p6, .ref p8]) n8.fh hp9)
  have hl9 : SqL K (upd (upd F8 p8 (.tup [.ref bs, .ref b8])) p9 (.lst [.ref p2, .ref p3, .ref p4, .ref p6, .ref p8])) p9 [.ref p2, .ref p3, .ref p4, .ref p6, .ref p8] := .inl (.inl upd_same)
  replace P8 := P8.up m9.ff
  replace P2 := P2.up n9.ff
  replace P3 := P3.up n9.ff
  replace P4 := P4.up n9.ff
  replace P6 := P6.up n9.ff
  have lm9 := lm8.step0 n9
  have e9 := e8.trans n9.ff
  have hq9 := n9.ff _ _ hq8
  have hgv9 : Giv _ gv (.ref br) w1 l := hgv8.imp id fun z => ⟨z.1, n9.ff _ _ z.2⟩
  generalize upd (upd F8 p8 (.tup [.ref bs, .ref b8])) p9 (.lst [.ref p2, .ref p3, .ref p4, .ref p6, .ref p8]) = F9 at hl9 P8 P2 P3 P4 P6 lm9 e9 hq9 hgv9
  generalize upd (upd H8 p8 (.tup [.ref bs, .ref b8])) p9 (.lst [.ref p2, .ref p3, .ref p4, .ref p6, .ref p8]) = H9 at lm9 ⊢
  have pairs : ∀ x ∈ [V.ref p2, .ref p3, .ref p4, .ref p6, .ref p8], Pair K F9 x := fun x hx => by
    simp only [List.mem_cons, List.not_mem_nil, or_false] at hx
    rcases hx with rfl | rfl | rfl | rfl | rfl <;> assumption
  refine ⟨p9, rfl, ⟨_, same_l lm9.fh hl9⟩, ?_⟩
  refine for_do (src_l hl9) (fun i σ H' => ∃ (F' : Hp) (u23 u24 : Option V), σ = [s0, some (.ref D), some (vN c), some sv, some m, s5, s6, some (.ref br), some bad, some (vN kb), s10, s11, s12, s13, some (.ref bp), some gv, s16, s17, s18, some (.ref q), s20, s21, some (.ref bs), u23, u24] ∧ LM K w F' H' D L c δ d ∧ Same F9 F') (fun i σ H' h => ?_) ⟨F9, _, _, rfl, lm9, Same.refl _⟩ (fun i x σ H' hi hx hp => ?_) fun σ H' hp => ?_
  · obtain ⟨F', _, _, _, lm', e'⟩ := h
    exact e'.trans lm'.fh
  · obtain ⟨F', u23, u24, rfl, lm', e'⟩ := hp
    obtain ⟨p, a, b, u, v, rfl, hp, ha, hb, hu, hv⟩ := (pairs x (List.mem_of_getElem? hx)).up e'
    refine ⟨p, _, rfl, same_t lm'.fh hp, rfl, _, _, rfl, _, _, rfl, rfl, ?_⟩
    refine ⟨.ref b, rfl, .ref a, rfl, rfl, F', a, b, u, v, rfl, lm'.fh, ha, hb, ?_⟩
    try unfold tNil
    refine rep_bl ⟨.ref a, rfl, .ref b, rfl, F', a, b, u, v, rfl, lm'.fh, ha, hb, hu, hv, fun r F2 H2 st2 hr => ?_⟩
    subst hr
    refine rep_bl ⟨rfl, _, rfl, ?_⟩
    rw [str_ne]
    exact iteF ⟨F2, _, _, rfl, lm'.step0 st2, e'.trans st2.ff⟩
  · obtain ⟨F', u23, u24, rfl, lm', e'⟩ := hp
    exact rF Fz F' H' D L l q m c n δ d sv (.ref br) bad (.ref bp) gv db kb w1 w2 _ _ _ _ _ _ _ _ _ _ _ _ _ _ _ lf (e9.trans e') lm' hbad hrb hpv (hgv9.imp id fun z => ⟨z.1, e' _ _ z.2⟩) hFl (e' _ _ hq9) hql hw2 hwl2 hDl hLl
end
end K11


set_option Elab.async false
set_option linter.all false
set_option maxRecDepth 100000
set_option maxHeartbeats 4000000
/-! law: a longer row. -/
namespace K11
open PySem PySem.Spec PyProof.Rows L2
section
variable {P : Program} {w : World} {K : PySem.W.Frag} {mg : Str → Option Value} {base : Heap}
theorem seg_D (T : Top P w K mg base) {f : Addr} {cdv : Value} {s : Shared} {H0 : Hp} (hr : LR f cdv s) : ∃ t, PSs (LX P w K mg base f cdv s H0) (d_law.body.drop 12) t ∧
    ∀ (Fz F H : Hp) (D L l : Addr) (m : V) (c n : Nat) (δ : List (List Nat)) (d : Addr) (sv rv bad pv gv bv : V) (db : PyData) (kb : Nat) (w1 : List Nat) (s0 s5 s10 s11 s13 s16 s17 s18 s19 s20 s21 s22 s23 s24 : Option V), LF K Fz m c n δ d sv rv w1 → Same Fz F → LM K w F H D L c δ d → Any K Fz bad db → RowBad c db kb → Dp K Fz pv (tN (keptM δ w1)) → Dp K Fz bv (.list ((behM δ w1).map tN)) → Giv F gv rv w1 l → Fz l = none → H l ≠ none → D ≠ l → L ≠ l →
      t lawD [s0, some (.ref D), some (vN c), some sv, some m, s5, some (vN n), some rv, some bad, some (vN kb), s10, s11, some bv, s13, some pv, some gv, s16, s17, s18, s19, s20, s21, s22, s23, s24] H := by
  have nd := (sc_law).nd
  obtain ⟨tE, hE, rE⟩ := seg_E T (H0 := H0) hr
  refine ⟨_, (pss_cons (ps_set (i := 19) nd rfl (.inl rfl) (pe_callTy cl_lst (by rfl) T.n_list bt_list (pa_cons (pv 7) pa_nil)))
    (pss_cons (ps_for (passes_of rfl) rfl (pi_range1 (by rfl) T.n_range (pa_cons (pe_cal (ok_law_any T) hr (by decide) (by rfl) (pa_cons (pv 1) (pa_cons pe_int pa_nil))) pa_nil)) (pg_name (i := 16) nd rfl (.inl rfl))
      (pss_one (ps_expr (pe_bm PySem.F.plainAttrs_list PySem.F.slot_list_insert PySem.F.type_list_insert mt_insert (pv 19) (pa_cons (pe_cal (ok_law_any T) hr (by decide) (by rfl) (pa_cons (pv 1) (pa_cons (pe_op op_add (pe_callB cl_len (by rfl) T.n_len bt_len (pa_cons (pv 19) pa_nil)) pe_int) pa_nil))) (pa_cons (pe_cal (ok_law_any T) hr (by decide) (by rfl) (pa_cons (pv 1) (pa_cons (pv 2) pa_nil))) pa_nil))))))
    (pss_cons (ps_set (i := 20) nd rfl (.inr rfl) (pe_cal (ok_law_effect T) hr (by decide) (by rfl) (pa_cons (pv 3) (pa_cons (pv 19) pa_nil))))
    (pss_cons (ps_if (pt_cmpR (op_neD hr.units) (pe_lc (own := [("_law_state", 21)]) (g := (gName 21)) (tt := (tTest (tOp rNe (tOp (rIxB K) (tVar 20) (tVar 21)) (tOp (rIxB K) (tVar 20) (tOp (rIxB K) (tOp (rIxB K) (tVar 12) (tC (.int 0))) (tVar 21)))))) (te := (tVar 21)) rfl nd (pi_range1 (by rfl) T.n_range (pa_cons (pv 6) pa_nil)) (blkOk_by (by kernel_rfl)) (fun _ _ _ _ _ => (pg_name (i := 21) nd rfl (.inl rfl))) (fun _ _ _ _ _ => (pts_one (pt_cmpR op_ne (pe_ix ix_both (pv 20) (pv 21) (fun _ _ => rfl)) (pe_ix ix_both (pv 20) (pe_ix ix_both (pe_ix ix_both (pv 12) pe_int (fun _ _ => rfl)) (pv 21) (fun _ _ => rfl)) (fun _ _ => rfl)) (nomark _)))) (fun _ _ _ _ _ => (pv 21))) (pe_lst pa_nil) (nomark _))
      (pss_one (ps_ret pe_bl))
      pss_nil)
    hE)))), ?_⟩
  intro Fz F H D L l m c n δ d sv rv bad pv gv bv db kb w1 s0 s5 s10 s11 s13 s16 s17 s18 s19 s20 s21 s22 s23 s24 lf eF lm hbad hrb hpv hbv hgv hFl hHl hDl hLl
  have W := lf.mch.wf
  have hn := W.n6
  have hc1 := W.c1
  have hc3 := W.c3
  have hwl1 := lf.wl
  obtain ⟨br, rfl, hbr⟩ := (lf.row.up eF).tN_inv
  refine ⟨.ref br, rfl, br, _, rfl, .inr (same_t lm.fh hbr), fun q hq => ?_⟩
  have hql : q ≠ l := fun e => hHl (by rw [← e]; exact hq)
  have oq := lm.dl.off hq
  have hqS : q ∉ [D, L] := notin_of lm.dl.there hq
  have lm1 := lm.newL (o := .lst (w1.map vN)) hq
  have mu1 : Mu F (upd H q (.lst (w1.map vN))) q (.lst (w1.map vN)) := Mu.new lm.fh hq
  generalize upd H q (.lst (w1.map vN)) = H1 at lm1 mu1 ⊢
  refine ⟨.ref D, rfl, F, D, L, 4, rfl, lm1.fh, lm1.dl, by decide, by decide, fun r F2 H2 st2 hr => ?_⟩
  obtain ⟨⟨v4, rfl, hv4⟩, d2⟩ := hr
  have lm2 := lm1.stepDL st2 d2
  have mu2 := st2.mu mu1 hqS
  refine ⟨(v4 : Int), rfl, by omega, by omega, ?_⟩
  rw [Int.toNat_natCast]
  refine for_do (src_r (F := F2)) (fun i σ H' => ∃ (F' : Hp) (ws : List Nat) (u16 : Option V), σ = [s0, some (.ref D), some (vN c), some sv, some m, s5, some (vN n), some (.ref br), some bad, some (vN kb), s10, s11, some bv, s13, some pv, some gv, u16, s17, s18, some (.ref q), s20, s21, s22, s23, s24] ∧ LM K w F' H' D L c δ d ∧ Same F2 F' ∧ Mu F' H' q (.lst (ws.map vN)) ∧ Word c ws ∧ Coarse δ n w1 ws ∧ ws.length = w1.length + i) (fun i σ H' h => ?_) ⟨F2, w1, _, rfl, lm2, Same.refl _, mu2, lf.wd, Coarse.refl _, rfl⟩ (fun i x σ H' hi hx hp => ?_) fun σ H' hp => ?_
  · obtain ⟨F', _, _, _, lm', e', _⟩ := h
    exact e'.trans lm'.fh
  · obtain ⟨F', ws, u16, rfl, lm', e', mu', hws, hco, hwl⟩ := hp
    refine ⟨.ref q, rfl, .inl ⟨rfl, _, .inl (.inl mu'.at_)⟩, .ref D, rfl, .ref q, rfl, q, _, rfl, .inl (.inl (.inl mu'.at_)), _, _, rfl, rfl, F', D, L, (ws.map vN).length + 1, rfl, lm'.fh, lm'.dl, by omega, by rw [List.length_map]; omega, fun r F3 H3 st3 hr => ?_⟩
    obtain ⟨⟨at_, rfl, hat⟩, d3⟩ := hr
    rw [List.length_map] at hat
    refine ⟨.ref D, rfl, vN c, rfl, F3, D, L, c, rfl, st3.fh, d3, hc1, by omega, fun r F4 H4 st4 hr => ?_⟩
    obtain ⟨⟨y, rfl, hy⟩, d4⟩ := hr
    have st34 := st3.trans st4
    have lm4 := lm'.stepDL st34 d4
    have mu4 := st34.mu mu' hqS
    have el : (ws.map vN).take at_ ++ [vN y] ++ (ws.map vN).drop at_ = (ws.take at_ ++ y :: ws.drop at_).map vN := by
      rw [List.map_append, List.map_cons, List.map_take, List.map_drop, List.append_assoc] <;> rfl
    refine ⟨q, _, (at_ : Int), vN y, rfl, rfl, mu4.at_, by rw [List.length_map, sizeLine_eq]; omega, by omega, by omega, ?_⟩
    rw [Int.toNat_natCast, el]
    refine ⟨F4, ws.take at_ ++ y :: ws.drop at_, _, rfl, lm4.wrote mu4 oq.1 oq.2, e'.trans st34.ff, mu4.wrote, fun z hz => ?_, ?_, ?_⟩
    · rcases List.mem_append.mp hz with h | h
      · exact hws z (List.mem_of_mem_take h)
      · cases h with
        | head => exact hy
        | tail _ h => exact hws z (List.mem_of_mem_drop h)
    · have z := calm_ins W lf.nb hy (u := ws.take at_) (v := ws.drop at_) (fun z hz => hws z (List.mem_of_mem_take hz)) fun z hz => hws z (List.mem_of_mem_drop hz)
      rw [List.take_append_drop] at z
      exact hco.trans z
    · rw [List.length_append, List.length_cons, List.length_take, List.length_drop]
      omega
  · obtain ⟨F', ws, u16, rfl, lm', e', mu', hws, hco, hwl⟩ := hp
    obtain ⟨lm5, e5⟩ := lm'.frz mu' oq.1 oq.2
    have hq5 : upd F' q (.lst (ws.map vN)) q = some (.lst (ws.map vN)) := upd_same
    have eF5 := ((eF.trans st2.ff).trans e').trans e5
    have hgv5 : Giv (upd F' q (.lst (ws.map vN))) gv (.ref br) w1 l := hgv.imp id fun z => ⟨z.1, e5 _ _ (e' _ _ (st2.ff _ _ z.2))⟩
    generalize upd F' q (.lst (ws.map vN)) = F5 at lm5 e5 hq5 eF5 hgv5
    clear mu' mu1 mu2 lm2 d2 st2 lm1 hq lm hgv lm' e' hbr
    refine ⟨sv, rfl, .ref q, rfl, F5, sv, c, n, δ, q, ws, rfl, lm5.fh, lf.stp.up eF5, W, .inl (.inl (.inl hq5)), hws, fun r F6 H6 st6 hr => ?_⟩
    obtain ⟨bl, rfl, hbl⟩ := hr.tN_inv
    have lm6 := lm5.step0 st6
    have e6 := eF5.trans st6.ff
    have hb6 := hbv.up e6
    refine ⟨vN n, rfl, (n : Int), rfl, by omega, by omega, ?_⟩
    rw [Int.toNat_natCast]
    refine lc_do (S := []) (src_r (F := F6)) lm6.fh (fun a h => by cases h) (by rw [sizeLine_eq]; omega) (fun i acc _ _ => acc = []) rfl (fun i y acc F7 H7 hi hy st7 hp Y N hY hN => ?_) fun D7 acc F7 H7 st7 hD mu7 hl7 hp7 => ?_
    · have hy' : y = vN i := by rw [hy, Int.zero_add] <;> rfl
      subst hy'
      have hr7 : Dp K F7 (.ref bl) (tN (effM δ ws)) := hr.up st7.ff
      have hri : rep δ w1 i < n := Nat.lt_of_le_of_lt (rep_le W w1 hi).1 hi
      have hbe : (behM δ w1)[0]? = some (kerM δ w1) := by
        unfold behM
        rw [List.getElem?_map, List.getElem?_range (by omega), Option.map_some, List.drop_zero]
      have heq : ledM δ i ws = ledM δ (rep δ w1 i) ws := hco _ _ hi hri (rep_led W w1 hi).symm
      refine ⟨rfl, .ref bl, rfl, vN i, rfl, ix_tN hr7 st7.fh (eff_at ws (by rw [W.len]; exact hi)) ⟨.ref bl, rfl, bv, rfl, ixB_dl (i := 0) (hb6.up st7.ff) st7.fh (by rw [List.getElem?_map, hbe] <;> rfl) fun u hu => ⟨vN i, rfl, ix_tN hu st7.fh (ker_at W w1 hi) (ix_tN hr7 st7.fh (eff_at ws (by rw [W.len]; exact hri)) ⟨rfl, _, rfl, ?_⟩)⟩⟩⟩
      rw [dec_vN, decide_eq_true heq]
      exact iteF (hN F7 H7 (Stp.refl st7.fh) hp)
    · subst hp7
      have lm7 := lm6.step0 st7
      have oD := lm6.dl.off hD
      obtain ⟨lm8, e8⟩ := lm7.frz mu7 oD.1 oD.2
      have dD : Dp K (upd F7 D7 (.lst [])) (.ref D7) (.list []) := .lst (.inl (.inl upd_same)) .nil
      have hq8 := e8 _ _ (st7.ff _ _ (st6.ff _ _ hq5))
      have hgv8 : Giv (upd F7 D7 (.lst [])) gv (.ref br) w1 l := hgv5.imp id fun z => ⟨z.1, e8 _ _ (st7.ff _ _ (st6.ff _ _ z.2))⟩
      have eF8 := (e6.trans st7.ff).trans e8
      generalize upd F7 D7 (.lst []) = F8 at lm8 e8 dD hq8 hgv8 eF8
      refine ⟨Nat.zero_le _, fun p9 hp9 => ?_⟩
      have n9 := Stp.new (S := []) (o := .lst []) lm8.fh hp9
      have lm9 := lm8.step0 n9
      refine ⟨.list [], .list [], (dD.up n9.ff).up n9.fh, .lst (.inl (.inl upd_same)) .nil, shaped_lZ [], shaped_lZ [], _, rfl, ?_⟩
      rw [eqv_lnil]
      refine iteF ?_
      exact rE Fz _ _ D L l q m c n δ d sv (.ref br) bad pv gv db kb w1 ws _ _ _ _ _ _ _ _ _ _ _ _ _ _ _ lf (eF8.trans n9.ff) lm9 hbad hrb hpv (hgv8.imp id fun z => ⟨z.1, n9.ff _ _ z.2⟩) hFl (n9.ff _ _ hq8) hql hws (by omega) hDl hLl
end
end K11


set_option Elab.async false
set_option linter.all false
set_option maxRecDepth 100000
set_option maxHeartbeats 4000000
/-! law: four values. -/
namespace K11
open PySem PySem.Spec PyProof.Rows L2
theorem great_ex {c n : Nat} {δ : List (List Nat)} (W : WF c n δ) (nb : ¬ BlindM δ c) : ∃ g, GreatW δ c g := by
  have key : ∀ (k : Nat) (v : List Nat), cls n δ v ≤ k → Word c v → ∃ g, GreatW δ c g := fun k => by
    induction k with
    | zero =>
      intro v hk hv
      refine ⟨v, hv, fun x hx => Classical.byContradiction fun z => ?_⟩
      rw [ahead_ker W hx] at z
      have q := cls_lt W (calm_cons W nb hx hv) (Ne.symm z)
      omega
    | succ k ih =>
      intro v hk hv
      by_cases h : ∀ x, x < c → aheadM δ x (kerM δ v) = kerM δ v
      · exact ⟨v, hv, h⟩
      · obtain ⟨x, hx, z⟩ : ∃ x, x < c ∧ aheadM δ x (kerM δ v) ≠ kerM δ v := Classical.byContradiction fun q => h fun x hx => Classical.byContradiction fun z => q ⟨x, hx, z⟩
        rw [ahead_ker W hx] at z
        have q := cls_lt W (calm_cons W nb hx hv) (Ne.symm z)
        refine ih (x :: v) (by omega) fun y hy => ?_
        cases hy with
        | head => exact hx
        | tail _ hy => exact hv y hy
  exact key _ [] (Nat.le_refl _) fun x hx => by cases hx
theorem beh_zero {δ : List (List Nat)} {w1 : List Nat} : (behM δ w1)[0]? = some (kerM δ w1) := by
  unfold behM
  rw [List.getElem?_map, List.getElem?_range (by omega), Option.map_some, List.drop_zero]
section
variable {P : Program} {w : World} {K : PySem.W.Frag} {mg : Str → Option Value} {base : Heap}
theorem seg_C (T : Top P w K mg base) {f : Addr} {cdv : Value} {s : Shared} {H0 : Hp} (hr : LR f cdv s) : ∃ t, PSs (LX P w K mg base f cdv s H0) (d_law.body.drop 11) t ∧
    ∀ (Fz F H : Hp) (D L l : Addr) (m : V) (c n : Nat) (δ : List (List Nat)) (d : Addr) (sv rv bad pv gv bv : V) (db : PyData) (kb k0 : Nat) (w1 : List Nat) (s0 s5 s10 s11 s16 s17 s18 s19 s20 s21 s22 s23 s24 : Option V), LF K Fz m c n δ d sv rv w1 → Same Fz F → LM K w F H D L c δ d → Any K Fz bad db → RowBad c db kb → Dp K Fz pv (tN (keptM δ w1)) → Dp K Fz bv (.list ((behM δ w1).map tN)) → Giv F gv rv w1 l → Fz l = none → H l ≠ none → D ≠ l → L ≠ l → (∀ g, GreatW δ c g → k0 = cls n δ g) →
      t lawD [s0, some (.ref D), some (vN c), some sv, some m, s5, some (vN n), some rv, some bad, some (vN kb), s10, s11, some bv, some (.int ((n : Int) - (k0 : Int))), some pv, some gv, s16, s17, s18, s19, s20, s21, s22, s23, s24] H := by
  have nd := (sc_law).nd
  obtain ⟨tD, hD, rD⟩ := seg_D T (H0 := H0) hr
  refine ⟨_, (pss_cons (ps_for (passes_of rfl) rfl (pi_range1 (by rfl) T.n_range (pa_cons pe_int pa_nil)) (pg_name (i := 16) nd rfl (.inl rfl))
      (pss_cons (ps_set (i := 17) nd rfl (.inl rfl) (pe_cal (ok_law_spoiled T) hr (by decide) (by rfl) (pa_cons (pv 1) (pa_cons (pv 14) (pa_cons (pe_callB cl_len (by rfl) T.n_len bt_len (pa_cons (pv 7) pa_nil)) pa_nil)))))
    (pss_cons (ps_set (i := 18) nd rfl (.inl rfl) (L2.pe_and (pe_cal (ok_law_places T) hr (by decide) (by rfl) (pa_cons (pv 17) (pa_cons (pe_callB cl_len (by rfl) T.n_len bt_len (pa_cons (pv 7) pa_nil)) pa_nil))) (pe_one (pe_cmpR op_le (pe_callB cl_len (by rfl) T.n_len bt_len (pa_cons (pv 17) pa_nil)) (pv 13) (nomark _)))))
    (pss_cons (ps_set (i := 18) nd rfl (.inl rfl) (L2.pe_and (pv 18) (pe_one (pe_cmpR (op_eqD hr.units) (pe_ix ix_both (pe_cal (ok_law_behind T) hr (by decide) (by rfl) (pa_cons (pv 3) (pa_cons (pe_lc (own := [("_law_k", 11)]) (g := (gName 11)) (tt := tYes) (te := (tOp (rIxB K) (tVar 7) (tVar 11))) rfl nd (pi_tup (pv 17)) (blkOk_by (by kernel_rfl)) (fun _ _ _ _ _ => (pg_name (i := 11) nd rfl (.inl rfl))) (fun _ _ _ _ _ => pts_nil) (fun _ _ _ _ _ => (pe_ix ix_both (pv 7) (pv 11) (fun _ _ => rfl)))) pa_nil))) pe_int (fun _ _ => rfl)) (pe_ix ix_both (pv 12) pe_int (fun _ _ => rfl)) (nomark _)))))
    (pss_one (ps_if (pt_cmpR op_ne (pe_callB (call_repr rfl hr.units) (by rfl) T.n_repr bt_repr (pa_cons (pe_cal (ok_law_asked T) hr (by decide) (by rfl) (pa_cons pe_int (pa_cons (pv 4) (pa_cons (pv 15) (pa_cons (pv 17) pa_nil))))) pa_nil)) (pe_callB (call_repr rfl hr.units) (by rfl) T.n_repr bt_repr (pa_cons (pv 18) pa_nil)) (nomark _))
      (pss_one (ps_ret pe_bl))
      pss_nil))))))
    hD), ?_⟩
  intro Fz F H D L l m c n δ d sv rv bad pv gv bv db kb k0 w1 s0 s5 s10 s11 s16 s17 s18 s19 s20 s21 s22 s23 s24 lf eF lm hbad hrb hpv hbv hgv hFl hHl hDl hLl hk0
  have W := lf.mch.wf
  have hn := W.n6
  have hwl1 := lf.wl
  have nb := lf.nb
  have kp := kept_small (δ := δ) (w1 := w1) (c := c) (by omega)
  refine ⟨4, rfl, by decide, by decide, ?_⟩
  refine for_do (src_r (F := F)) (fun i σ H' => ∃ (F' : Hp) (s16 s17 s18 : Option V), σ = [s0, some (.ref D), some (vN c), some sv, some m, s5, some (vN n), some rv, some bad, some (vN kb), s10, s11, some bv, some (.int ((n : Int) - (k0 : Int))), some pv, some gv, s16, s17, s18, s19, s20, s21, s22, s23, s24] ∧ LM K w F' H' D L c δ d ∧ Same F F' ∧ H' l ≠ none) (fun i σ H' h => ?_) ⟨F, _, _, _, rfl, lm, Same.refl _, hHl⟩ (fun i x σ H1 hi hx hp => ?_) fun σ H' hp => ?_
  · obtain ⟨F', _, _, _, _, lm', e', _⟩ := h
    exact e'.trans lm'.fh
  · obtain ⟨F1, u16, u17, u18, rfl, lm1, e1, hl1⟩ := hp
    have eF1 := eF.trans e1
    obtain ⟨br, rfl, hbr⟩ := (lf.row.up eF1).tN_inv
    refine ⟨.ref D, rfl, pv, rfl, .ref br, rfl, br, _, rfl, .inr (same_t lm1.fh hbr), F1, D, L, pv, keptM δ w1, (w1.map vN).length, rfl, lm1.fh, lm1.dl, hpv.up eF1, by omega, by rw [List.length_map]; omega, fun val F2 H2 st2 hr => ?_⟩
    obtain ⟨⟨dv, hdv, hsv⟩, d2⟩ := hr
    have lm2 := lm1.stepDL st2 d2
    have eF2 := eF1.trans st2.ff
    have e12 := e1.trans st2.ff
    have hl2 : H2 l ≠ none := fun z => hl1 (st2.none_ z)
    have hbr2 := same_t st2.ff hbr
    clear lm1 d2 st2 hbr
    have key1 : ∀ k : VK, (∀ (c1 : Bool), (c1 = true ↔ ∃ ks : List Nat, dv = tN ks ∧ (∀ t ∈ ks, t < w1.length) ∧ ks.Pairwise (· < ·) ∧ ks.length + k0 ≤ n) → k (.bl c1) H2) → tAndV (tCall (spPlL K) [] C8.E0 (tCons (tVar 17) (tCons (tCB (rLen_ K) (tCons (tVar 7) tNil)) tNil))) (tOp rLe_ (tCB (rLen_ K) (tCons (tVar 17) tNil)) (tVar 13)) [s0, some (.ref D), some (vN c), some sv, some m, s5, some (vN n), some (.ref br), some bad, some (vN kb), s10, s11, some bv, some (.int ((n : Int) - (k0 : Int))), some pv, some gv, some x, some val, u18, s19, s20, s21, s22, s23, s24] H2 k := fun k rest => by
      refine ⟨val, rfl, .ref br, rfl, br, _, rfl, .inr (same_t lm2.fh hbr2), F2, val, dv, (w1.map vN).length, rfl, lm2.fh, .d hdv, fun b hb => ⟨_, rfl, ?_⟩⟩
      rw [List.length_map] at hb
      cases b with
      | false =>
        refine iteF (rest false ⟨fun z => (by cases z), fun z => ?_⟩)
        obtain ⟨ks, e, h1, h2, _⟩ := z
        exact hb.mpr ⟨ks, e, h1, h2⟩
      | true =>
        obtain ⟨ks, rfl, h1, h2⟩ := hb.mp rfl
        obtain ⟨bw, rfl, hbw⟩ := hdv.tN_inv
        refine iteT ⟨.ref bw, rfl, bw, _, rfl, .inr (same_t lm2.fh hbw), _, rfl, _, _, rfl, rfl, rest _ ?_⟩
        rw [decide_eq_true_iff, List.length_map]
        constructor
        · intro z
          exact ⟨ks, rfl, h1, h2, by omega⟩
        · rintro ⟨ks2, e, _, _, z⟩
          injection e with e
          have e := map_nD_inj e
          subst e
          omega
    show tAndV (tCall (spPlL K) [] C8.E0 (tCons (tVar 17) (tCons (tCB (rLen_ K) (tCons (tVar 7) tNil)) tNil))) (tOp rLe_ (tCB (rLen_ K) (tCons (tVar 17) tNil)) (tVar 13)) [s0, some (.ref D), some (vN c), some sv, some m, s5, some (vN n), some (.ref br), some bad, some (vN kb), s10, s11, some bv, some (.int ((n : Int) - (k0 : Int))), some pv, some gv, some x, some val, u18, s19, s20, s21, s22, s23, s24] H2 _
    refine key1 _ fun c1 hc1 => ?_
    clear key1
    have key2 : ∀ k : VK, (∀ (rb : Bool) (F3 H3 : Hp), LM K w F3 H3 D L c δ d → Same F2 F3 → H3 l ≠ none → (rb = true ↔ ∃ ks : List Nat, dv = tN ks ∧ (∀ t ∈ ks, t < w1.length) ∧ ks.Pairwise (· < ·) ∧ ks.length + k0 ≤ n ∧ kerM δ (atW w1 ks) = kerM δ w1) → k (.bl rb) H3) → tAndV (tVar 18) (tOp (rEqD K) (tOp (rIxB K) (tCall (spBeh K) [] C8.E0 (tCons (tVar 3) (tCons (tLc (iTup K (tVar 17)) (gName 11) tYes (tOp (rIxB K) (tVar 7) (tVar 11)) [11]) tNil))) (tC (.int 0))) (tOp (rIxB K) (tVar 12) (tC (.int 0)))) [s0, some (.ref D), some (vN c), some sv, some m, s5, some (vN n), some (.ref br), some bad, some (vN kb), s10, s11, some bv, some (.int ((n : Int) - (k0 : Int))), some pv, some gv, some x, some val, some (.bl c1), s19, s20, s21, s22, s23, s24] H2 k := fun k rest => by
      refine ⟨.bl c1, rfl, c1, rfl, ?_⟩
      cases c1 with
      | false =>
        refine iteF (rest false F2 H2 lm2 (Same.refl _) hl2 ⟨fun z => (by cases z), fun z => ?_⟩)
        obtain ⟨ks, e, h1, h2, h3, _⟩ := z
        exact hc1.mpr ⟨ks, e, h1, h2, h3⟩
      | true =>
        obtain ⟨ks, rfl, h1, h2, h3⟩ := hc1.mp rfl
        obtain ⟨bw, rfl, hbw⟩ := hdv.tN_inv
        have hkl : ks.length ≤ 1000 := by omega
        have hkk : (ks.map vN).length = ks.length := List.length_map ..
        refine iteT ⟨sv, rfl, .ref bw, rfl, bw, rfl, ⟨_, same_t lm2.fh hbw⟩, ?_⟩
        refine lc_do (S := []) (src_t hbw) lm2.fh (fun a h => by cases h) (by rw [sizeLine_eq, hkk]; omega) (fun i acc _ _ => acc = (atW w1 (ks.take i)).map vN) rfl (fun i y acc F6 H6 hi hy st6 hp Y N hY hN => ?_) fun p5 acc F6 H6 st6 hD mu hl6 hp => ?_
        · obtain ⟨t, ht, rfl⟩ := vN_at hy
          have htl := h1 t (List.mem_of_getElem? ht)
          refine ⟨rfl, lc_yes ⟨.ref br, rfl, vN t, rfl, ix_tN ((lf.row.up eF2).up st6.ff) st6.fh (getD_some htl) (hY _ F6 H6 (Stp.refl st6.fh) ?_)⟩⟩
          rw [hp, take_snoc ht]
          unfold atW
          rw [List.map_append, List.map_append] <;> rfl
        · rw [hkk, List.take_length] at hp
          have lm6 := lm2.step0 st6
          have oD := lm2.dl.off hD
          obtain ⟨lm7, e7⟩ := lm6.frz mu oD.1 oD.2
          have hsq : SqL K (upd F6 p5 (.lst acc)) p5 ((atW w1 ks).map vN) := by
            rw [hp]
            exact .inl (.inl upd_same)
          have e27 := st6.ff.trans e7
          have hl7 : H6 l ≠ none := fun z => hl2 (st6.none_ z)
          generalize upd F6 p5 (.lst acc) = F7 at lm7 e7 hsq e27
          have hword : Word c (atW w1 ks) := fun x hx => by
            obtain ⟨k, hk, rfl⟩ := List.mem_map.mp hx
            exact lf.wd _ (List.mem_of_getElem? (getD_some (h1 k hk)))
          refine ⟨F7, sv, c, n, δ, p5, atW w1 ks, rfl, lm7.fh, lf.stp.up (eF2.trans e27), W, .inl hsq, hword, by unfold atW; rw [List.length_map]; omega, fun r F8 H8 st8 hr => ?_⟩
          have lm8 := lm7.step0 st8
          refine ixB_dl (i := 0) hr lm8.fh (by rw [List.getElem?_map, beh_zero] <;> rfl) fun u hu => ⟨bv, rfl, ixB_dl (i := 0) (((hbv.up eF2).up e27).up st8.ff) lm8.fh (by rw [List.getElem?_map, beh_zero] <;> rfl) fun u2 hu2 => ?_⟩
          refine ⟨_, _, hu.up lm8.fh, hu2.up lm8.fh, shaped_tN _, shaped_tN _, ?_⟩
          rw [eqv_tN]
          refine rest _ F8 H8 lm8 (e27.trans st8.ff) (fun z => hl7 (st8.none_ z)) ?_
          rw [decide_eq_true_iff]
          constructor
          · intro z
            exact ⟨ks, rfl, h1, h2, h3, z⟩
          · rintro ⟨ks2, e, _, _, _, z⟩
            injection e with e
            have e := map_nD_inj e
            subst e
            exact z
    show tAndV (tVar 18) (tOp (rEqD K) (tOp (rIxB K) (tCall (spBeh K) [] C8.E0 (tCons (tVar 3) (tCons (tLc (iTup K (tVar 17)) (gName 11) tYes (tOp (rIxB K) (tVar 7) (tVar 11)) [11]) tNil))) (tC (.int 0))) (tOp (rIxB K) (tVar 12) (tC (.int 0)))) [s0, some (.ref D), some (vN c), some sv, some m, s5, some (vN n), some (.ref br), some bad, some (vN kb), s10, s11, some bv, some (.int ((n : Int) - (k0 : Int))), some pv, some gv, some x, some val, some (.bl c1), s19, s20, s21, s22, s23, s24] H2 _
    refine key2 _ fun rb F3 H3 lm3 e23 hl3 hrb3 => ?_
    clear key2 hc1
    have eF3 := eF2.trans e23
    have e13 := e12.trans e23
    have hgv3 : Giv F3 gv (.ref br) w1 l := hgv.imp id fun z => ⟨z.1, e13 _ _ z.2⟩
    obtain ⟨dg, hdg, hok⟩ : ∃ dg, Any K F3 gv dg ∧ RowOk c dg w1 := by
      rcases hgv3 with rfl | ⟨rfl, hg⟩
      · exact ⟨tN w1, .d (lf.row.up eF3), .inr rfl, lf.wd⟩
      · exact ⟨lN w1, .d (.of_lN (.inl (.inl hg))), .inl rfl, lf.wd⟩
    refine ⟨m, rfl, gv, rfl, val, rfl, F3, 1, m, gv, val, c, n, δ, d, dg, dv, rfl, lm3.fh, lf.mch.up eF3, lm3.sta, hdg, fun w' hw' => by rw [rowOk_inj hw' hok]; omega, .d (hdv.up e23), hsv, fun z => absurd z nb, fun _ => ⟨fun w' hw' r F4 H4 st4 hr => ?_, fun k hk => (rowBad_not hok hk).elim⟩⟩
    obtain rfl := rowOk_inj hw' hok
    obtain ⟨hr, t4⟩ := hr
    obtain ⟨b, rfl, hb⟩ := hr.2 (by decide)
    obtain ⟨g, hg⟩ := great_ex W nb
    have ebr : b = rb := by
      rw [Bool.eq_iff_iff, hb g hg, hrb3]
      unfold Enough
      rw [hk0 g hg]
    subst ebr
    have lm4 := lm3.stepDT st4 t4
    try unfold tNil
    refine rep_bl ⟨.bl b, rfl, rep_bl ⟨rfl, _, rfl, ?_⟩⟩
    rw [str_ne]
    exact iteF ⟨F4, _, _, _, rfl, lm4, e13.trans st4.ff, fun z => hl3 (st4.none_ z)⟩
  · obtain ⟨F1, u16, u17, u18, rfl, lm1, e1, hl1⟩ := hp
    exact rD Fz F1 H' D L l m c n δ d sv rv bad pv gv bv db kb w1 _ _ _ _ _ _ _ _ _ _ _ _ _ _ lf (eF.trans e1) lm1 hbad hrb hpv hbv (hgv.imp id fun z => ⟨z.1, e1 _ _ z.2⟩) hFl hl1 hDl hLl
end
end K11


set_option Elab.async false
set_option linter.all false
set_option maxRecDepth 100000
set_option maxHeartbeats 4000000
/-! law: the kept commands. -/
namespace K11
open PySem PySem.Spec PyProof.Rows L2
section
variable {P : Program} {w : World} {K : PySem.W.Frag} {mg : Str → Option Value} {base : Heap}
theorem seg_B (T : Top P w K mg base) {f : Addr} {cdv : Value} {s : Shared} {H0 : Hp} (hr : LR f cdv s) : ∃ t, PSs (LX P w K mg base f cdv s H0) (d_law.body.drop 6) t ∧
    ∀ (Fz H : Hp) (D L : Addr) (m : V) (c n : Nat) (δ : List (List Nat)) (d : Addr) (sv rv bad du : V) (db : PyData) (kb : Nat) (w1 : List Nat) (Lk : List (List Nat)) (s0 s10 s11 s12 s13 s14 s15 s16 s17 s18 s19 s20 s21 s22 s23 s24 : Option V), LF K Fz m c n δ d sv rv w1 → LM K w Fz H D L c δ d → Any K Fz bad db → RowBad c db kb → Dp K Fz du (.list (Lk.map tN)) → AllK δ c Lk → Lk.length ≤ 46656 →
      t lawD [s0, some (.ref D), some (vN c), some sv, some m, some du, some (vN n), some rv, some bad, some (vN kb), s10, s11, s12, s13, s14, s15, s16, s17, s18, s19, s20, s21, s22, s23, s24] H := by
  have nd := (sc_law).nd
  obtain ⟨tC_, hC, rC⟩ := seg_C T (H0 := H0) hr
  refine ⟨_, (pss_cons (ps_asg (pe_tup (pa_cons (pe_cal (ok_law_behind T) hr (by decide) (by rfl) (pa_cons (pv 3) (pa_cons (pv 7) pa_nil))) (pa_cons (pe_op op_sub (pv 6) (pe_cal (ok_law_least T) hr (by decide) (by rfl) (pa_cons (pv 5) pa_nil))) pa_nil))) (pg_tup rfl (pgs_cons (pg_name (i := 12) nd rfl (.inr rfl)) (pgs_cons (pg_name (i := 13) nd rfl (.inl rfl)) pgs_nil))))
    (pss_cons (ps_set (i := 14) nd rfl (.inl rfl) (pe_callTy cl_tup (by rfl) T.n_tuple bt_tuple (pa_cons (pe_lc (own := [("_law_k", 11)]) (g := (gName 11)) (tt := (tTest (tOp (rNeD K) (tOp (rIxB K) (tVar 12) (tVar 11)) (tOp (rIxB K) (tVar 12) (tOp rAdd_ (tVar 11) (tC (.int 1))))))) (te := (tVar 11)) rfl nd (pi_range1 (by rfl) T.n_range (pa_cons (pe_callB cl_len (by rfl) T.n_len bt_len (pa_cons (pv 7) pa_nil)) pa_nil)) (blkOk_by (by kernel_rfl)) (fun _ _ _ _ _ => (pg_name (i := 11) nd rfl (.inl rfl))) (fun _ _ _ _ _ => (pts_one (pt_cmpR (op_neD hr.units) (pe_ix ix_both (pv 12) (pv 11) (fun _ _ => rfl)) (pe_ix ix_both (pv 12) (pe_op op_add (pv 11) pe_int) (fun _ _ => rfl)) (nomark _)))) (fun _ _ _ _ _ => (pv 11))) pa_nil)))
    (pss_cons (ps_if (pw_or (pt_cmpR op_gt (pe_callB cl_len (by rfl) T.n_len bt_len (pa_cons (pv 14) pa_nil)) (pv 13) (nomark _)) (pw_or1 (pt_cmpR (op_neD hr.units) (pe_ix ix_both (pe_cal (ok_law_behind T) hr (by decide) (by rfl) (pa_cons (pv 3) (pa_cons (pe_lc (own := [("_law_k", 11)]) (g := (gName 11)) (tt := tYes) (te := (tOp (rIxB K) (tVar 7) (tVar 11))) rfl nd (pi_tup (pv 14)) (blkOk_by (by kernel_rfl)) (fun _ _ _ _ _ => (pg_name (i := 11) nd rfl (.inl rfl))) (fun _ _ _ _ _ => pts_nil) (fun _ _ _ _ _ => (pe_ix ix_both (pv 7) (pv 11) (fun _ _ => rfl)))) pa_nil))) pe_int (fun _ _ => rfl)) (pe_ix ix_both (pv 12) pe_int (fun _ _ => rfl)) (nomark _)))).pt
      (pss_one (ps_ret pe_bl))
      pss_nil)
    (pss_cons (ps_set (i := 15) nd rfl (.inl rfl) (pe_ifExp (pt_cmpR op_eq (pe_cal (ok_law_any T) hr (by decide) (by rfl) (pa_cons (pv 1) (pa_cons pe_int pa_nil))) pe_int (nomark _)) (pe_callTy cl_lst (by rfl) T.n_list bt_list (pa_cons (pv 7) pa_nil)) (pv 7)))
    (pss_cons (ps_if (pw_or (pt_cmpR op_ne (pe_callB (call_repr rfl hr.units) (by rfl) T.n_repr bt_repr (pa_cons (pe_cal (ok_law_asked T) hr (by decide) (by rfl) (pa_cons pe_int (pa_cons (pv 4) (pa_cons (pv 15) (pa_cons pe_non pa_nil))))) pa_nil)) (pe_callB (call_repr rfl hr.units) (by rfl) T.n_repr bt_repr (pa_cons (pv 14) pa_nil)) (nomark _)) (pw_or1 (pt_cmpR op_ne (pe_callB (call_repr rfl hr.units) (by rfl) T.n_repr bt_repr (pa_cons (pe_cal (ok_law_asked T) hr (by decide) (by rfl) (pa_cons pe_int (pa_cons (pv 4) (pa_cons (pv 15) (pa_cons (pv 14) pa_nil))))) pa_nil)) pe_str (nomark _)))).pt
      (pss_one (ps_ret pe_bl))
      pss_nil)
    hC))))), ?_⟩
  intro Fz H D L m c n δ d sv rv bad du db kb w1 Lk s0 s10 s11 s12 s13 s14 s15 s16 s17 s18 s19 s20 s21 s22 s23 s24 lf lm hbad hrb hdu hall hLk
  have W := lf.mch.wf
  have hn := W.n6
  have hwl1 := lf.wl
  have nb := lf.nb
  have kp := kept_small (δ := δ) (w1 := w1) (c := c) (by omega)
  obtain ⟨br, rfl, hbr⟩ := lf.row.tN_inv
  have hLk1 : 1 ≤ Lk.length := List.length_pos_of_mem (hall.2 [] fun x hx => by cases hx)
  refine ⟨sv, rfl, .ref br, rfl, Fz, sv, c, n, δ, br, w1, rfl, lm.fh, lf.stp, W, .inr hbr, lf.wd, by omega, fun bv F1 H1 st1 hbv => ?_⟩
  refine ⟨vN n, rfl, du, rfl, F1, du, Lk, n, rfl, st1.fh, hdu.up st1.ff, hLk1, by omega, fun κ hκ => ((allK_kers W hall) κ hκ).1, by omega, fun r2 F2 H2 st2 hr2 => ?_⟩
  obtain ⟨k0, rfl, hk1, hk2⟩ := hr2
  have hk0 : ∀ g, GreatW δ c g → k0 = cls n δ g := fun g hg => least_great W hall hk1 hk2 hg
  have hk3 : k0 ≤ cls n δ w1 := least_ge W hall hk2 lf.wd
  refine ⟨_, _, rfl, rfl, two_le, fun pt hpt => ⟨pt, _, rfl, .inl (.inl upd_same), rfl, _, _, rfl, _, _, rfl, rfl, ?_⟩⟩
  have n3 := (st1.trans st2).trans (Stp.new (S := []) (o := .tup [bv, .int ((n : Int) - (k0 : Int))]) st2.fh hpt)
  have lm3 := lm.step0 n3
  have lf3 := lf.up n3.ff
  have hbv3 := (hbv.up st2.ff).up (Stp.new (S := []) (o := .tup [bv, .int ((n : Int) - (k0 : Int))]) st2.fh hpt).ff
  have hbad3 := hbad.up n3.ff
  have hbr3 := same_t n3.ff hbr
  generalize upd F2 pt (.tup [bv, .int ((n : Int) - (k0 : Int))]) = F3 at lm3 lf3 hbv3 hbad3 hbr3
  generalize upd H2 pt (.tup [bv, .int ((n : Int) - (k0 : Int))]) = H3 at lm3 ⊢
  clear n3 hpt st1 st2 lm lf hbv hbad hbr hdu hk1 hk2
  have hrl : (w1.map vN).length = w1.length := List.length_map ..
  refine ⟨.ref br, rfl, br, _, rfl, .inr (same_t lm3.fh hbr3), ((w1.length : Nat) : Int), by rw [hrl], by omega, by omega, ?_⟩
  rw [Int.toNat_natCast]
  refine lc_do (S := []) (src_r (F := F3)) lm3.fh (fun a h => by cases h) (by rw [sizeLine_eq]; omega) (fun i acc _ _ => acc = ((List.range i).filter (chg δ w1)).map vN) rfl (fun i y acc F4 H4 hi hy st4 hp Y N hY hN => ?_) fun p4 acc F4 H4 st4 hD4 mu4 hl4 hp4 => ?_
  · have hy' : y = vN i := by rw [hy, Int.zero_add] <;> rfl
    subst hy'
    have hb4 := hbv3.up st4.ff
    have e1 : ((behM δ w1).map tN)[i]? = some (tN (kerM δ (w1.drop i))) := by
      unfold behM
      rw [List.getElem?_map, List.getElem?_map, List.getElem?_range (by omega)] <;> rfl
    have e2 : ((behM δ w1).map tN)[i + 1]? = some (tN (kerM δ (w1.drop (i + 1)))) := by
      unfold behM
      rw [List.getElem?_map, List.getElem?_map, List.getElem?_range (by omega)] <;> rfl
    refine ⟨rfl, bv, rfl, vN i, rfl, ixB_dl hb4 st4.fh e1 fun u hu => ⟨bv, rfl, vN i, rfl, _, _, rfl, rfl, ?_⟩⟩
    show rIxB K bv (vN (i + 1)) H4 _
    refine ixB_dl hb4 st4.fh e2 fun u2 hu2 => ⟨_, _, hu.up st4.fh, hu2.up st4.fh, shaped_tN _, shaped_tN _, _, rfl, ?_⟩
    rw [eqv_tN]
    have hch : chg δ w1 i = !decide (kerM δ (w1.drop i) = kerM δ (w1.drop (i + 1))) := by
      unfold chg
      rw [decide_not]
    rw [← hch]
    cases hq : chg δ w1 i with
    | true =>
      refine iteT ⟨vN i, rfl, hY _ F4 H4 (Stp.refl st4.fh) ?_⟩
      rw [hp, List.range_succ, List.filter_append, List.map_append, List.filter_cons_of_pos hq] <;> rfl
    | false =>
      refine iteF (hN F4 H4 (Stp.refl st4.fh) ?_)
      rw [hp, List.range_succ, List.filter_append, List.filter_cons_of_neg (by rw [hq]; decide), List.filter_nil, List.append_nil]
  · have hp4' : acc = (keptM δ w1).map vN := hp4
    subst hp4'
    refine ⟨p4, _, rfl, .inl ⟨.inl (.inl mu4.at_), fun pp hpp => ?_⟩⟩
    have n5 := st4.trans (Stp.new (S := []) (o := .tup ((keptM δ w1).map vN)) st4.fh hpp)
    have lm5 := lm3.step0 n5
    have lf5 := lf3.up n5.ff
    have hbv5 := hbv3.up n5.ff
    have hbad5 := hbad3.up n5.ff
    have hbr5 := same_t n5.ff hbr3
    have hpv5 : Dp K (upd F4 pp (.tup ((keptM δ w1).map vN))) (.ref pp) (tN (keptM δ w1)) := dp_tup st4.fh hpp (all_nats _)
    generalize upd F4 pp (.tup ((keptM δ w1).map vN)) = F5 at lm5 lf5 hbv5 hbad5 hbr5 hpv5
    generalize upd H4 pp (.tup ((keptM δ w1).map vN)) = H5 at lm5 ⊢
    clear n5 hpp mu4 hD4 st4 lm3 lf3 hbv3 hbad3 hbr3 hp4
    obtain ⟨pq, ep, hpp5⟩ := hpv5.tN_inv
    cases ep
    have hkl := kept_len W nb lf5.wd
    refine ⟨.ref pp, rfl, pp, _, rfl, .inr (same_t lm5.fh hpp5), _, rfl, _, _, rfl, rfl, _, rfl, ?_⟩
    rw [decide_eq_false (by rw [List.length_map]; omega)]
    have hkk : ((keptM δ w1).map vN).length = (keptM δ w1).length := List.length_map ..
    refine iteF ⟨sv, rfl, .ref pp, rfl, pp, rfl, ⟨_, same_t lm5.fh hpp5⟩, ?_⟩
    refine lc_do (S := []) (src_t hpp5) lm5.fh (fun a h => by cases h) (by rw [sizeLine_eq, hkk]; omega) (fun i acc _ _ => acc = (atW w1 ((keptM δ w1).take i)).map vN) rfl (fun i y acc F6 H6 hi hy st6 hp Y N hY hN => ?_) fun p6 acc F6 H6 st6 hD mu hl6 hp => ?_
    · obtain ⟨t, ht, rfl⟩ := vN_at hy
      have htl := keptM_lt t (List.mem_of_getElem? ht)
      refine ⟨rfl, lc_yes ⟨.ref br, rfl, vN t, rfl, ix_tN (lf5.row.up st6.ff) st6.fh (getD_some htl) (hY _ F6 H6 (Stp.refl st6.fh) ?_)⟩⟩
      rw [hp, take_snoc ht]
      unfold atW
      rw [List.map_append, List.map_append] <;> rfl
    · rw [hkk, List.take_length] at hp
      have lm6 := lm5.step0 st6
      have oD := lm5.dl.off hD
      obtain ⟨lm7, e7⟩ := lm6.frz mu oD.1 oD.2
      have hsq : SqL K (upd F6 p6 (.lst acc)) p6 ((atW w1 (keptM δ w1)).map vN) := by
        rw [hp]
        exact .inl (.inl upd_same)
      have e57 := st6.ff.trans e7
      generalize upd F6 p6 (.lst acc) = F7 at lm7 e7 hsq e57
      have hword : Word c (atW w1 (keptM δ w1)) := fun x hx => by
        obtain ⟨k, hk, rfl⟩ := List.mem_map.mp hx
        exact lf5.wd _ (List.mem_of_getElem? (getD_some (keptM_lt k hk)))
      refine ⟨F7, sv, c, n, δ, p6, atW w1 (keptM δ w1), rfl, lm7.fh, lf5.stp.up e57, W, .inl hsq, hword, by unfold atW; rw [List.length_map]; omega, fun r F8 H8 st8 hr => ?_⟩
      have lm8 := lm7.step0 st8
      have e58 := e57.trans st8.ff
      refine ixB_dl (i := 0) hr lm8.fh (by rw [List.getElem?_map, beh_zero] <;> rfl) fun u hu => ⟨bv, rfl, ixB_dl (i := 0) (hbv5.up e58) lm8.fh (by rw [List.getElem?_map, beh_zero] <;> rfl) fun u2 hu2 => ?_⟩
      refine ⟨_, _, hu.up lm8.fh, hu2.up lm8.fh, shaped_tN _, shaped_tN _, _, rfl, ?_⟩
      rw [eqv_tN, decide_eq_true (kept_ker W lf5.wd)]
      refine iteF ?_
      have lf8 := lf5.up e58
      have hbv8 := hbv5.up e58
      have hbad8 := hbad5.up e58
      have hpv8 := hpv5.up e58
      clear hu hu2 hr st8 lm7 e57 hsq e7 mu lm6 lm5 lf5 hbv5 hbad5 hpv5 hpp5 st6 e58
      have key : ∀ k : VK, (∀ (gv : V) (l : Addr) (F9 H9 : Hp), LM K w F9 H9 D L c δ d → Same F8 F9 → Giv F9 gv (.ref br) w1 l → F8 l = none → H9 l ≠ none → D ≠ l → L ≠ l → k gv H9) → tIf (tTest (tOp rEq (tCall (spAny K) [] C8.E0 (tCons (tVar 1) (tCons (tC (.int 2)) tNil))) (tC (.int 0)))) (tCB (rLst_ K) (tCons (tVar 7) tNil)) (tVar 7) [s0, some (.ref D), some (vN c), some sv, some m, some du, some (vN n), some (.ref br), some bad, some (vN kb), s10, s11, some bv, some (.int ((n : Int) - (k0 : Int))), some (.ref pp), s15, s16, s17, s18, s19, s20, s21, s22, s23, s24] H8 k := fun k rest => by
        refine ⟨.ref D, rfl, F8, D, L, 2, rfl, lm8.fh, lm8.dl, by decide, by decide, fun r F9 H9 st9 hr => ?_⟩
        obtain ⟨⟨v2, rfl, _⟩, d9⟩ := hr
        have lm9 := lm8.stepDL st9 d9
        refine ⟨rfl, _, rfl, ?_⟩
        have hbr9 : SqT K F9 br (w1.map vN) := by
          obtain ⟨b, e, h⟩ := (lf8.row.up st9.ff).tN_inv
          cases e
          exact h
        cases decide (vN v2 = V.int 0) with
        | true =>
          refine iteT ⟨.ref br, rfl, br, _, rfl, .inr (same_t lm9.fh hbr9), fun l hl => ?_⟩
          have n9 := Stp.new (S := []) (o := .lst (w1.map vN)) lm9.fh hl
          have ol := lm9.dl.off hl
          exact rest (.ref l) l _ _ (lm9.step0 n9) (st9.ff.trans n9.ff) (.inr ⟨rfl, upd_same⟩) (fr_none lm8.fh (st9.none_ hl)) (by rw [upd_same]; simp) ol.1 ol.2
        | false =>
          have hd9 : F9 d = none := by
            obtain ⟨xs, mu, _⟩ := lm9.sta.f.ex
            exact mu.fr
          have hd8 : F8 d = none := by
            cases z : F8 d with
            | none => rfl
            | some u =>
              rw [st9.ff _ _ z] at hd9
              cases hd9
          refine iteF ⟨.ref br, rfl, rest (.ref br) d F9 H9 lm9 st9.ff (.inl rfl) hd8 lm9.sta.f.there (fun e => ?_) fun e => ?_⟩
          · exact lm9.offD D DealAt.inD (by rw [e]; exact List.mem_cons_self)
          · exact lm9.offD L DealAt.inL (by rw [e]; exact List.mem_cons_self)
      show tIf (tTest (tOp rEq (tCall (spAny K) [] C8.E0 (tCons (tVar 1) (tCons (tC (.int 2)) tNil))) (tC (.int 0)))) (tCB (rLst_ K) (tCons (tVar 7) tNil)) (tVar 7) [s0, some (.ref D), some (vN c), some sv, some m, some du, some (vN n), some (.ref br), some bad, some (vN kb), s10, s11, some bv, some (.int ((n : Int) - (k0 : Int))), some (.ref pp), s15, s16, s17, s18, s19, s20, s21, s22, s23, s24] H8 _
      refine key _ fun gv l F9 H9 lm9 e89 hgv9 hl8 hH9 hDl hLl => ?_
      clear key
      have e9 := e89
      obtain ⟨dg, hdg, hok⟩ : ∃ dg, Any K F9 gv dg ∧ RowOk c dg w1 := by
        rcases hgv9 with rfl | ⟨rfl, hg⟩
        · exact ⟨tN w1, .d (lf8.row.up e89), .inr rfl, lf8.wd⟩
        · exact ⟨lN w1, .d (.of_lN (.inl (.inl hg))), .inl rfl, lf8.wd⟩
      refine ⟨m, rfl, gv, rfl, F9, 0, m, gv, .non, c, n, δ, d, dg, .none, rfl, lm9.fh, lf8.mch.up e89, lm9.sta, hdg, fun w' hw' => by rw [rowOk_inj hw' hok]; omega, .d .non, fun ds e => (by cases e), fun z => absurd z nb, fun _ => ⟨fun w' hw' r F10 H10 st10 hr => ?_, fun k hk => (rowBad_not hok hk).elim⟩⟩
      obtain rfl := rowOk_inj hw' hok
      obtain ⟨hr, t10⟩ := hr
      replace hr := hr.1 rfl
      have lm10 := lm9.stepDT st10 t10
      have e810 := e89.trans st10.ff
      have hH10 : H10 l ≠ none := fun z => hH9 (st10.none_ z)
      have hgv10 : Giv F10 gv (.ref br) w' l := hgv9.imp id fun z => ⟨z.1, st10.ff _ _ z.2⟩
      have hdg10 := hdg.up st10.ff
      try unfold tNil
      refine rep_tN (hr.up lm10.fh) kp.1 kp.2 ⟨.ref pp, rfl, rep_tN ((hpv8.up e810).up lm10.fh) kp.1 kp.2 ⟨rfl, _, rfl, ?_⟩⟩
      rw [str_ne]
      refine iteF ⟨m, rfl, gv, rfl, .ref pp, rfl, F10, 1, m, gv, .ref pp, c, n, δ, d, dg, tN (keptM δ w'), rfl, lm10.fh, lf8.mch.up e810, lm10.sta, hdg10, fun w2 hw2 => by rw [rowOk_inj hw2 hok]; omega, .d (hpv8.up e810), fun ds e => (by injection e with e; rw [← e, List.length_map]; omega), fun z => absurd z nb, fun _ => ⟨fun w2 hw2 r F11 H11 st11 hr => ?_, fun k hk => (rowBad_not hok hk).elim⟩⟩
      obtain rfl := rowOk_inj hw2 hok
      obtain ⟨hr, t11⟩ := hr
      obtain ⟨b, rfl, hb⟩ := hr.2 (by decide)
      have lm11 := lm10.stepDT st11 t11
      obtain ⟨g, hg⟩ := great_ex W nb
      have ebr : b = true := (hb g hg).mpr ⟨keptM δ w2, rfl, keptM_lt, keptM_asc, by rw [← hk0 g hg]; omega, kept_ker W lf8.wd⟩
      subst ebr
      try unfold tNil
      refine rep_bl ⟨rfl, _, rfl, ?_⟩
      rw [shown_true, str_ne]
      refine iteF ?_
      exact rC F8 F11 H11 D L l m c n δ d sv (.ref br) bad (.ref pp) gv bv db kb k0 w2 _ _ _ _ _ _ _ _ _ _ _ _ _ lf8 (e810.trans st11.ff) lm11 hbad8 hrb hpv8 hbv8 (hgv10.imp id fun z => ⟨z.1, st11.ff _ _ z.2⟩) hl8 (fun z => hH10 (st11.none_ z)) hDl hLl hk0
end
end K11


set_option Elab.async false
set_option linter.all false
set_option maxRecDepth 100000
set_option maxHeartbeats 4000000
/-! law: what is drawn. -/
namespace K11
open PySem PySem.Spec PyProof.Rows L2
abbrev blD : PyData := .tuple [.str "blind", .int 0]
theorem bl_shaped (n : Nat) : SeqAt.shaped (.list (List.replicate n blD)) = true := shaped_by (k := 2) (lay_seq fun x hx => by
  rw [List.eq_of_mem_replicate hx]
  simp [PyData.canLay0, PyData.canLayAll0]
  decide +kernel).2 (dep_seq (k := 1) fun x hx => by
  rw [List.eq_of_mem_replicate hx]
  simp [PyData.depth, PyData.depthAll]).2 (by decide)
theorem dpall_rep {K : PySem.W.Frag} {F : Hp} {x : V} {d : PyData} : ∀ (n : Nat), Dp K F x d → DpAll K F (List.replicate n x) (List.replicate n d)
  | 0, _ => .nil
  | n + 1, h => .cons h (dpall_rep n h)
theorem bl_eqv : PyData.eqv (.list (List.replicate 4 blD)) (.list (List.replicate 4 blD)) = true := by
  simp [PyData.eqv, PyData.eqvAll, List.replicate]
theorem Tb.stepDL {K : PySem.W.Frag} {F H F1 H1 : Hp} {D L : Addr} (t : Tb K F H) (dl : Deal F H D L) (s : Stp [D, L] F H F1 H1) : Tb K F1 H1 := by
  refine t.stp s (fun z => ?_) fun a ha q e => ?_
  · obtain ⟨xs, hx⟩ := dl.lstD _ z
    obtain ⟨⟨ps, h1, _⟩, _⟩ := t
    rw [h1] at hx
    cases hx
  · obtain ⟨xs, hx⟩ := dl.lstD a ha
    rw [hx] at e
    cases e
section
variable {P : Program} {w : World} {K : PySem.W.Frag} {mg : Str → Option Value} {base : Heap}
theorem seg_A (T : Top P w K mg base) {f : Addr} {cdv : Value} {s : Shared} {H0 : Hp} (hr : LR f cdv s) : ∃ t, PSs (LX P w K mg base f cdv s H0) d_law.body t ∧
    ∀ (F H : Hp) (a : Addr) (zs : List Int), Same F H → Tb K F H → SqL K F a (zs.map V.int) → zs.length ≤ 1000 → t lawD (L2.start lawN [.ref a]) H := by
  have nd := (sc_law).nd
  obtain ⟨tB_, hB, rB⟩ := seg_B T (H0 := H0) hr
  refine ⟨_, (pss_cons (ps_set (i := 1) nd rfl (.inl rfl) (pe_cal (ok_law_draw T) hr (by decide) (by rfl) (pa_cons (pv 0) (pa_cons pe_int pa_nil))))
    (pss_cons (ps_asg (pe_cal (ok_law_calm T) hr (by decide) (by rfl) (pa_cons (pv 1) pa_nil)) (pg_tup rfl (pgs_cons (pg_name (i := 2) nd rfl (.inl rfl)) (pgs_cons (pg_name (i := 3) nd rfl (.inl rfl)) pgs_nil))))
    (pss_cons (ps_asg (pe_tup (pa_cons (pe_calC (ok_Machine_init T) hr (by decide) T.mk_ T.g_Machine (by rfl) (pa_cons (pv 2) (pa_cons (pv 3) pa_nil))) (pa_cons (pe_cal (ok_law_kernels T) hr (by decide) (by rfl) (pa_cons (pv 2) (pa_cons (pv 3) pa_nil))) pa_nil))) (pg_tup rfl (pgs_cons (pg_name (i := 4) nd rfl (.inr rfl)) (pgs_cons (pg_name (i := 5) nd rfl (.inl rfl)) pgs_nil))))
    (pss_cons (ps_asg (pe_tup (pa_cons (pe_callB cl_len (by rfl) T.n_len bt_len (pa_cons (pv 3) pa_nil)) (pa_cons (pe_cal (ok_law_row T) hr (by decide) (by rfl) (pa_cons (pv 1) (pa_cons (pv 2) (pa_cons (pe_cal (ok_law_any T) hr (by decide) (by rfl) (pa_cons (pv 1) (pa_cons pe_int pa_nil))) pa_nil)))) pa_nil))) (pg_tup rfl (pgs_cons (pg_name (i := 6) nd rfl (.inl rfl)) (pgs_cons (pg_name (i := 7) nd rfl (.inr rfl)) pgs_nil))))
    (pss_cons (ps_asg (pe_cal (ok_law_bad_row T) hr (by decide) (by rfl) (pa_cons (pv 1) (pa_cons (pv 7) (pa_cons (pv 2) pa_nil)))) (pg_tup rfl (pgs_cons (pg_name (i := 8) nd rfl (.inr rfl)) (pgs_cons (pg_name (i := 9) nd rfl (.inl rfl)) pgs_nil))))
    (pss_cons (ps_if (pt_val (pe_cal (ok_law_blind T) hr (by decide) (by rfl) (pa_cons (pv 3) (pa_cons (pv 5) pa_nil))))
      (pss_cons (ps_setLc (i := 10) (by rfl) nd rfl rfl (sw_true rfl rfl rfl (by decide +kernel)) (own := [("_law_k", 11)]) (g := (gName 11)) (tt := tYes) (te := (tCall (spAsk K w) [] C8.E0 (tCons (tOp rDiv_ (tVar 11) (tC (.int 2))) (tCons (tVar 4) (tCons (tIf (tTest (tOp rEq (tOp rMod_ (tCB rInt_ (tCons (tVar 11) tNil)) (tC (.int 2))) (tC (.int 0)))) (tVar 7) (tVar 8)) (tCons (tTup tNil) tNil)))))) (pi_range1 (by rfl) T.n_range (pa_cons pe_int pa_nil)) (blkOk_by (by kernel_rfl)) (fun _ _ _ _ _ => (pg_name (i := 11) nd rfl (.inl rfl))) (fun _ _ _ _ _ => pts_nil) (fun _ _ _ _ _ => (pe_cal (ok_law_asked T) hr (by decide) (by rfl) (pa_cons (pe_op op_fdiv (pv 11) pe_int) (pa_cons (pv 4) (pa_cons (pe_ifExp (pt_cmpR op_eq (pe_op op_mod (pe_callTy cl_int (by rfl) T.n_int bt_int (pa_cons (pv 11) pa_nil)) pe_int) pe_int (nomark _)) (pv 7) (pv 8)) (pa_cons (pe_tup pa_nil) pa_nil)))))))
    (pss_one (ps_ret (pe_cmpR (op_eqD hr.units) (pv 10) (pe_op op_rep (pe_lst (pa_cons (pe_tup (pa_cons pe_str (pa_cons pe_int pa_nil))) pa_nil)) pe_int) (nomark _)))))
      pss_nil)
    hB)))))), ?_⟩
  intro F H a zs hF tb ha hz
  refine ⟨.ref a, rfl, F, a, zs, rfl, hF, ha, hz, fun D L F1 H1 st1 d1 hD hL => ?_⟩
  refine ⟨.ref D, rfl, F1, D, L, rfl, st1.fh, d1, fun r F2 H2 st2 hr => ?_⟩
  have tb2 := (tb.step0 st1).stepDL d1 st2
  obtain ⟨⟨p, sv, c, n, δ, rfl, hp, hst, W⟩, d2⟩ := hr
  have hn := W.n6
  have hc1 := W.c1
  have hc3 := W.c3
  have fh2 := st2.fh
  clear st1 st2 d1 hD hL tb ha hF
  refine ⟨p, _, rfl, same_t fh2 hp, rfl, _, _, rfl, _, _, rfl, rfl, ?_⟩
  refine ⟨vN c, rfl, sv, rfl, fun x dx hx hdx hne => ⟨F2, H2, x, dx, sv, c, n, δ, rfl, fh2, hx, hdx, hne, rfl, W, hst, fun F3 H3 d st3 hd3 M3 N3 => ⟨rfl, ?_⟩⟩⟩
  refine ⟨vN c, rfl, sv, rfl, F3, sv, c, n, δ, rfl, st3.fh, hst.up st3.ff, W, fun du F4 H4 st4 hr => ⟨two_le, fun pt hpt => ⟨pt, _, rfl, .inl (.inl upd_same), rfl, _, _, rfl, _, _, rfl, rfl, ?_⟩⟩⟩
  obtain ⟨Lk, hdu, hall, hLk⟩ := hr
  have lm3 : LM K w F3 H3 D L c δ d := ⟨st3.fh, d2.step0 st3, ⟨N3, tb2.step0 st3⟩⟩
  have n5 := st4.trans (Stp.new (S := []) (o := .tup [V.ref x, du]) st4.fh hpt)
  have lm5 := lm3.step0 n5
  have M5 := M3.up n5.ff
  have hst5 := (hst.up st3.ff).up n5.ff
  have hdu5 := hdu.up (Stp.new (S := []) (o := .tup [V.ref x, du]) st4.fh hpt).ff
  generalize upd F4 pt (.tup [V.ref x, du]) = F5 at lm5 M5 hst5 hdu5
  generalize upd H4 pt (.tup [V.ref x, du]) = H5 at lm5 ⊢
  clear n5 lm3 hdu hpt st4 N3 M3 hd3 st3 hne hdx hx hst tb2 d2 hp fh2
  have hst5' := hst5
  obtain ⟨b, xs, rfl, hb, hallx⟩ := L2.Dp.lst_inv hst5'
  have hxl : xs.length = n := by rw [hallx.len, List.length_map, W.len]
  refine ⟨.ref b, rfl, b, xs, rfl, .inl (same_l lm5.fh hb), .ref D, rfl, vN c, rfl, .ref D, rfl, F5, D, L, 15, rfl, lm5.fh, lm5.dl, by decide, by decide, fun r F6 H6 st6 hr => ?_⟩
  obtain ⟨⟨v15, rfl, hv15⟩, d6⟩ := hr
  refine ⟨F6, D, L, c, v15, rfl, st6.fh, d6, hc1, by omega, by omega, fun rv F7 H7 st7 hr => ⟨two_le, fun pt hpt => ⟨pt, _, rfl, .inl (.inl upd_same), rfl, _, _, rfl, _, _, rfl, rfl, ?_⟩⟩⟩
  rw [hxl]
  obtain ⟨⟨w1, hw1, hl1, hrv⟩, d7⟩ := hr
  have lm7 := lm5.stepDL (st6.trans st7) d7
  have n8 := Stp.new (S := []) (o := .tup [V.int (n : Nat), rv]) st7.fh hpt
  have lm8 := lm7.step0 n8
  have e8 := (st6.ff.trans st7.ff).trans n8.ff
  have M8 := M5.up e8
  have hst8 := hst5.up e8
  have hdu8 := hdu5.up e8
  have hrv8 := hrv.up n8.ff
  generalize upd F7 pt (.tup [V.int (n : Nat), rv]) = F8 at lm8 M8 hst8 hdu8 hrv8 n8
  generalize upd H7 pt (.tup [V.int (n : Nat), rv]) = H8 at lm8 n8 ⊢
  clear e8 n8 lm7 d7 hpt st7 d6 st6 lm5 M5 hst5 hdu5 hb hallx hrv
  refine ⟨.ref D, rfl, rv, rfl, vN c, rfl, F8, D, L, rv, w1, c, rfl, lm8.fh, lm8.dl, hrv8, hw1, by omega, fun r F9 H9 st9 hr => ?_⟩
  obtain ⟨⟨p9, bad, kb, db, rfl, hp9, hbad, hrb⟩, d9⟩ := hr
  have lm9 := lm8.stepDL st9 d9
  have M9 := M8.up st9.ff
  have hst9 := hst8.up st9.ff
  have hdu9 := hdu8.up st9.ff
  have hrv9 := hrv8.up st9.ff
  refine ⟨p9, _, rfl, same_t lm9.fh hp9, rfl, _, _, rfl, _, _, rfl, rfl, ?_⟩
  clear lm8 d9 st9 M8 hst8 hdu8 hrv8 hp9
  refine ⟨.ref b, rfl, du, rfl, F9, .ref b, du, c, n, δ, Lk, rfl, lm9.fh, hst9, W, hdu9, allK_kers W hall, fun bb hbb => ⟨_, rfl, ?_⟩⟩
  rw [torn_iff W hall] at hbb
  cases bb with
  | false =>
    have nb : ¬ BlindM δ c := fun z => by
      have q := hbb.mpr z
      cases q
    refine iteF ?_
    exact rB F9 H9 D L (.ref x) c n δ d (.ref b) rv bad du db kb w1 Lk _ _ _ _ _ _ _ _ _ _ _ _ _ _ _ _ ⟨M9, hst9, hrv9, hw1, by omega, nb⟩ lm9 hbad hrb hdu9 hall hLk
  | true =>
    have hbl := hbb.mp rfl
    refine iteT ⟨4, rfl, by decide, by decide, ?_⟩
    have ask : ∀ (v : V) (dv : PyData) (i : Int) (F1 H1 : Hp) (Y : VK), Any K F1 v dv → (∀ w', RowOk c dv w' → w'.length ≤ 1000) → Same F9 F1 → Same F1 H1 → Sta K w F1 H1 c δ d → (∀ r F2 H2, Stp [d, tabA K] F1 H1 F2 H2 → Dp K F2 r blD → Sta K w F2 H2 c δ d → Y r H2) → ∀ p, H1 p = none → spAsk K w ([.int i, .ref x, v, .ref p] ++ []) (upd H1 p (.tup [])) Y C8.E0 := fun v dv i F1 H1 Y hv hok e1 fh t1 hY p hp => by
      have n1 := Stp.new (S := []) (o := .tup []) fh hp
      refine ⟨upd F1 p (.tup []), i, .ref x, v, .ref p, c, n, δ, d, dv, .tuple [], rfl, n1.fh, (M9.up e1).up n1.ff, t1.step0 n1, hv.up n1.ff, hok, .d (dp_tup (xs := []) fh hp .nil), fun ds e => (by injection e with e; rw [← e]; decide), fun _ r F2 H2 st2 hr => ?_, fun z => absurd hbl z⟩
      obtain ⟨⟨p2, rfl, hp2⟩, t2⟩ := hr
      exact hY _ F2 H2 (n1.up.trans st2) (.tup hp2 (.cons (.str _) (.cons (.int _) .nil))) t2
    refine lc_doH (S := [d, tabA K]) (src_r (F := F9)) lm9.fh lm9.sta.there (by rw [sizeLine_eq]; decide) (fun i acc F' H' => Sta K w F' H' c δ d ∧ DpAll K F' acc (List.replicate i blD)) (fun i acc F' H' D' u hD' _ p => ⟨p.1.lstU hD', p.2⟩) ⟨lm9.sta, .nil⟩ (fun i y acc F10 H10 hi hy st10 hp Y N hY hN => ?_) fun D2 acc F10 H10 st10 hD2 mu2 hl2 hp => ?_
    · have hy' : y = vN i := by rw [hy, Int.zero_add] <;> rfl
      subst hy'
      obtain ⟨t10, hacc⟩ := hp
      refine ⟨rfl, lc_yes ⟨vN i, rfl, _, _, rfl, rfl, ⟨(show (0 : Int) < 2 by decide), (show (2 : Int) < 1073741824 by decide)⟩, .ref x, rfl, vN i, rfl, .inl ⟨_, rfl, _, _, rfl, rfl, (show (0 : Int) < 2 by decide), rfl, _, rfl, ?_⟩⟩⟩
      have fin : ∀ r F11 H11, Stp [d, tabA K] F10 H10 F11 H11 → Dp K F11 r blD → Sta K w F11 H11 c δ d → Y r H11 := fun r F11 H11 st11 dr t11 => hY r F11 H11 st11 ⟨t11, by
        rw [List.replicate_succ']
        exact (hacc.up st11.ff).snoc dr⟩
      cases decide (V.int ((i : Int) % 2) = V.int 0) with
      | true => exact iteT ⟨rv, rfl, Nat.zero_le _, fun p hp => ask rv (tN w1) _ F10 H10 Y (.d (hrv9.up st10.ff)) (fun w' hw' => by rw [rowOk_inj hw' ⟨.inr rfl, hw1⟩]; omega) st10.ff st10.fh t10 fin p hp⟩
      | false => exact iteF ⟨bad, rfl, Nat.zero_le _, fun p hp => ask bad db _ F10 H10 Y (hbad.up st10.ff) (fun w' hw' => (rowBad_not hw' hrb).elim) st10.ff st10.fh t10 fin p hp⟩
    · obtain ⟨t10, hacc⟩ := hp
      refine ⟨.ref D2, rfl, two_le, fun p1 hp1 => ⟨(show 1 ≤ sizeLine by decide), fun p2 hp2 => ⟨p2, 4, [.ref p1], rfl, rfl, upd_same, by decide, by decide, (by rw [sizeLine_eq]; show 1 * 4 ≤ _; decide), fun p3 hp3 => ?_⟩⟩⟩
      rw [show (List.replicate (4 : Int).toNat [V.ref p1]).flatten = List.replicate 4 (V.ref p1) from flat_rep _ 4] at *
      have m1 := Stp.new (S := []) (o := .tup [.str "blind", .int 0]) st10.fh hp1
      have g1 : Dp K _ (.ref p1) blD := dp_tup (xs := [.str "blind", .int 0]) st10.fh hp1 (.cons (.str _) (.cons (.int _) .nil))
      have m2 := m1.trans (Stp.new (S := []) (o := .lst [.ref p1]) m1.fh hp2)
      have m3 := m2.trans (Stp.new (S := []) (o := .lst (List.replicate 4 (.ref p1))) m2.fh hp3)
      have g13 := (g1.up (Stp.new (S := []) (o := .lst [.ref p1]) m1.fh hp2).ff).up (Stp.new (S := []) (o := .lst (List.replicate 4 (.ref p1))) m2.fh hp3).ff
      have hD3 := (m3.mu0 mu2).at_
      refine ⟨.list (List.replicate 4 blD), .list (List.replicate 4 blD), .lst (.inl (.inl hD3)) ((hacc.up m3.ff).up m3.fh), .lst (.inl (.inl upd_same)) ((dpall_rep 4 g13).up m3.fh), bl_shaped 4, bl_shaped 4, ?_⟩
      show V.bl _ = V.bl true
      rw [bl_eqv]
end
end K11


set_option Elab.async false
set_option linter.all false
set_option maxRecDepth 100000
set_option maxHeartbeats 4000000
/-! The law. -/
namespace K11
open PySem PySem.Spec PyProof.Rows L2
theorem law_file : ((PySem.W.OpenLaw.prog PySem.Challenge.rw_lateslips_k11_whole_few_commands_bring_a).main.file == ("/claim/cut.py" : Str)) = true := by kernel_rfl
theorem law_top : ((PySem.W.OpenLaw.prog PySem.Challenge.rw_lateslips_k11_whole_few_commands_bring_a).main.scope.names.lookup ("super" : Str)).isSome = false := by kernel_rfl
theorem law_def {P : Program} {w : World} {mg : Str → Option Value} {fa : Addr} {h : Heap} (file : ((P.main.file : Str) == ("/claim/cut.py" : Str)) = true) (top_ : (P.main.scope.names.lookup ("super" : Str)).isSome = false) (Y : hk.says w h) (G : h.Ns mainGlobals mg) (hmg : mg "law" = some (.ref fa)) :
    ∃ (K : PySem.W.Frag) (c t : Addr), K.In h ∧ h.get? t = some { cls := .none, data := .fields #[] } ∧ K.lookup t = none ∧ PySem.W.CodeHd h c t ∧
      ∀ (base : Heap) (ns : List Int), ns.length ≤ 63 → (∀ z ∈ ns, Builtin.Int.intBits z ≤ 1048576) → K.In base → base.Ns mainGlobals mg → LamX.TabB base mg c t → RunLaw P w K mg fa t base fun H a => SqL K H a (ns.map V.int) := by
  obtain ⟨K, KX, c⟩ := Y
  refine ⟨K, (He.cT K ("seen", none)).1, (He.cT K ("seen", none)).2, KX, c.x.empty ("seen", none) List.mem_cons_self, c.x.out ("seen", none) List.mem_cons_self, PySem.W.codeHd_of_K KX (c.x.hd ("seen", none) List.mem_cons_self), ?_⟩
  intro base ns hlen _ _ _ TB H s a e0 hT hO ha
  have T : Top P w K mg base := ⟨⟨h, KX, G, c⟩, TB, file, top_⟩
  obtain ⟨fd, F⟩ := c.x.t.d.def_ (d := d_law) 54 rfl
  have eg := hmg.symm.trans (T.glo_ 51 (x := "law") rfl)
  cases eg
  have hb := F.bindsA (ps := ["_law_script"]) bn_law s [.ref a] rfl
  obtain ⟨oc, od, dV, kV, doc, pm, an, cdv, ct, osl, rfl, lk, hcd, _, _⟩ := F.ex
  refine LamX.run_ofS (k := 30) (N := lawN) (ps := ["_law_script"]) (us := [.ref a]) (vs := [.ref a]) lk hcd sc_law ⟨rfl, by decide, by decide⟩ e0 hb (.cons rfl .nil) rfl fun hr => ?_
  obtain ⟨t, hP, hR⟩ := seg_A T (H0 := H) hr
  refine ⟨t, hP, ?_⟩
  have hT2 : H (tabA K) = some (.tbl #[]) := hT
  have haT : ∀ u, Rd H a (.lst u) → a ≠ tabA K := fun u h e => by
    rcases h with h | ⟨o, h⟩
    · rw [e, hT2] at h
      cases h
    · rw [e, hT2] at h
      cases h
  refine hR (off (tabA K) H) H a ns (fun x u z => ?_) ⟨LamX.TabS.nil hT2, if_pos rfl⟩ ?_ (by omega)
  · by_cases e : x = tabA K
    · have q : off (tabA K) H x = none := if_pos e
      rw [q] at z
      cases z
    · rw [off_ne e] at z
      exact z
  · rcases ha with h | h
    · refine .inl ?_
      have hne := haT _ h
      rcases h with h | ⟨o, h⟩
      · exact .inl ((off_ne hne).trans h)
      · exact .inr ⟨o, (off_ne hne).trans h⟩
    · exact .inr h
end K11
open PySem PySem.W PySem.Calls PyProof.Rows
theorem PySem.Challenge.cw_lateslips_k11_whole_few_commands_bring_a_holds : PySem.Challenge.rw_lateslips_k11_whole_few_commands_bring_a.Holds := by
  w_on; o_law
  refine HandSHeadRun.head_any (r := OpenLaw.row PySem.Challenge.rw_lateslips_k11_whole_few_commands_bring_a) (q := view (OpenLaw.row PySem.Challenge.rw_lateslips_k11_whole_few_commands_bring_a).prog [64]) (H := K11.hk) (ob := K11.ob) (M := 4000) (loose := K11.loose) (d := HandSHeadRun.topDef (OpenLaw.row PySem.Challenge.rw_lateslips_k11_whole_few_commands_bring_a).prog 64) (kwd := []) K11.ob_eq
    (by kernel_rfl) (fun s => by kernel_rfl) K11.run (by kernel_rfl) (by kernel_rfl) (by kernel_rfl) (by rfl) (by first | assumption | decide +kernel) (by decide +kernel) ⟨rfl, rfl, rfl, rfl, rfl, by decide +kernel⟩ ?hw ?hc
  case hw => w_witness2
  case hc =>
    refine K11.walk_end (l := PySem.Challenge.rw_lateslips_k11_whole_few_commands_bring_a) (n := 63) rfl (by decide) (by kernel_rfl) ?F
    intro w mg fa h Y G hmg0
    exact K11.law_def K11.law_file K11.law_top Y G hmg0


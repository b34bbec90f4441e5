import PyProof.Rows.All
import Wide.All
import OpenK.AllK
import Wide.FinOn
import PyProof.EqAt
import PyProof.EqKinds
import PyProof.TupleCall
import HandS.Base
import HandS.Call
import HandS.List
import HandS.Exc
import HandS.ExcSuper
import HandS.ExcField
import HandS.Words
import HandS.Defaults
import HandS.HeadHook1
import HandS.HeadHook2
import HandS.Head4
import Wide.Once
import Open.SpecLaws
import KE.OsGo
import HandS.ForSpec
import PySem.Challenge.RW_latechange_s01_answers
import HandS.Comp
import HandS.Iter
import HandS.Dict
import HandS.ExcOwn
import HandS.ExcInit
import HandS.TryOnly
import HandS.WordsList
import HandS.WordsExc
import HandS.Evl
import HandS.Walk
import HandS.Style
import HandS.TupAny
import HandS.Text
import HandS.More
import HandS.Deep
import PyProof.NeKinds
import PyProof.MaxThree
set_option Elab.async false
set_option linter.all false
set_option maxRecDepth 100000
set_option maxHeartbeats 4000000
namespace LC
open PySem PySem.Spec PyProof.Rows L2
/-! ### the head: what the top has written -/
def top (i : Nat) : Stmt := PySem.Challenge.pw_latechange_s01_answers.main.body.getD i (.Pass ⟨0, 0, 0, 0⟩)
def dd (a : Str × Option Str) (x q : Str) (st : Stmt) : He.DefD := ⟨a, x, q, defArgs st, defBody st, defScope st, [], []⟩
def hdf0 : List He.DefD := [dd ("halves", none) "halves" "halves" (top 1),
  dd ("has_sinks", none) "has_sinks" "has_sinks" (top 2),
  dd ("permitted_count", none) "permitted_count" "permitted_count" (top 3),
  dd ("own_times", none) "own_times" "own_times" (top 4),
  dd ("smaller_time", none) "smaller_time" "smaller_time" (top 5),
  dd ("behind_buffer", none) "behind_buffer" "behind_buffer" (top 6),
  dd ("behind_wire", none) "behind_wire" "behind_wire" (top 7),
  dd ("root_values", none) "root_values" "root_values" (top 8),
  dd ("double_slack", none) "double_slack" "double_slack" (top 9),
  dd ("are_choices", none) "are_choices" "are_choices" (top 12),
  dd ("cost_of_buffers", none) "cost_of" "cost_of" (top 13),
  dd ("all_choices", none) "all_choices" "all_choices" (top 15),
  dd ("offers", none) "offers" "offers" (top 16),
  dd ("cheapest_offer", none) "cheapest_offer" "cheapest_offer" (top 17),
  dd ("best_offer", none) "best_offer" "best_offer" (top 18),
  dd ("target_offer", none) "target_offer" "target_offer" (top 19),
  dd ("greatest_slacks", none) "greatest_slacks" "greatest_slacks" (top 20),
  dd ("frontier", none) "frontier" "frontier" (top 21),
  dd ("with_later_others", none) "with_later_others" "with_later_others" (top 22),
  dd ("critical_sink", none) "critical_sink" "critical_sink" (top 23),
  dd ("Refused", some "__init__") "__init__" "Refused.__init__" (inClass (top 34) 0),
  dd ("require", none) "require" "require" (top 35),
  dd ("contains", none) "contains" "contains" (top 37),
  dd ("all_of", none) "all_of" "all_of" (top 38),
  dd ("without", none) "without" "without" (top 39),
  dd ("cost_of_repairs", none) "cost_of" "cost_of" (top 40),
  dd ("repaired", none) "repaired" "repaired" (top 42),
  dd ("unrepaired", none) "unrepaired" "unrepaired" (top 43),
  dd ("first_conflict", none) "first_conflict" "first_conflict" (top 44),
  dd ("is_repair", none) "is_repair" "is_repair" (top 45)]
def hdf1 : List He.DefD := [dd ("cheapest_repairs", none) "cheapest_repairs" "cheapest_repairs" (top 46),
  dd ("common_changes", none) "common_changes" "common_changes" (top 47),
  dd ("price_sum", none) "price_sum" "price_sum" (top 48),
  dd ("raised_price", none) "raised_price" "raised_price" (top 49),
  dd ("raised_prices", none) "raised_prices" "raised_prices" (top 50),
  dd ("first_overpriced", none) "first_overpriced" "first_overpriced" (top 51),
  dd ("distance", none) "distance" "distance" (top 53),
  dd ("assignments", none) "assignments" "assignments" (top 54),
  dd ("total_distance", none) "total_distance" "total_distance" (top 55),
  dd ("best_assignment", none) "best_assignment" "best_assignment" (top 56),
  dd ("lowered", none) "lowered" "lowered" (top 57),
  dd ("spare_potentials", none) "spare_potentials" "spare_potentials" (top 58),
  dd ("need_potentials", none) "need_potentials" "need_potentials" (top 59),
  dd ("first_excess", none) "first_excess" "first_excess" (top 60),
  dd ("spent", none) "spent" "spent" (top 74),
  dd ("require_budget", none) "require_budget" "require_budget" (top 75),
  dd ("add_node", none) "add_node" "add_node" (top 76),
  dd ("set_sink", none) "set_sink" "set_sink" (top 77),
  dd ("clear_sink", none) "clear_sink" "clear_sink" (top 78),
  dd ("add_buffer", none) "add_buffer" "add_buffer" (top 79),
  dd ("set_buffers", none) "set_buffers" "set_buffers" (top 80),
  dd ("add_violation", none) "add_violation" "add_violation" (top 81),
  dd ("add_change", none) "add_change" "add_change" (top 82),
  dd ("add_conflict", none) "add_conflict" "add_conflict" (top 83),
  dd ("apply_repair", none) "apply_repair" "apply_repair" (top 84),
  dd ("are_place", none) "are_place" "are_place" (top 85),
  dd ("add_need", none) "add_need" "add_need" (top 86),
  dd ("add_spare", none) "add_spare" "add_spare" (top 87),
  dd ("apply_spares", none) "apply_spares" "apply_spares" (top 88),
  dd ("tree_changed", none) "tree_changed" "tree_changed" (top 89)]
def hdf2 : List He.DefD := [dd ("changed", none) "changed" "changed" (top 90),
  dd ("require_choices", none) "require_choices" "require_choices" (top 94),
  dd ("require_sinks", none) "require_sinks" "require_sinks" (top 95),
  dd ("evaluate", none) "evaluate" "evaluate" (top 96),
  dd ("offer_told", none) "offer_told" "offer_told" (top 97),
  dd ("best_buffers", none) "best_buffers" "best_buffers" (top 98),
  dd ("cheapest_buffers", none) "cheapest_buffers" "cheapest_buffers" (top 99),
  dd ("frontier_told", none) "frontier_told" "frontier_told" (top 100),
  dd ("critical_told", none) "critical_told" "critical_told" (top 101),
  dd ("cheapest_repair", none) "cheapest_repair" "cheapest_repair" (top 102),
  dd ("check_repair", none) "check_repair" "check_repair" (top 103),
  dd ("essential", none) "essential" "essential" (top 104),
  dd ("prices_told", none) "prices_told" "prices_told" (top 105),
  dd ("check_prices", none) "check_prices" "check_prices" (top 106),
  dd ("assign_spares", none) "assign_spares" "assign_spares" (top 107),
  dd ("potentials_told", none) "potentials_told" "potentials_told" (top 108),
  dd ("check_potentials", none) "check_potentials" "check_potentials" (top 109),
  dd ("get_tree", none) "get_tree" "get_tree" (top 110),
  dd ("summary", none) "summary" "summary" (top 111),
  dd ("tree_told", none) "tree_told" "tree_told" (top 112),
  dd ("repair_told", none) "repair_told" "repair_told" (top 113),
  dd ("told", none) "told" "told" (top 114),
  dd ("State", some "__init__") "__init__" "State.__init__" (inClass (top 117) 0),
  dd ("State", some "twin") "twin" "State.twin" (inClass (top 117) 1),
  dd ("Instance", some "__init__") "__init__" "Instance.__init__" (inClass (top 128) 0),
  dd ("Instance", some "create") "create" "Instance.create" (inClass (top 128) 1),
  dd ("Instance", some "edit") "edit" "Instance.edit" (inClass (top 128) 2),
  dd ("Instance", some "undo") "undo" "Instance.undo" (inClass (top 128) 3),
  dd ("Instance", some "redo") "redo" "Instance.redo" (inClass (top 128) 4),
  dd ("Instance", some "performed") "performed" "Instance.performed" (inClass (top 128) 5)]
def hdf3 : List He.DefD := [dd ("Instance", some "answer") "answer" "Instance.answer" (inClass (top 128) 6),
  dd ("row_at", none) "row_at" "row_at" (top 129),
  dd ("answers", none) "answers" "answers" (top 130)]
def hdf : List He.DefD := hdf0 ++ (hdf1 ++ (hdf2 ++ (hdf3)))
def hfa0 : List He.Fa := [.free "len",
  .free "any",
  .free "sum",
  .free "all",
  .free "max",
  .free "min",
  .free "abs",
  .free "zip",
  .free "enumerate",
  .free "range",
  .free "sorted",
  .free "list",
  .free "Exception",
  .int "FAR" 1000000000,
  .int "UNUSABLE" (-11),
  .int "MISSING" (-2),
  .int "NO_SUCH" (-6),
  .int "CONFLICTING" (-16),
  .int "TWICE" (-17),
  .int "OUT_OF_RANGE" (-22),
  .int "FULL" (-28),
  .int "NO_RESULT" (-33),
  .int "TOO_DEAR" (-75),
  .int "MOST_WIRE" 1000,
  .int "MOST_VALUE" 100000,
  .int "MOST_REQUIRED" 1000000000,
  .int "MOST_NODES" 10,
  .int "MOST_PERMITTED" 5,
  .int "MOST_BUFFERS" 3,
  .int "MOST_VIOLATIONS" 8]
def hfa1 : List He.Fa := [.int "MOST_CHANGES" 9,
  .int "MOST_CONFLICTS" 10,
  .int "MOST_KIND" 9,
  .int "MOST_NEEDS" 5,
  .int "MOST_SPARES" 7,
  .int "MOST_TARGET" 1000000000,
  .int "MOST_DIVISOR" 1000,
  .int "CREATE" 0,
  .int "UNDO" 28,
  .int "REDO" 29,
  .int "MOST_DRIVER" 1000,
  .int "MOST_BUDGET" 1000000000,
  .int "MOST_EARLIER" 10,
  .glo "ROOT",
  .glo "COUNTS",
  .glo "ROWS",
  .glo "EDITS",
  .glo "State",
  .glo "Instance",
  .glo "Refused",
  .cls "State",
  .mkr "State",
  .cls "Instance",
  .mkr "Instance",
  .noat "State" "driver",
  .noat "State" "budget",
  .noat "State" "nodes",
  .noat "State" "library",
  .noat "State" "choices",
  .noat "State" "violations"]
def hfa2 : List He.Fa := [.noat "State" "changes",
  .noat "State" "conflicts",
  .noat "State" "applied",
  .noat "State" "needs",
  .noat "State" "spares",
  .noat "State" "assigned",
  .noat "Instance" "state",
  .noat "Instance" "earlier",
  .noat "Instance" "undone",
  .glo "halves",
  .glo "has_sinks",
  .glo "permitted_count",
  .glo "own_times",
  .glo "smaller_time",
  .glo "behind_buffer",
  .glo "behind_wire",
  .glo "root_values",
  .glo "double_slack",
  .glo "are_choices",
  .glo "cost_of_buffers",
  .glo "all_choices",
  .glo "offers",
  .glo "cheapest_offer",
  .glo "best_offer",
  .glo "target_offer",
  .glo "greatest_slacks",
  .glo "frontier",
  .glo "with_later_others",
  .glo "critical_sink",
  .glo "require"]
def hfa3 : List He.Fa := [.glo "contains",
  .glo "all_of",
  .glo "without",
  .glo "cost_of_repairs",
  .glo "repaired",
  .glo "unrepaired",
  .glo "first_conflict",
  .glo "is_repair",
  .glo "cheapest_repairs",
  .glo "common_changes",
  .glo "price_sum",
  .glo "raised_price",
  .glo "raised_prices",
  .glo "first_overpriced",
  .glo "distance",
  .glo "assignments",
  .glo "total_distance",
  .glo "best_assignment",
  .glo "lowered",
  .glo "spare_potentials",
  .glo "need_potentials",
  .glo "first_excess",
  .glo "spent",
  .glo "require_budget",
  .glo "add_node",
  .glo "set_sink",
  .glo "clear_sink",
  .glo "add_buffer",
  .glo "set_buffers",
  .glo "add_violation"]
def hfa4 : List He.Fa := [.glo "add_change",
  .glo "add_conflict",
  .glo "apply_repair",
  .glo "are_place",
  .glo "add_need",
  .glo "add_spare",
  .glo "apply_spares",
  .glo "tree_changed",
  .glo "changed",
  .glo "require_choices",
  .glo "require_sinks",
  .glo "evaluate",
  .glo "offer_told",
  .glo "best_buffers",
  .glo "cheapest_buffers",
  .glo "frontier_told",
  .glo "critical_told",
  .glo "cheapest_repair",
  .glo "check_repair",
  .glo "essential",
  .glo "prices_told",
  .glo "check_prices",
  .glo "assign_spares",
  .glo "potentials_told",
  .glo "check_potentials",
  .glo "get_tree",
  .glo "summary",
  .glo "tree_told",
  .glo "repair_told",
  .glo "told"]
def hfa5 : List He.Fa := [.meth "State" "twin",
  .meth "Instance" "create",
  .meth "Instance" "edit",
  .meth "Instance" "undo",
  .meth "Instance" "redo",
  .meth "Instance" "performed",
  .meth "Instance" "answer",
  .glo "row_at",
  .glo "answers"]
def hfa : List He.Fa := hfa0 ++ (hfa1 ++ (hfa2 ++ (hfa3 ++ (hfa4 ++ (hfa5)))))
def hloose0 : List PySem.Str := ["halves",
  "has_sinks",
  "permitted_count",
  "own_times",
  "smaller_time",
  "behind_buffer",
  "behind_wire",
  "root_values",
  "double_slack",
  "FAR",
  "are_choices",
  "cost_of",
  "cost_of_buffers",
  "all_choices",
  "offers",
  "cheapest_offer",
  "best_offer",
  "target_offer",
  "greatest_slacks",
  "frontier",
  "with_later_others",
  "critical_sink",
  "UNUSABLE",
  "MISSING",
  "NO_SUCH",
  "CONFLICTING",
  "TWICE",
  "OUT_OF_RANGE",
  "FULL",
  "NO_RESULT"]
def hloose1 : List PySem.Str := ["TOO_DEAR",
  "Refused",
  "require",
  "contains",
  "all_of",
  "without",
  "cost_of_repairs",
  "repaired",
  "unrepaired",
  "first_conflict",
  "is_repair",
  "cheapest_repairs",
  "common_changes",
  "price_sum",
  "raised_price",
  "raised_prices",
  "first_overpriced",
  "distance",
  "assignments",
  "total_distance",
  "best_assignment",
  "lowered",
  "spare_potentials",
  "need_potentials",
  "first_excess",
  "MOST_WIRE",
  "MOST_VALUE",
  "MOST_REQUIRED",
  "MOST_NODES",
  "MOST_PERMITTED"]
def hloose2 : List PySem.Str := ["MOST_BUFFERS",
  "MOST_VIOLATIONS",
  "MOST_CHANGES",
  "MOST_CONFLICTS",
  "MOST_KIND",
  "MOST_NEEDS",
  "MOST_SPARES",
  "spent",
  "require_budget",
  "add_node",
  "set_sink",
  "clear_sink",
  "add_buffer",
  "set_buffers",
  "add_violation",
  "add_change",
  "add_conflict",
  "apply_repair",
  "are_place",
  "add_need",
  "add_spare",
  "apply_spares",
  "tree_changed",
  "changed",
  "MOST_TARGET",
  "MOST_DIVISOR",
  "require_choices",
  "require_sinks",
  "evaluate",
  "offer_told"]
def hloose3 : List PySem.Str := ["best_buffers",
  "cheapest_buffers",
  "frontier_told",
  "critical_told",
  "cheapest_repair",
  "check_repair",
  "essential",
  "prices_told",
  "check_prices",
  "assign_spares",
  "potentials_told",
  "check_potentials",
  "get_tree",
  "summary",
  "tree_told",
  "repair_told",
  "told",
  "ROOT",
  "State",
  "COUNTS",
  "ROWS",
  "EDITS",
  "CREATE",
  "UNDO",
  "REDO",
  "MOST_DRIVER",
  "MOST_BUDGET",
  "MOST_EARLIER",
  "Instance",
  "row_at"]
def hloose : List PySem.Str := hloose0 ++ (hloose1 ++ (hloose2 ++ (hloose3)))
def hat0 : List Addr := [3,
  153,
  592,
  658,
  152,
  591,
  657,
  598,
  568,
  597,
  599,
  20,
  21,
  25,
  26,
  30,
  31,
  35,
  36,
  42,
  43,
  49,
  50,
  56,
  57,
  61,
  62,
  68,
  69,
  73,
  74,
  78,
  79,
  83,
  84,
  90,
  91,
  97,
  98,
  102,
  103,
  107,
  108,
  114,
  115,
  121,
  122,
  128,
  129,
  135,
  136,
  149,
  150,
  162,
  163,
  169,
  170,
  176,
  177,
  183]
def hat1 : List Addr := [184,
  188,
  189,
  195,
  196,
  202,
  203,
  209,
  210,
  216,
  217,
  223,
  224,
  230,
  231,
  235,
  236,
  242,
  243,
  249,
  250,
  256,
  257,
  263,
  264,
  268,
  269,
  273,
  274,
  280,
  281,
  287,
  288,
  292,
  293,
  297,
  298,
  304,
  305,
  311,
  312,
  318,
  319,
  325,
  326,
  332,
  333,
  339,
  340,
  346,
  347,
  353,
  354,
  360,
  361,
  367,
  368,
  374,
  375,
  381]
def hat2 : List Addr := [382,
  388,
  389,
  395,
  396,
  402,
  403,
  407,
  408,
  414,
  415,
  421,
  422,
  428,
  429,
  435,
  436,
  442,
  443,
  449,
  450,
  456,
  457,
  463,
  464,
  470,
  471,
  477,
  478,
  484,
  485,
  491,
  492,
  498,
  499,
  505,
  506,
  512,
  513,
  519,
  520,
  526,
  527,
  531,
  532,
  538,
  539,
  545,
  546,
  552,
  553,
  559,
  560,
  566,
  567,
  581,
  582,
  588,
  589,
  612]
def hat3 : List Addr := [613,
  619,
  620,
  626,
  627,
  633,
  634,
  640,
  641,
  647,
  648,
  654,
  655,
  668,
  669,
  675,
  676]
def hat : List Addr := hat0 ++ (hat1 ++ (hat2 ++ (hat3)))
/-- the class of an error over Exception -/
def rfB (K : PySem.W.Frag) (C : Addr) : Bool := match K.lookup C with
  | some ⟨.type t, _, .cls cd, sl⟩ => (match sl.toList with
    | [_, _, _, _, some (.builtin n), _] => decide (t = "type") && (decide (cd.mro = .ref C :: ESX.exTail) && (cd.hasDict && (!cd.hasDel && decide (n = "Exception.__new__"))))
    | _ => false)
  | _ => false
def entB (e : DictEntry) (k v : Int) : Bool := decide (e.hash = hashInt k) && ((match e.key with
  | .int i _ => decide (i = k)
  | _ => false) && (match e.val with
  | .int i _ => decide (i = v)
  | _ => false))
def rwB (K : PySem.W.Frag) (a : Addr) : Bool := match K.lookup a with
  | some ⟨.type t, none, .dict es _, sl⟩ => (match es.toList with
    | [e0, e1, e2, e3, e4] => decide (t = "dict") && (sl.toList.isEmpty && (entB e0 5 1 && (entB e1 9 1 && (entB e2 10 1 && (entB e3 19 1 && entB e4 25 2)))))
    | _ => false)
  | _ => false
def viB (K : PySem.W.Frag) : Bool := match PySem.W.findCls K (.type "Exception") (.type "type") "__init__" with
  | some (.val (.builtin n)) => decide (n = "Exception.__init__")
  | _ => false
def vROOT : List He.Dv := [.int 0, .int 0, .int 0, .int 0, .int 0, .int 0, .int 0]
def vCOUNTS : List He.Dv := ([2, 4, 3, 1, 4, 0, 0, 2, 0, 0, 0, 0, 0, 2, 2, 0, 1, 0, 0, 0, 1, 3, 3, 0, 0, 0, 0, 0, 0, 0, 0] : List Int).map .int
def vEDITS : List He.Dv := ([1, 2, 3, 4, 10, 12, 13, 14, 20, 21, 22, 26] : List Int).map .int
def exA (K : PySem.W.Frag) : Bool :=
  (rfB K (He.ga K "Refused") && (He.eqO (PySem.W.findIn K (.ref (He.ga K "Refused")) "__setattr__") (some (some (.builtin "object.__setattr__"))) && (xfB K (He.ga K "Refused") && (decide (PySem.W.typeIn K (.ref (He.ga K "Refused")) = some (.type "type")) &&
  (PySem.W.keepIn K (.ref (He.ga K "Refused")) && (He.eqO (PySem.W.findIn K (.ref (He.ga K "Refused")) "code") (some none) && (He.eqO (PySem.W.findIn K (.ref (He.ga K "Refused")) "__init__") (some (some (.ref (He.ma K (He.ga K "Refused") "__init__")))) &&
  (decide (PySem.W.typeIn K (.ref (He.ma K (He.ga K "Refused") "__init__")) = some (.type "function")) && decide (PySem.W.exmOne K (.ref (He.ga K "Refused")) (.ref (He.ga K "Refused")) = some true))))))))) &&
  (viB K && (He.tupB K "ROOT" vROOT && (He.tupB K "COUNTS" vCOUNTS && (He.tupB K "EDITS" vEDITS && (rwB K (He.ga K "ROWS") && !(He.ga K "ROWS" == sysModules))))))
abbrev AlA : Type := He.AlD × Bool
def obA (g : Addr → Option Obj) : AlA := (He.obsD hfa hdf (He.frG g hat), exA (He.frG g hat))
def hkA : PySem.W.Hook := ⟨AlA, fun s => obA s.heap.get?, fun _ => (He.valD hdf, true), fun _ h => ∃ K : PySem.W.Frag, K.In h ∧ He.SaysD hfa hdf K ∧ exA K = true,
  fun _ _ e => ⟨_, He.frG_in, congrArg (fun z : AlA => z.1) e, congrArg (fun z : AlA => z.2) e⟩, fun _ _ _ ⟨K, z, c⟩ k => ⟨K, PySem.W.Frag.In.keeps z k, c⟩⟩
def seeA (s : PySem.W.SharedT) : AlA := obA (HandSHeadRun.getT s)
theorem seeA_eq (s : PySem.W.SharedT) : seeA s = hkA.obs s.abs := by
  have e : HandSHeadRun.getT s = s.abs.heap.get? := funext (HandSHeadRun.getT_eq s)
  show obA (HandSHeadRun.getT s) = obA s.abs.heap.get?
  rw [e]
abbrev rwA : PySem.W.OpenSpec := PySem.Challenge.rw_latechange_s01_answers
abbrev qA : Program := PySem.W.view rwA.prog [130]
theorem runF (w : World) : HandSHeadRun.RunEqS rwA qA hkA seeA 4200 hloose (w.withFollow "special-get-raises" false) := by
  intro os
  kernel_rfl
theorem runT (w : World) : HandSHeadRun.RunEqS rwA qA hkA seeA 4200 hloose (w.withFollow "special-get-raises" true) := by
  intro os
  kernel_rfl
theorem runA (w : World) : HandSHeadRun.RunEqS rwA qA hkA seeA 4200 hloose w :=
  PySem.W.byRow2 "special-get-raises" (P := fun w => HandSHeadRun.RunEqS rwA qA hkA seeA 4200 hloose w) runF runT w
theorem well : rwA.wellSaid = true := by decide +kernel
end LC
section
open PySem PySem.W PySem.Calls PyProof.Rows
theorem LC.head_A (hc : WalkOS LC.qA LC.hloose (XL LC.qA []) LC.hkA.says LC.rwA (HandSHeadRun.topDef LC.rwA.prog 130) [] fun f vs => PySem.call f vs) : LC.rwA.Holds := by
  w_on
  refine HandSHeadRun.head_spec (r := LC.rwA) (q := LC.qA) (H := LC.hkA) (ob := LC.seeA) (M := 4200) (loose := LC.hloose) (d := HandSHeadRun.topDef LC.rwA.prog 130) (kwd := []) LC.seeA_eq
    (by kernel_rfl) (fun s => by kernel_rfl) LC.runA (by kernel_rfl) (by kernel_rfl) (by kernel_rfl) os_shapes LC.well (by decide +kernel) ⟨rfl, rfl, rfl, rfl, rfl, by decide +kernel⟩ ?hw hc
  case hw => exact ⟨[.list [.int 30]], by decide +kernel, by decide +kernel⟩
end

namespace LC
open Kpd9

abbrev Tm := Option Int
def smaller (one : Tm) (other : Int) : Int := match one with
  | none => other
  | some x => if other < x then other else x
def bufI (b : Buffer) (s : Int × Tm) : Int × Tm := ((b.capacitance : Int), s.2.map fun x => x - 2 * ((b.delay : Int) + (b.resistance : Int) * s.1))
def wireI (n : Node) (s : Int × Tm) : Int × Tm := ((n.capacitance : Int) + s.1, s.2.map fun x => x - (n.resistance : Int) * ((n.capacitance : Int) + 2 * s.1))
def ownI (n : Node) : Int × Tm := (n.sink.elim 0 fun s => (s.1 : Int), n.sink.map fun s => 2 * (s.2 : Int))
def chosenI (lib : List Buffer) (c : Nat) (s : Int × Tm) : Int × Tm := if c = 0 then s else match lib[c - 1]? with
  | none => s
  | some b => bufI b s
def joinI (s w : Int × Tm) : Int × Tm := (s.1 + w.1, match w.2 with
  | none => s.2
  | some x => some (smaller s.2 x))
def node0 : Node := ⟨0, 0, 0, false, none⟩
def turnI (lib : List Buffer) (nodes : List Node) (choices : List Nat) (A : List (Int × Tm)) (k : Nat) : List (Int × Tm) :=
  let s := chosenI lib (choices.getD k 0) (A.getD k (0, none))
  if k = 0 then A.set k s else (A.set k s).set (nodes.getD k node0).parent (joinI ((A.set k s).getD (nodes.getD k node0).parent (0, none)) (wireI (nodes.getD k node0) s))
def downI (lib : List Buffer) (nodes : List Node) (choices : List Nat) (ks : List Nat) : List (Int × Tm) := ks.foldl (turnI lib nodes choices) (nodes.map ownI)
def rootI (lib : List Buffer) (nodes : List Node) (choices : List Nat) : Int × Tm := (downI lib nodes choices (List.range nodes.length).reverse).getD 0 (0, none)
def slackI (driver : Nat) (lib : List Buffer) (nodes : List Node) (choices : List Nat) : Option Int := (rootI lib nodes choices).2.map fun t => t - 2 * (driver : Int) * (rootI lib nodes choices).1

/-! ### the specification's own list, in whole numbers -/
def look {α : Type} (l : List (Nat × α)) (u : Nat) : Option α := (l.find? fun x => x.1 == u).map Prod.snd
def stepI (nodes : List Node) (l : List (Nat × (Int × Tm))) (s : Int × Tm) (u : Nat) : Int × Tm := match nodes[u]?, look l u with
  | some m, some t => joinI s (wireI m t)
  | _, _ => s
def putI (lib : List Buffer) (nodes : List Node) (choices : List Nat) (l : List (Nat × (Int × Tm))) (v : Nat) : List (Nat × (Int × Tm)) := match nodes[v]? with
  | none => l
  | some n => (v, chosenI lib (choices.getD v 0) ((childrenOf nodes v).foldl (stepI nodes l) (ownI n))) :: l
def toSeen (i : Int × Tm) : Seen := ⟨(i.1 : Rat), i.2.map fun (z : Int) => (z : Rat) / 2⟩
def toSeenP (p : Nat × (Int × Tm)) : Nat × Seen := (p.1, toSeen p.2)

theorem half_buf (z d r l : Int) : (z : Rat) / 2 - (d : Rat) - (r : Rat) * (l : Rat) = ((z - 2 * (d + r * l) : Int) : Rat) / 2 := by
  push_cast
  grind
theorem half_wire (z r c l : Int) : (z : Rat) / 2 - (r : Rat) * ((c : Rat) / 2 + (l : Rat)) = ((z - r * (c + 2 * l) : Int) : Rat) / 2 := by
  push_cast
  grind
theorem half_lt {a b : Int} : ((a : Rat) / 2 < (b : Rat) / 2) ↔ a < b := by
  have h : ((a : Rat) < (b : Rat)) ↔ a < b := Rat.intCast_lt_intCast
  rw [← h]
  constructor <;> intro h <;> grind
theorem seen_own (n : Node) : (⟨(n.sink.elim 0 fun s => (s.1 : Rat)), n.sink.map fun s => (s.2 : Rat)⟩ : Seen) = toSeen (ownI n) := by
  obtain ⟨p, r, c, a, s⟩ := n
  cases s with
  | none => rfl
  | some s =>
    simp only [toSeen, ownI, Option.elim, Option.map]
    congr 1
    have : (((2 * (s.2 : Int)) : Int) : Rat) / 2 = (s.2 : Rat) := by push_cast; grind
    rw [this]
theorem seen_buf (lib : List Buffer) (c : Nat) (i : Int × Tm) : buffered lib c (toSeen i) = toSeen (chosenI lib c i) := by
  unfold buffered chosenI
  by_cases h : c = 0
  · rw [if_pos h, if_pos h]
  · rw [if_neg h, if_neg h]
    cases lib[c - 1]? with
    | none => rfl
    | some b =>
      obtain ⟨l, t⟩ := i
      cases t with
      | none => rfl
      | some z =>
        simp only [toSeen, bufI, Option.map]
        congr 1
        have := half_buf z b.delay b.resistance l
        push_cast at this
        push_cast
        rw [← this]
theorem seen_join (s t : Int × Tm) (m : Node) : (⟨(toSeen s).load + (m.capacitance : Rat) + (toSeen t).load, minOption (toSeen s).required ((toSeen t).required.map fun q => q - (m.resistance : Rat) * ((m.capacitance : Rat) / 2 + (toSeen t).load))⟩ : Seen) = toSeen (joinI s (wireI m t)) := by
  obtain ⟨a, x⟩ := s
  obtain ⟨b, y⟩ := t
  have e1 : (a : Rat) + (m.capacitance : Rat) + (b : Rat) = ((a + ((m.capacitance : Int) + b) : Int) : Rat) := by push_cast; grind
  cases y with
  | none =>
    simp only [toSeen, joinI, wireI, Option.map, e1]
    congr 1
    cases x <;> rfl
  | some y =>
    have e2 := half_wire y m.resistance m.capacitance b
    have e2' : (y : Rat) / 2 - (m.resistance : Rat) * ((m.capacitance : Rat) / 2 + (b : Rat)) = ((y - (m.resistance : Int) * ((m.capacitance : Int) + 2 * b) : Int) : Rat) / 2 := by rw [← e2]; rfl
    simp only [toSeen, joinI, wireI, Option.map, e1, e2']
    congr 1
    cases x with
    | none => rfl
    | some x =>
      simp only [minOption, smaller]
      by_cases h : y - (m.resistance : Int) * ((m.capacitance : Int) + 2 * b) < x
      · rw [if_pos h, if_pos (half_lt.mpr h)]
      · rw [if_neg h, if_neg (fun z => h (half_lt.mp z))]
theorem look_map (l : List (Nat × (Int × Tm))) (u : Nat) : ((l.map toSeenP).find? fun x => x.1 == u).map Prod.snd = (look l u).map toSeen := by
  unfold look
  induction l with
  | nil => rfl
  | cons p l ih =>
    rw [List.map_cons, List.find?_cons, List.find?_cons]
    show (match p.1 == u with | true => some (toSeenP p) | false => (l.map toSeenP).find? fun x => x.1 == u).map Prod.snd = _
    cases h : p.1 == u with
    | true => rfl
    | false => exact ih
theorem seen_put (lib : List Buffer) (nodes : List Node) (choices : List Nat) (l : List (Nat × (Int × Tm))) (v : Nat) : (match nodes[v]? with
  | none => l.map toSeenP
  | some n =>
    let own : Seen := ⟨(n.sink.elim 0 fun s => (s.1 : Rat)), n.sink.map fun s => (s.2 : Rat)⟩
    let all := (childrenOf nodes v).foldl (fun (s : Seen) u => match nodes[u]?, ((l.map toSeenP).find? fun x => x.1 == u).map Prod.snd with
      | some m, some t => ⟨s.load + (m.capacitance : Rat) + t.load, minOption s.required (t.required.map fun q => q - (m.resistance : Rat) * ((m.capacitance : Rat) / 2 + t.load))⟩
      | _, _ => s) own
    (v, buffered lib (choices.getD v 0) all) :: l.map toSeenP) = (putI lib nodes choices l v).map toSeenP := by
  unfold putI
  cases nodes[v]? with
  | none => rfl
  | some n =>
    show (v, _) :: _ = (v, toSeen _) :: _
    congr 2
    rw [seen_own, ← seen_buf]
    congr 1
    generalize ownI n = o
    generalize childrenOf nodes v = cs
    induction cs generalizing o with
    | nil => rfl
    | cons u r ih =>
      rw [List.foldl_cons, List.foldl_cons, ← ih]
      congr 1
      rw [look_map]
      unfold stepI
      cases nodes[u]? with
      | none => rfl
      | some m =>
        cases look l u with
        | none => rfl
        | some t => exact seen_join o t m
theorem seenAll_eq (lib : List Buffer) (nodes : List Node) (choices : List Nat) : seenAll lib nodes choices = ((List.range nodes.length).reverse.foldl (putI lib nodes choices) []).map toSeenP := by
  unfold seenAll
  have : ∀ (ks : List Nat) (l : List (Nat × (Int × Tm))), ks.foldl (fun (l : List (Nat × Seen)) v => match nodes[v]? with
    | none => l
    | some n =>
      let own : Seen := ⟨(n.sink.elim 0 fun s => (s.1 : Rat)), n.sink.map fun s => (s.2 : Rat)⟩
      let all := (childrenOf nodes v).foldl (fun (s : Seen) u => match nodes[u]?, (l.find? fun x => x.1 == u).map Prod.snd with
        | some m, some t => ⟨s.load + (m.capacitance : Rat) + t.load, minOption s.required (t.required.map fun q => q - (m.resistance : Rat) * ((m.capacitance : Rat) / 2 + t.load))⟩
        | _, _ => s) own
      (v, buffered lib (choices.getD v 0) all) :: l) (l.map toSeenP) = (ks.foldl (putI lib nodes choices) l).map toSeenP := by
    intro ks
    induction ks with
    | nil => intro l; rfl
    | cons k r ih =>
      intro l
      rw [List.foldl_cons, List.foldl_cons, ← ih]
      congr 1
      exact seen_put lib nodes choices l k
  exact this _ []

/-! ### the program's own order -/
theorem join_comm (s a b : Int × Tm) : joinI (joinI s a) b = joinI (joinI s b) a := by
  obtain ⟨s1, s2⟩ := s
  obtain ⟨a1, a2⟩ := a
  obtain ⟨b1, b2⟩ := b
  simp only [joinI]
  refine Prod.ext (by show s1 + a1 + b1 = s1 + b1 + a1; omega) ?_
  cases a2 <;> cases b2 <;> cases s2 <;> simp only [smaller] <;> (try rfl) <;> (repeat' split) <;> simp only [Option.some.injEq] <;> omega
def okC (nodes : List Node) (v u : Nat) : Bool := decide (1 ≤ u) && (nodes[u]?.map Node.parent) == some v
def kidsFrom (nodes : List Node) (j v : Nat) : List Nat := (List.range' j (nodes.length - j)).filter (okC nodes v)
def Tree (nodes : List Node) : Prop := ∀ u m, nodes[u]? = some m → 1 ≤ u → m.parent < u
theorem kids_cons {nodes : List Node} {k v : Nat} (h : k < nodes.length) : kidsFrom nodes k v = if okC nodes v k = true then k :: kidsFrom nodes (k + 1) v else kidsFrom nodes (k + 1) v := by
  unfold kidsFrom
  obtain ⟨m, hm⟩ : ∃ m, nodes.length - k = m + 1 := ⟨nodes.length - k - 1, by omega⟩
  rw [hm, List.range'_succ, List.filter_cons, show nodes.length - (k + 1) = m by omega]
theorem kids_all {nodes : List Node} (T : Tree nodes) {v : Nat} : ∀ j, j ≤ v + 1 → j ≤ nodes.length → kidsFrom nodes j v = childrenOf nodes v
  | 0, _, _ => by
    unfold kidsFrom childrenOf
    rw [List.range_eq_range', Nat.sub_zero]
    rfl
  | j + 1, h, h2 => by
    rw [← kids_all T j (by omega) (by omega), kids_cons (k := j) (by omega)]
    have : okC nodes v j = false := by
      unfold okC
      cases e : nodes[j]? with
      | none => simp
      | some m =>
        by_cases h1 : 1 ≤ j
        · have := T j m e h1
          simp
          omega
        · simp [h1]
    rw [this]
    rfl
theorem look_cons {α : Type} {l : List (Nat × α)} {k u : Nat} {x : α} : look ((k, x) :: l) u = if k = u then some x else look l u := by
  unfold look
  rw [List.find?_cons]
  by_cases h : k = u
  · have : (k == u) = true := by simp [h]
    simp [this, h]
  · have : (k == u) = false := by simp [h]
    simp [this, h]
structure DownInv (lib : List Buffer) (nodes : List Node) (j : Nat) (A : List (Int × Tm)) (l : List (Nat × (Int × Tm))) : Prop where
  len : A.length = nodes.length
  hi : ∀ v, v < nodes.length → j ≤ v → look l v = some (A.getD v (0, none))
  lo : ∀ v, v < nodes.length → v < j → A.getD v (0, none) = (kidsFrom nodes j v).foldl (stepI nodes l) (ownI (nodes.getD v node0))
theorem fold_move {nodes : List Node} {l : List (Nat × (Int × Tm))} : ∀ (r : List Nat) (s w : Int × Tm), r.foldl (stepI nodes l) (joinI s w) = joinI (r.foldl (stepI nodes l) s) w
  | [], _, _ => rfl
  | u :: r, s, w => by
    rw [List.foldl_cons, List.foldl_cons, ← fold_move r]
    congr 1
    unfold stepI
    split
    · exact join_comm _ _ _
    · rfl
theorem fold_look {nodes : List Node} {l l' : List (Nat × (Int × Tm))} : ∀ (r : List Nat) (s : Int × Tm), (∀ u ∈ r, look l u = look l' u) → r.foldl (stepI nodes l) s = r.foldl (stepI nodes l') s
  | [], _, _ => rfl
  | u :: r, s, h => by
    have e : stepI nodes l s u = stepI nodes l' s u := by
      unfold stepI
      rw [h u (by simp)]
    rw [List.foldl_cons, List.foldl_cons, e]
    exact fold_look r _ fun v hv => h v (by simp [hv])
theorem kids_ge {nodes : List Node} {j v u : Nat} (h : u ∈ kidsFrom nodes j v) : j ≤ u ∧ u < nodes.length := by
  unfold kidsFrom at h
  rw [List.mem_filter, List.mem_range'_1] at h
  omega
theorem getD_set_self' {A : List (Int × Tm)} {k : Nat} {x : Int × Tm} (h : k < A.length) : (A.set k x).getD k (0, none) = x := by
  simp [List.getD_eq_getElem?_getD, List.getElem?_set_self h]
theorem getD_set_ne' {A : List (Int × Tm)} {k v : Nat} {x : Int × Tm} (h : k ≠ v) : (A.set k x).getD v (0, none) = A.getD v (0, none) := by
  simp [List.getD_eq_getElem?_getD, List.getElem?_set_ne h]
theorem down_turn {lib : List Buffer} {nodes : List Node} {choices : List Nat} (T : Tree nodes) {k : Nat} {A : List (Int × Tm)} {l : List (Nat × (Int × Tm))} (hk : k < nodes.length) (I : DownInv lib nodes (k + 1) A l) :
    DownInv lib nodes k (turnI lib nodes choices A k) (putI lib nodes choices l k) := by
  have hn : nodes[k]? = some (nodes.getD k node0) := by simp [List.getD_eq_getElem?_getD, hk]
  generalize nodes.getD k node0 = n at hn
  have hA := I.lo k hk (by omega)
  rw [kids_all T (k + 1) (by omega) (by omega)] at hA
  have hnk : nodes.getD k node0 = n := by simp [List.getD_eq_getElem?_getD, hn]
  rw [hnk] at hA
  have eput : putI lib nodes choices l k = (k, chosenI lib (choices.getD k 0) (A.getD k (0, none))) :: l := by
    unfold putI
    rw [hn, hA]
  rw [eput]
  unfold turnI
  rw [hnk]
  generalize hs : chosenI lib (choices.getD k 0) (A.getD k (0, none)) = s
  have hkA : k < A.length := by rw [I.len]; exact hk
  have keep : ∀ v, v < nodes.length → v < k → okC nodes v k = false → (A.set k s).getD v (0, none) = (kidsFrom nodes k v).foldl (stepI nodes ((k, s) :: l)) (ownI (nodes.getD v node0)) := fun v hv hvk ho => by
    rw [getD_set_ne' (by omega), I.lo v hv (by omega), kids_cons hk, ho]
    exact fold_look _ _ fun u hu => by
      rw [look_cons, if_neg (by have := kids_ge hu; omega)]
  by_cases h0 : k = 0
  · rw [if_pos h0]
    refine ⟨by simp [I.len], fun v hv hj => ?_, fun v hv hj => by omega⟩
    rw [look_cons]
    by_cases e : k = v
    · rw [if_pos e, ← e, getD_set_self' hkA]
    · rw [if_neg e, getD_set_ne' e, I.hi v hv (by omega)]
  · rw [if_neg h0]
    have hp : n.parent < k := T k n hn (by omega)
    refine ⟨by simp [I.len], fun v hv hj => ?_, fun v hv hj => ?_⟩
    · rw [look_cons, getD_set_ne' (by omega)]
      by_cases e : k = v
      · rw [if_pos e, ← e, getD_set_self' hkA]
      · rw [if_neg e, getD_set_ne' e, I.hi v hv (by omega)]
    · by_cases e : n.parent = v
      · subst e
        rw [getD_set_self' (by simp [I.len]; omega)]
        have ho : okC nodes n.parent k = true := by
          unfold okC
          rw [hn]
          simp
          omega
        rw [kids_cons hk, ho, if_pos rfl, List.foldl_cons, getD_set_ne' (by omega), I.lo _ hv (by omega)]
        have e1 : stepI nodes ((k, s) :: l) (ownI (nodes.getD n.parent node0)) k = joinI (ownI (nodes.getD n.parent node0)) (wireI n s) := by
          unfold stepI
          rw [hn, look_cons, if_pos rfl]
        rw [e1, fold_move]
        congr 1
        exact fold_look _ _ fun u hu => by
          rw [look_cons, if_neg (by have := kids_ge hu; omega)]
      · rw [getD_set_ne' e]
        refine keep v hv hj ?_
        unfold okC
        rw [hn]
        simp [e]
theorem down_all {lib : List Buffer} {nodes : List Node} {choices : List Nat} (T : Tree nodes) : ∀ (j : Nat) (A : List (Int × Tm)) (l : List (Nat × (Int × Tm))), j ≤ nodes.length → DownInv lib nodes j A l →
    DownInv lib nodes 0 ((List.range j).reverse.foldl (turnI lib nodes choices) A) ((List.range j).reverse.foldl (putI lib nodes choices) l)
  | 0, A, l, _, I => I
  | j + 1, A, l, h, I => by
    rw [List.range_succ, List.reverse_append]
    exact down_all T j _ _ (by omega) (down_turn T (by omega) I)
theorem root_seen {lib : List Buffer} {nodes : List Node} {choices : List Nat} (T : Tree nodes) (h : 0 < nodes.length) : rootSeen lib nodes choices = toSeen (rootI lib nodes choices) := by
  have I0 : DownInv lib nodes nodes.length (nodes.map ownI) [] := ⟨by simp, fun v h1 h2 => by omega, fun v h1 h2 => by
    have : kidsFrom nodes nodes.length v = [] := by unfold kidsFrom; rw [Nat.sub_self]; rfl
    rw [this]
    simp [List.getD_eq_getElem?_getD, h1]⟩
  have I := down_all (choices := choices) T nodes.length _ _ (Nat.le_refl _) I0
  unfold rootSeen
  rw [seenAll_eq, look_map, I.hi 0 h (Nat.le_refl _)]
  rfl
theorem slack_eq {driver : Nat} {lib : List Buffer} {nodes : List Node} {choices : List Nat} (T : Tree nodes) (h : 0 < nodes.length) : slack driver lib nodes choices = (slackI driver lib nodes choices).map fun (z : Int) => (z : Rat) / 2 := by
  unfold slack slackI
  rw [root_seen T h]
  simp only [toSeen, Option.map_map]
  congr 1
  funext z
  show (z : Rat) / 2 - (driver : Rat) * ((rootI lib nodes choices).1 : Rat) = (((z - 2 * (driver : Int) * (rootI lib nodes choices).1 : Int)) : Rat) / 2
  push_cast
  grind
end LC

namespace LC
open Kpd9
def halvesM (z : Int) : List Int := if z % 2 = 0 then [z / 2, 1] else [z, 2]
theorem fields_half (z : Int) : Kpd9.fields ((z : Rat) / 2) = halvesM z := by
  unfold Kpd9.fields halvesM
  by_cases h : z % 2 = 0
  · rw [if_pos h]
    have e : (z : Rat) / 2 = ((z / 2 : Int) : Rat) := by
      have : z = 2 * (z / 2) := by omega
      rw [this]
      generalize z / 2 = k
      have e2 : 2 * k / 2 = k := by omega
      rw [e2]
      push_cast
      grind
    rw [e]
    rfl
  · rw [if_neg h]
    have hc : Nat.Coprime z.natAbs 2 := by
      have : z.natAbs % 2 = 1 := by omega
      unfold Nat.Coprime
      rw [Nat.gcd_comm, Nat.gcd_rec, this]
      rfl
    have e : (z : Rat) / 2 = ⟨z, 2, by decide, hc⟩ := by
      rw [Rat.mk_eq_mkRat, Rat.mkRat_eq_div]
      rfl
    rw [e]
    rfl

/-! ### the state's own bounds -/
structure TOk (nodes : List Node) (lib : List Buffer) : Prop where
  n0 : 0 < nodes.length
  n1 : nodes.length ≤ 100
  tree : Tree nodes
  nr : ∀ n ∈ nodes, n.resistance ≤ 1000000
  br : ∀ b ∈ lib, b.resistance ≤ 1000000
def ChOk (nodes : List Node) (lib : List Buffer) (ch : List Nat) : Prop := ch.length = nodes.length ∧ ∀ c ∈ ch, c ≤ lib.length
structure Wf (d : Design) : Prop where
  n0 : 0 < d.nodes.length
  n1 : d.nodes.length ≤ 10
  tree : Tree d.nodes
  nr : ∀ n ∈ d.nodes, n.resistance ≤ 1000
  per : (d.nodes.filter Node.isAllowed).length ≤ 5
  lib : d.library.length ≤ 3
  br : ∀ b ∈ d.library, b.resistance ≤ 1000
  drv : d.driver ≤ 1000
  ch : areChoices d.library d.nodes d.choices = true
  vio : d.repairs.violations ≤ 8
  chg : d.repairs.changes.length ≤ 9
  cfl : d.repairs.conflicts.length ≤ 10
  app : d.repairs.applied < 2 ^ d.repairs.changes.length
  need : d.needs.length ≤ 5
  spare : d.spares.length ≤ 7
theorem Wf.tok {d : Design} (w : Wf d) : TOk d.nodes d.library :=
  ⟨w.n0, by have := w.n1; omega, w.tree, fun n h => by have := w.nr n h; omega, fun b h => by have := w.br b h; omega⟩
theorem areChoices_ok {lib : List Buffer} {nodes : List Node} {ch : List Nat} (h : areChoices lib nodes ch = true) : ChOk nodes lib ch := by
  unfold areChoices at h
  simp only [Bool.and_eq_true, beq_iff_eq, List.all_eq_true, List.mem_range, Bool.or_eq_true, decide_eq_true_eq] at h
  refine ⟨h.1, fun c hc => ?_⟩
  obtain ⟨i, hi, e⟩ := List.getElem_of_mem hc
  have := h.2 i (by omega)
  rw [List.getD_eq_getElem?_getD, List.getElem?_eq_getElem hi, Option.getD_some, e] at this
  omega

/-! ### sinks -/
def hasT (A : List (Int × Tm)) (j : Nat) : Prop := ∃ v, v < j ∧ (A.getD v (0, none)).2.isSome = true
theorem chosen_some (lib : List Buffer) (c : Nat) (s : Int × Tm) : (chosenI lib c s).2.isSome = s.2.isSome := by
  unfold chosenI
  split
  · rfl
  · split
    · rfl
    · simp [bufI]
theorem join_some (s w : Int × Tm) : (joinI s w).2.isSome = (s.2.isSome || w.2.isSome) := by
  unfold joinI
  cases w.2 <;> simp
theorem turn_has {lib : List Buffer} {nodes : List Node} {ch : List Nat} {A : List (Int × Tm)} (T : Tree nodes) (hl : A.length = nodes.length) {k : Nat} (hk : k < nodes.length) (h0 : k ≠ 0) : hasT (turnI lib nodes ch A k) k ↔ hasT A (k + 1) := by
  have hn : nodes[k]? = some (nodes.getD k node0) := by simp [List.getD_eq_getElem?_getD, hk]
  have hp := T k _ hn (by omega)
  unfold turnI
  simp only [if_neg h0]
  generalize nodes.getD k node0 = n at hp ⊢
  generalize hs : chosenI lib (ch.getD k 0) (A.getD k (0, none)) = s
  have es : s.2.isSome = (A.getD k (0, none)).2.isSome := by rw [← hs, chosen_some]
  have key : ∀ v, v < k → (((A.set k s).set n.parent (joinI ((A.set k s).getD n.parent (0, none)) (wireI n s))).getD v (0, none)).2.isSome = ((A.getD v (0, none)).2.isSome || (decide (v = n.parent) && (A.getD k (0, none)).2.isSome)) := fun v hv => by
    by_cases e : n.parent = v
    · subst e
      rw [getD_set_self' (by simp; omega), join_some, getD_set_ne' (by omega)]
      simp [wireI, es]
    · rw [getD_set_ne' e, getD_set_ne' (by omega)]
      have : ¬ v = n.parent := fun z => e z.symm
      simp [this]
  constructor
  · rintro ⟨v, hv, h⟩
    rw [key v hv] at h
    rcases Bool.or_eq_true_iff.mp h with h | h
    · exact ⟨v, by omega, h⟩
    · exact ⟨k, by omega, (Bool.and_eq_true_iff.mp h).2⟩
  · rintro ⟨v, hv, h⟩
    by_cases e : v = k
    · subst e
      exact ⟨n.parent, hp, by rw [key _ hp, h]; simp⟩
    · exact ⟨v, by omega, by rw [key v (by omega), h]; simp⟩
theorem turn_len {lib : List Buffer} {nodes : List Node} {ch : List Nat} {A : List (Int × Tm)} {k : Nat} : (turnI lib nodes ch A k).length = A.length := by
  unfold turnI
  dsimp only
  split <;> simp
theorem down_has {lib : List Buffer} {nodes : List Node} {ch : List Nat} (T : Tree nodes) : ∀ (j : Nat) (A : List (Int × Tm)), A.length = nodes.length → j + 1 ≤ nodes.length →
    ((((List.range (j + 1)).reverse.foldl (turnI lib nodes ch) A).getD 0 (0, none)).2.isSome = true ↔ hasT A (j + 1))
  | 0, A, hl, h => by
    show ((turnI lib nodes ch A 0).getD 0 (0, none)).2.isSome = true ↔ _
    unfold turnI
    simp only [if_true]
    rw [getD_set_self' (by omega), chosen_some]
    exact ⟨fun h => ⟨0, by omega, h⟩, fun ⟨v, hv, h⟩ => by
      have : v = 0 := by omega
      subst this
      exact h⟩
  | j + 1, A, hl, h => by
    rw [List.range_succ, List.reverse_append]
    show (((List.range (j + 1)).reverse.foldl (turnI lib nodes ch) (turnI lib nodes ch A (j + 1))).getD 0 (0, none)).2.isSome = true ↔ _
    rw [down_has T j _ (by rw [turn_len]; exact hl) (by omega)]
    exact turn_has T hl (by omega) (by omega)
theorem root_some {lib : List Buffer} {nodes : List Node} {ch : List Nat} (T : Tree nodes) (h : 0 < nodes.length) : (rootI lib nodes ch).2.isSome = nodes.any fun n => n.sink.isSome := by
  unfold rootI downI
  obtain ⟨m, hm⟩ : ∃ m, nodes.length = m + 1 := ⟨nodes.length - 1, by omega⟩
  have e := down_has (lib := lib) (ch := ch) T m (nodes.map ownI) (by simp) (by omega)
  rw [hm, Bool.eq_iff_iff, e]
  simp only [hasT, List.any_eq_true]
  constructor
  · rintro ⟨v, hv, h⟩
    have hv' : v < nodes.length := by omega
    refine ⟨nodes[v], List.getElem_mem _, ?_⟩
    simpa [List.getD_eq_getElem?_getD, hv', ownI] using h
  · rintro ⟨n, hn, h⟩
    obtain ⟨v, hv, e⟩ := List.getElem_of_mem hn
    refine ⟨v, by omega, ?_⟩
    simpa [List.getD_eq_getElem?_getD, hv, ownI, e] using h
def sinks (nodes : List Node) : Bool := nodes.any fun n => n.sink.isSome
theorem slackI_some {driver : Nat} {lib : List Buffer} {nodes : List Node} {ch : List Nat} (T : Tree nodes) (h : 0 < nodes.length) (hs : sinks nodes = true) : slackI driver lib nodes ch = some ((slackI driver lib nodes ch).getD 0) := by
  have e := root_some (lib := lib) (ch := ch) T h
  unfold slackI
  cases q : (rootI lib nodes ch).2 with
  | none =>
    rw [q] at e
    unfold sinks at hs
    rw [hs] at e
    cases e
  | some t => rfl
theorem slackI_none {driver : Nat} {lib : List Buffer} {nodes : List Node} {ch : List Nat} (T : Tree nodes) (h : 0 < nodes.length) (hs : sinks nodes = false) : slackI driver lib nodes ch = none := by
  have e := root_some (lib := lib) (ch := ch) T h
  unfold slackI
  cases q : (rootI lib nodes ch).2 with
  | none => rfl
  | some t =>
    rw [q] at e
    unfold sinks at hs
    rw [hs] at e
    cases e

/-! ### all choices -/
def pick (count : Nat) (n : Node) : List Nat := if n.isAllowed then List.range (count + 1) else [0]
def bfs (count : Nat) (nodes : List Node) : List (List Nat) := nodes.foldl (fun F n => F.flatMap fun b => (pick count n).map fun c => b ++ [c]) [[]]
theorem bfs_from (count : Nat) : ∀ (nodes : List Node) (F : List (List Nat)), nodes.foldl (fun F n => F.flatMap fun b => (pick count n).map fun c => b ++ [c]) F = F.flatMap fun b => (allChoices count nodes).map fun r => b ++ r
  | [], F => by
    show F = F.flatMap fun b => [b ++ []]
    simp
  | n :: l, F => by
    rw [List.foldl_cons, bfs_from count l]
    simp only [allChoices, pick, List.flatMap_assoc, List.flatMap_map, List.map_flatMap, List.map_map]
    congr 1
    funext b
    congr 1
    funext c
    refine List.map_congr_left fun r _ => ?_
    simp
theorem bfs_eq (count : Nat) (nodes : List Node) : bfs count nodes = allChoices count nodes := by
  unfold bfs
  rw [bfs_from]
  simp
theorem bfs_more {count : Nat} {nodes : List Node} {i : Nat} {n : Node} (h : nodes.take (i + 1) = nodes.take i ++ [n]) : bfs count (nodes.take (i + 1)) = (bfs count (nodes.take i)).flatMap fun b => (pick count n).map fun c => b ++ [c] := by
  unfold bfs
  rw [h, List.foldl_append]
  rfl
theorem allChoices_len (count : Nat) : ∀ nodes : List Node, (allChoices count nodes).length = (count + 1) ^ (nodes.filter Node.isAllowed).length
  | [] => rfl
  | n :: l => by
    have ih := allChoices_len count l
    simp only [allChoices, List.length_flatMap, List.length_map, ih]
    by_cases h : n.isAllowed = true
    · simp only [h, if_true, List.map_const', List.length_range, List.sum_replicate_nat, List.filter_cons_of_pos, List.length_cons]
      rw [Nat.pow_succ, Nat.mul_comm]
    · simp [h]
theorem bfs_le {count : Nat} {nodes : List Node} (hc : count ≤ 3) (hp : (nodes.filter Node.isAllowed).length ≤ 5) (i : Nat) : (bfs count (nodes.take i)).length ≤ 1024 := by
  rw [bfs_eq, allChoices_len]
  have h1 : ((nodes.take i).filter Node.isAllowed).length ≤ 5 := Nat.le_trans (List.Sublist.length_le ((List.take_sublist i nodes).filter _)) hp
  calc (count + 1) ^ ((nodes.take i).filter Node.isAllowed).length ≤ 4 ^ ((nodes.take i).filter Node.isAllowed).length := Nat.pow_le_pow_left (by omega) _
    _ ≤ 4 ^ 5 := Nat.pow_le_pow_right (by decide) h1
    _ = 1024 := rfl
theorem allChoices_ok {count : Nat} : ∀ {nodes : List Node} {c : List Nat}, c ∈ allChoices count nodes → c.length = nodes.length ∧ ∀ x ∈ c, x ≤ count
  | [], c, h => by
    have : c = [] := by simpa [allChoices] using h
    subst this
    simp
  | n :: l, c, h => by
    simp only [allChoices, List.mem_flatMap, List.mem_map] at h
    obtain ⟨x, hx, r, hr, rfl⟩ := h
    obtain ⟨h1, h2⟩ := allChoices_ok hr
    refine ⟨by simp [h1], fun y hy => ?_⟩
    rcases List.mem_cons.mp hy with rfl | hy
    · split at hx
      · have := List.mem_range.mp hx; omega
      · have : y = 0 := by simpa using hx
        omega
    · exact h2 y hy

/-! ### offers -/
abbrev Off := Nat × Int × List Nat
def offersM (driver : Nat) (lib : List Buffer) (nodes : List Node) : List Off := (allChoices lib.length nodes).map fun c => (costOf lib c, (slackI driver lib nodes c).getD 0, c)
def cheapM (os : List Off) : Option Off := os.foldl (fun f o => match f with
  | none => some o
  | some z => if o.1 < z.1 then some o else some z) none
def told (o : Off) : List Nat × Rat := (o.2.2, (o.2.1 : Rat) / 2)
theorem snoc_ind {α : Type} {P : List α → Prop} (h0 : P []) (h1 : ∀ l x, P l → P (l ++ [x])) (l : List α) : P l := by
  rw [← l.reverse_reverse]
  induction l.reverse with
  | nil => exact h0
  | cons x r ih => rw [List.reverse_cons]; exact h1 _ _ ih
theorem cheap_snoc (l : List Off) (o : Off) : cheapM (l ++ [o]) = match cheapM l with
  | none => some o
  | some z => if o.1 < z.1 then some o else some z := by
  unfold cheapM
  rw [List.foldl_append]
  rfl
theorem cheap_mem : ∀ (l : List Off) (z : Off), cheapM l = some z → z ∈ l := by
  intro l
  refine snoc_ind (P := fun l => ∀ z, cheapM l = some z → z ∈ l) ?_ ?_ l
  · intro z h
    cases h
  · intro l x ih z h
    rw [cheap_snoc] at h
    cases e : cheapM l with
    | none =>
      rw [e] at h
      have : x = z := Option.some.inj h
      simp [this]
    | some y =>
      rw [e] at h
      dsimp only at h
      split at h
      · have : x = z := Option.some.inj h
        simp [this]
      · have : y = z := Option.some.inj h
        have := ih y e
        simp_all
theorem cheap_none (l : List Off) (h : l ≠ []) : cheapM l ≠ none := by
  revert h
  refine snoc_ind (P := fun l => l ≠ [] → cheapM l ≠ none) (fun h => absurd rfl h) (fun l x ih _ => ?_) l
  rw [cheap_snoc]
  cases cheapM l with
  | none => simp
  | some z =>
    dsimp only
    split <;> simp
section
variable {driver : Nat} {lib : List Buffer} {nodes : List Node}
theorem slack_off (T : Tree nodes) (h : 0 < nodes.length) (hs : sinks nodes = true) (c : List Nat) : slack driver lib nodes c = some ((((slackI driver lib nodes c).getD 0 : Int) : Rat) / 2) := by
  rw [slack_eq T h, slackI_some T h hs]
  rfl
def bestStep (f : Option Off) (o : Off) : Option Off := match f with
  | none => some o
  | some z => if z.2.1 < o.2.1 ∨ (z.2.1 = o.2.1 ∧ o.1 < z.1) then some o else some z
theorem half_eq {a b : Int} : ((a : Rat) / 2 = (b : Rat) / 2) ↔ a = b := by
  constructor
  · intro h
    have h1 : ¬ a < b := fun z => by have := half_lt.mpr z; rw [h] at this; exact absurd this (Rat.lt_irrefl)
    have h2 : ¬ b < a := fun z => by have := half_lt.mpr z; rw [h] at this; exact absurd this (Rat.lt_irrefl)
    omega
  · intro h
    rw [h]
theorem off_cost {o : Off} (h : o ∈ offersM driver lib nodes) : costOf lib o.2.2 = o.1 := by
  obtain ⟨c, _, rfl⟩ := List.mem_map.mp h
  rfl
theorem best_fold (T : Tree nodes) (h : 0 < nodes.length) (hs : sinks nodes = true) : best driver lib nodes = ((offersM driver lib nodes).foldl bestStep none).map told := by
  unfold best offersM
  have : ∀ (cs : List (List Nat)) (f : Option Off), (∀ z, f = some z → costOf lib z.2.2 = z.1) → cs.foldl (fun (found : Option (List Nat × Rat)) c =>
      match slack driver lib nodes c with
      | none => found
      | some q => match found with
        | none => some (c, q)
        | some z => if z.2 < q ∨ (z.2 = q ∧ costOf lib c < costOf lib z.1) then some (c, q) else found) (f.map told) = ((cs.map fun c => (costOf lib c, (slackI driver lib nodes c).getD 0, c)).foldl bestStep f).map told := by
    intro cs
    induction cs with
    | nil => intro f _; rfl
    | cons c r ih =>
      intro f hf
      rw [List.foldl_cons, List.map_cons, List.foldl_cons]
      have hn : ∀ z, bestStep f (costOf lib c, (slackI driver lib nodes c).getD 0, c) = some z → costOf lib z.2.2 = z.1 := fun z hz => by
        unfold bestStep at hz
        cases f with
        | none => have e := Option.some.inj hz; subst e; rfl
        | some y =>
          dsimp only at hz
          split at hz
          · have e := Option.some.inj hz; subst e; rfl
          · have e := Option.some.inj hz; subst e; exact hf _ rfl
      rw [← ih _ hn]
      congr 1
      rw [slack_off T h hs]
      cases f with
      | none => rfl
      | some z =>
        simp only [Option.map_some, bestStep, told, half_lt, half_eq, hf z rfl]
        split <;> rfl
  exact this _ none (fun _ z => nomatch z)
theorem best_cheap : ∀ (l : List Off) (g : Int), (∃ o, o ∈ l ∧ o.2.1 = g) → (∀ o, o ∈ l → o.2.1 ≤ g) → l.foldl bestStep none = cheapM (l.filter fun o => decide (o.2.1 = g)) ∧ ∀ z, l.foldl bestStep none = some z → z.2.1 = g := by
  intro l
  refine snoc_ind (P := fun l => ∀ g, (∃ o, o ∈ l ∧ o.2.1 = g) → (∀ o, o ∈ l → o.2.1 ≤ g) → l.foldl bestStep none = cheapM (l.filter fun o => decide (o.2.1 = g)) ∧ ∀ z, l.foldl bestStep none = some z → z.2.1 = g) ?_ ?_ l
  · rintro g ⟨o, ho, _⟩
    cases ho
  · rintro l x ih g ⟨o, ho, eo⟩ hle
    have step : (l ++ [x]).foldl bestStep none = bestStep (l.foldl bestStep none) x := by rw [List.foldl_append]; rfl
    have memo : ∀ z, l.foldl bestStep none = some z → z ∈ l := by
      refine snoc_ind (P := fun l => ∀ z, l.foldl bestStep none = some z → z ∈ l) (fun z h => by cases h) (fun l y ih2 z h => ?_) l
      rw [List.foldl_append] at h
      change bestStep (l.foldl bestStep none) y = some z at h
      cases e : l.foldl bestStep none with
      | none => rw [e] at h; have := Option.some.inj h; simp [this]
      | some w =>
        rw [e] at h
        unfold bestStep at h
        dsimp only at h
        split at h
        · have := Option.some.inj h; simp [this]
        · have := Option.some.inj h; have := ih2 w e; simp_all
    rw [step, List.filter_append]
    by_cases hx : x.2.1 = g
    · have fx : [x].filter (fun o => decide (o.2.1 = g)) = [x] := by simp [hx]
      rw [fx, cheap_snoc]
      by_cases hl : ∃ o, o ∈ l ∧ o.2.1 = g
      · obtain ⟨e1, e2⟩ := ih g hl fun o h => hle o (by simp [h])
        rw [← e1]
        cases e : l.foldl bestStep none with
        | none => exact ⟨rfl, fun z h => by have := Option.some.inj h; subst this; exact hx⟩
        | some z =>
          have ez := e2 z e
          unfold bestStep
          dsimp only
          have c : (z.2.1 < x.2.1 ∨ (z.2.1 = x.2.1 ∧ x.1 < z.1)) ↔ x.1 < z.1 := by omega
          simp only [c]
          refine ⟨by first | rfl | trivial, fun y h => ?_⟩
          split at h
          · have := Option.some.inj h; subst this; exact hx
          · have := Option.some.inj h; subst this; exact ez
      · have fl : l.filter (fun o => decide (o.2.1 = g)) = [] := List.filter_eq_nil_iff.mpr fun o h e => hl ⟨o, h, of_decide_eq_true e⟩
        rw [fl]
        show bestStep _ x = some x ∧ _
        cases e : l.foldl bestStep none with
        | none => exact ⟨rfl, fun z h => by have := Option.some.inj h; subst this; exact hx⟩
        | some z =>
          have hz := memo z e
          have lt : z.2.1 < x.2.1 := by
            have h1 := hle z (by simp [hz])
            have h2 : ¬ z.2.1 = g := fun q => hl ⟨z, hz, q⟩
            omega
          unfold bestStep
          dsimp only
          rw [if_pos (.inl lt)]
          exact ⟨rfl, fun y h => by have := Option.some.inj h; subst this; exact hx⟩
    · have fx : [x].filter (fun o => decide (o.2.1 = g)) = [] := by simp [hx]
      have hl : ∃ o, o ∈ l ∧ o.2.1 = g := by
        rcases List.mem_append.mp ho with h | h
        · exact ⟨o, h, eo⟩
        · have : o = x := by simpa using h
          subst this
          exact absurd eo hx
      rw [fx, List.append_nil]
      obtain ⟨e1, e2⟩ := ih g hl fun o h => hle o (by simp [h])
      cases e : l.foldl bestStep none with
      | none =>
        exfalso
        rw [e1] at e
        obtain ⟨o, ho, eo⟩ := hl
        exact cheap_none _ (fun z => by have : o ∈ l.filter (fun o => decide (o.2.1 = g)) := List.mem_filter.mpr ⟨ho, by simp [eo]⟩; rw [z] at this; cases this) e
      | some z =>
        have ez := e2 z e
        have h1 := hle x (by simp)
        unfold bestStep
        dsimp only
        rw [if_neg (by omega)]
        exact ⟨by rw [← e1, e], fun y h => by have := Option.some.inj h; subst this; exact ez⟩
theorem best_eq (T : Tree nodes) (h : 0 < nodes.length) (hs : sinks nodes = true) {g : Int} (h1 : ∃ o, o ∈ offersM driver lib nodes ∧ o.2.1 = g) (h2 : ∀ o, o ∈ offersM driver lib nodes → o.2.1 ≤ g) :
    best driver lib nodes = (cheapM ((offersM driver lib nodes).filter fun o => decide (o.2.1 = g))).map told := by
  rw [best_fold T h hs, (best_cheap _ g h1 h2).1]
theorem best_none (T : Tree nodes) (h : 0 < nodes.length) (hs : sinks nodes = false) : best driver lib nodes = none := by
  unfold best
  generalize allChoices lib.length nodes = cs
  have : ∀ c, slack driver lib nodes c = none := fun c => by rw [slack_eq T h, slackI_none T h hs]; rfl
  simp only [this]
  induction cs with
  | nil => rfl
  | cons c r ih => exact ih
theorem quot_lt {z t : Int} {v : Nat} (hv : 0 < v) : ((z : Rat) / 2 < (t : Rat) / (v : Rat)) ↔ z * (v : Int) < 2 * t := by
  have hv' : (0 : Rat) < (v : Rat) := by exact_mod_cast hv
  have e : ((z * (v : Int) : Int) : Rat) < ((2 * t : Int) : Rat) ↔ z * (v : Int) < 2 * t := Rat.intCast_lt_intCast
  rw [← e]
  push_cast
  constructor
  · intro q
    have := (Rat.mul_lt_mul_right hv').mpr q
    rw [Rat.div_mul_cancel (by grind)] at this
    grind
  · intro q
    refine (Rat.mul_lt_mul_right hv').mp ?_
    rw [Rat.div_mul_cancel (by grind)]
    grind
theorem cheapest_eq (T : Tree nodes) (h : 0 < nodes.length) (hs : sinks nodes = true) {t : Int} {v : Nat} (hv : 0 < v) :
    cheapest driver lib nodes ((t : Rat) / (v : Rat)) = (cheapM ((offersM driver lib nodes).filter fun o => decide (2 * t ≤ o.2.1 * (v : Int)))).map told := by
  unfold cheapest offersM cheapM
  have : ∀ (cs : List (List Nat)) (f : Option Off), (∀ z, f = some z → costOf lib z.2.2 = z.1) → cs.foldl (fun (found : Option (List Nat × Rat)) c =>
      match slack driver lib nodes c with
      | none => found
      | some q => if q < (t : Rat) / (v : Rat) then found else match found with
        | none => some (c, q)
        | some z => if costOf lib c < costOf lib z.1 then some (c, q) else found) (f.map told) = (((cs.map fun c => (costOf lib c, (slackI driver lib nodes c).getD 0, c)).filter fun o : Off => decide (2 * t ≤ o.2.1 * (v : Int))).foldl (fun f o => match f with
          | none => some o
          | some z => if o.1 < z.1 then some o else some z) f).map told := by
    intro cs
    induction cs with
    | nil => intro f _; rfl
    | cons c r ih =>
      intro f hf
      rw [List.foldl_cons, List.map_cons, List.filter_cons, slack_off T h hs]
      dsimp only
      by_cases q : (((slackI driver lib nodes c).getD 0 : Int) : Rat) / 2 < (t : Rat) / (v : Rat)
      · have q' := (quot_lt hv).mp q
        rw [if_pos q, if_neg (by simp; omega)]
        exact ih f hf
      · have q' : ¬ _ := fun z => q ((quot_lt hv).mpr z)
        rw [if_neg q, if_pos (by simp; omega), List.foldl_cons, ← ih]
        · congr 1
          cases f with
          | none => rfl
          | some z =>
            simp only [Option.map_some, told, hf z rfl]
            split <;> rfl
        · intro z hz
          cases f with
          | none => have e := Option.some.inj hz; subst e; rfl
          | some y =>
            dsimp only at hz
            split at hz
            · have e := Option.some.inj hz; subst e; rfl
            · have e := Option.some.inj hz; subst e; exact hf _ rfl
  exact this _ none (fun _ z => nomatch z)
end
end LC

namespace LC
open Kpd9
theorem fm_congr {α β : Type} {f g : α → Option β} : ∀ {l : List α}, (∀ x ∈ l, f x = g x) → l.filterMap f = l.filterMap g
  | [], _ => rfl
  | x :: r, h => by
    rw [List.filterMap_cons, List.filterMap_cons, h x (by simp), fm_congr fun y hy => h y (by simp [hy])]
theorem areChoices_eq (lib : List Buffer) (nodes : List Node) (nums : List Nat) : areChoices lib nodes nums = if nums.length = nodes.length then ((List.range nodes.length).map fun i => decide ((nums.getD i 0 : Int) ≤ (lib.length : Int) * (if (nodes.getD i node0).isAllowed = true then 1 else 0))).all id else false := by
  unfold areChoices
  by_cases h : nums.length = nodes.length
  · rw [if_pos h, beq_iff_eq.mpr h, Bool.true_and, List.all_map, Bool.eq_iff_iff, List.all_eq_true, List.all_eq_true]
    refine forall_congr' fun i => ?_
    refine ⟨fun q hi => ?_, fun q hi => ?_⟩
    · have q := q hi
      have hi := List.mem_range.mp hi
      have en : nodes[i]? = some (nodes.getD i node0) := by simp [List.getD_eq_getElem?_getD, hi]
      simp only [Function.comp, id, decide_eq_true_eq]
      generalize nodes.getD i node0 = n at en ⊢
      rw [en] at q
      simp only [Bool.or_eq_true, beq_iff_eq, Bool.and_eq_true, decide_eq_true_eq, Option.map_some, Option.some.injEq] at q
      rcases q with q | ⟨q1, q2⟩
      · rw [q]; split <;> omega
      · rw [if_pos q2]; omega
    · have q := q hi
      have hi := List.mem_range.mp hi
      have en : nodes[i]? = some (nodes.getD i node0) := by simp [List.getD_eq_getElem?_getD, hi]
      simp only [Function.comp, id, decide_eq_true_eq] at q
      generalize nodes.getD i node0 = n at en q ⊢
      rw [en]
      simp only [Bool.or_eq_true, beq_iff_eq, Bool.and_eq_true, decide_eq_true_eq, Option.map_some, Option.some.injEq]
      by_cases a : n.isAllowed = true
      · rw [if_pos a] at q
        exact .inr ⟨by omega, a⟩
      · rw [if_neg a] at q
        exact .inl (by omega)
  · rw [if_neg h]
    have : (nums.length == nodes.length) = false := by simp [h]
    rw [this, Bool.false_and]
theorem sum_foldl : ∀ (l : List Nat) (a : Nat), l.foldl (· + ·) a = a + l.sum
  | [], a => by simp
  | x :: r, a => by rw [List.foldl_cons, sum_foldl r, List.sum_cons]; omega
theorem ksum (l : List Nat) : Kpd9.sum l = l.sum := by
  unfold Kpd9.sum
  rw [sum_foldl]
  omega
theorem cast_sum : ∀ l : List Nat, (l.map fun (n : Nat) => (n : Int)).sum = (l.sum : Int)
  | [] => rfl
  | x :: r => by rw [List.map_cons, List.sum_cons, List.sum_cons, cast_sum r]; omega
theorem cost_eq (lib : List Buffer) : ∀ ch : List Nat, ((ch.filter fun c => decide (0 < c)).map fun c => (((lib[c - 1]?.map Buffer.cost).getD 0 : Nat) : Int)).sum = (costOf lib ch : Int)
  | [] => rfl
  | c :: r => by
    have ih := cost_eq lib r
    unfold costOf at ih ⊢
    rw [ksum] at ih ⊢
    rw [List.map_cons, List.sum_cons, List.filter_cons]
    by_cases h : c = 0
    · rw [if_neg (by simp [h]), if_pos h, ih]
      omega
    · rw [if_pos (by simp; omega), if_neg h, List.map_cons, List.sum_cons, ih]
      omega

/-! ### the critical sink -/
def later1 (v u : Nat) (m : Node) : Node := if u = v then m else { m with sink := m.sink.map fun s => (s.1, s.2 + 1000000000) }
def laterM (nodes : List Node) (v : Nat) : List Node := (List.range nodes.length).map fun u => later1 v u (nodes.getD u node0)
theorem later_eq (nodes : List Node) (v : Nat) : ((List.range nodes.length).filterMap fun u => nodes[u]?.map fun m => if u = v then m else { m with sink := m.sink.map fun s => (s.1, s.2 + 1000000000) }) = laterM nodes v := by
  unfold laterM
  rw [← List.filterMap_eq_map]
  refine fm_congr fun u hu => ?_
  have hu := List.mem_range.mp hu
  simp [List.getD_eq_getElem?_getD, hu, later1]
theorem later_len (nodes : List Node) (v : Nat) : (laterM nodes v).length = nodes.length := by simp [laterM]
theorem later_get {nodes : List Node} {v u : Nat} {n : Node} (h : nodes[u]? = some n) : (laterM nodes v)[u]? = some (later1 v u n) := by
  obtain ⟨hu, e⟩ := List.getElem?_eq_some_iff.mp h
  simp [laterM, hu, List.getD_eq_getElem?_getD, e]
theorem later_got {nodes : List Node} {v u : Nat} {n : Node} (h : (laterM nodes v)[u]? = some n) : ∃ m, nodes[u]? = some m ∧ n = later1 v u m := by
  have hu := (List.getElem?_eq_some_iff.mp h).1
  rw [later_len] at hu
  have e : nodes[u]? = some nodes[u] := by simp [hu]
  rw [later_get e] at h
  exact ⟨_, e, (Option.some.inj h).symm⟩
theorem later1_parts (v u : Nat) (m : Node) : (later1 v u m).parent = m.parent ∧ (later1 v u m).resistance = m.resistance ∧ (later1 v u m).capacitance = m.capacitance ∧ (later1 v u m).isAllowed = m.isAllowed ∧ (later1 v u m).sink.isSome = m.sink.isSome := by
  unfold later1
  split <;> simp
theorem later_tree {nodes : List Node} (T : Tree nodes) (v : Nat) : Tree (laterM nodes v) := fun u m h h1 => by
  obtain ⟨n, hn, rfl⟩ := later_got h
  rw [(later1_parts v u n).1]
  exact T u n hn h1
theorem later_tok {nodes : List Node} {lib : List Buffer} (T : TOk nodes lib) (v : Nat) : TOk (laterM nodes v) lib :=
  ⟨by rw [later_len]; exact T.n0, by rw [later_len]; exact T.n1, later_tree T.tree v, fun n hn => by
    obtain ⟨u, hu, e⟩ := List.getElem_of_mem hn
    obtain ⟨m, hm, rfl⟩ := later_got (v := v) (u := u) (n := n) (by rw [List.getElem?_eq_getElem hu, e])
    rw [(later1_parts v u m).2.1]
    exact T.nr m (List.mem_of_getElem? hm), T.br⟩
theorem later_sinks {nodes : List Node} (v : Nat) (h : sinks nodes = true) : sinks (laterM nodes v) = true := by
  unfold sinks at h ⊢
  obtain ⟨n, hn, hs⟩ := List.any_eq_true.mp h
  obtain ⟨u, hu, e⟩ := List.getElem_of_mem hn
  have e2 := later_get (v := v) (nodes := nodes) (u := u) (n := n) (by rw [List.getElem?_eq_getElem hu, e])
  exact List.any_eq_true.mpr ⟨_, List.mem_of_getElem? e2, by rw [(later1_parts v u n).2.2.2.2]; exact hs⟩
def critM (driver : Nat) (lib : List Buffer) (nodes : List Node) (ch : List Nat) : Option Nat := (List.range nodes.length).find? fun v => (nodes.getD v node0).sink.isSome && decide (slackI driver lib (laterM nodes v) ch = slackI driver lib nodes ch)
theorem find_congr {p q : Nat → Bool} : ∀ (l : List Nat), (∀ v ∈ l, p v = q v) → l.find? p = l.find? q
  | [], _ => rfl
  | x :: r, h => by
    rw [List.find?_cons, List.find?_cons, h x (by simp), find_congr r fun v hv => h v (by simp [hv])]
theorem crit_eq {driver : Nat} {lib : List Buffer} {nodes : List Node} {ch : List Nat} (T : Tree nodes) (h : 0 < nodes.length) : criticalSink driver lib nodes ch = critM driver lib nodes ch := by
  unfold criticalSink critM
  refine find_congr _ fun v hv => ?_
  have hv := List.mem_range.mp hv
  have e : nodes[v]? = some (nodes.getD v node0) := by simp [List.getD_eq_getElem?_getD, hv]
  rw [e]
  dsimp only
  congr 1
  have := later_eq nodes v
  rw [this, slack_eq T h, slack_eq (later_tree T v) (by rw [later_len]; exact h)]
  have key : ∀ a b : Option Int, (a.map (fun (z : Int) => (z : Rat) / 2) = b.map fun (z : Int) => (z : Rat) / 2) ↔ a = b := fun a b => by
    cases a <;> cases b <;> simp [half_eq]
  exact decide_eq_decide.mpr (key _ _)

/-! ### the frontier -/
def maxI (l : List Int) : Int := l.foldl (fun a b => if a < b then b else a) (l.headD 0)
theorem foldmax : ∀ (l : List Int) (a : Int), (l.foldl (fun a b => if a < b then b else a) a ∈ a :: l) ∧ ∀ y ∈ a :: l, y ≤ l.foldl (fun a b => if a < b then b else a) a
  | [], a => by simp
  | x :: r, a => by
    rw [List.foldl_cons]
    obtain ⟨h1, h2⟩ := foldmax r (if a < x then x else a)
    generalize r.foldl (fun a b => if a < b then b else a) (if a < x then x else a) = m at h1 h2
    have h0 := h2 _ List.mem_cons_self
    refine ⟨?_, fun y hy => ?_⟩
    · rcases List.mem_cons.mp h1 with h | h
      · split at h <;> simp [h]
      · simp [h]
    · rcases List.mem_cons.mp hy with rfl | hy
      · split at h0 <;> omega
      · rcases List.mem_cons.mp hy with rfl | hy
        · split at h0 <;> omega
        · exact h2 y (List.mem_cons_of_mem _ hy)
theorem maxI_spec {l : List Int} (h : l ≠ []) : maxI l ∈ l ∧ ∀ y ∈ l, y ≤ maxI l := by
  cases l with
  | nil => exact absurd rfl h
  | cons x r =>
    unfold maxI
    rw [List.headD_cons, List.foldl_cons, if_neg (Int.lt_irrefl x)]
    exact foldmax r x
theorem max_unique {l : List Int} {m : Int} (h1 : m ∈ l) (h2 : ∀ y ∈ l, y ≤ m) : maxI l = m := by
  obtain ⟨a, b⟩ := maxI_spec (l := l) (fun z => by rw [z] at h1; cases h1)
  have := h2 _ a
  have := b _ h1
  omega
theorem max_half : ∀ (l : List Int) (a : Int), (l.map fun (z : Int) => (z : Rat) / 2).foldl (fun a b => if a < b then b else a) ((a : Rat) / 2) = ((l.foldl (fun a b => if a < b then b else a) a : Int) : Rat) / 2
  | [], _ => rfl
  | x :: r, a => by
    rw [List.map_cons, List.foldl_cons, List.foldl_cons, ← max_half r]
    congr 1
    by_cases h : a < x
    · rw [if_pos h, if_pos (half_lt.mpr h)]
    · rw [if_neg h, if_neg (fun z => h (half_lt.mp z))]
theorem maxI_half (l : List Int) : (l.map fun (z : Int) => (z : Rat) / 2).foldl (fun a b => if a < b then b else a) ((l.map fun (z : Int) => (z : Rat) / 2).headD 0) = (maxI l : Rat) / 2 := by
  cases l with
  | nil =>
    simp only [maxI, List.map_nil, List.foldl_nil, List.headD_nil]
    grind
  | cons x r => exact max_half (x :: r) x
/-- the greatest slack of those with just this cost -/
def slackAt (os : List Off) (k : Nat) : Int := maxI ((os.filter fun o => decide (o.1 = k)).map fun o => o.2.1)
def frontM (S : Nat → Int) (ks : List Nat) : List (Nat × Int) := ks.foldl (fun found k => match found.getLast? with
  | none => [(k, S k)]
  | some z => if z.2 < S k then found ++ [(k, S k)] else found) []
def halfP (p : Nat × Int) : Nat × Rat := (p.1, (p.2 : Rat) / 2)
theorem slackAt_spec {os : List Off} {k : Nat} (h : ∃ o ∈ os, o.1 = k) : (∃ o ∈ os, o.1 = k ∧ o.2.1 = slackAt os k) ∧ ∀ o ∈ os, o.1 = k → o.2.1 ≤ slackAt os k := by
  obtain ⟨o, ho, e⟩ := h
  have hm : ∀ y, y ∈ (os.filter fun o => decide (o.1 = k)).map (fun o => o.2.1) ↔ ∃ o ∈ os, o.1 = k ∧ o.2.1 = y := fun y => by
    simp only [List.mem_map, List.mem_filter, decide_eq_true_eq]
    exact ⟨fun ⟨o, ⟨a, b⟩, c⟩ => ⟨o, a, b, c⟩, fun ⟨o, a, b, c⟩ => ⟨o, ⟨a, b⟩, c⟩⟩
  obtain ⟨a, b⟩ := maxI_spec (l := (os.filter fun o => decide (o.1 = k)).map fun o => o.2.1) (fun z => by
    have := (hm o.2.1).mpr ⟨o, ho, e, rfl⟩
    rw [z] at this; cases this)
  exact ⟨(hm _).mp a, fun o ho e => b _ ((hm _).mpr ⟨o, ho, e, rfl⟩)⟩
theorem front_fold (os : List Off) : ∀ (R P : List Nat) (acc : List (Nat × Int)), (∀ o ∈ os, o.1 ∈ P ++ R) → (∀ k ∈ P ++ R, ∃ o ∈ os, o.1 = k) → (P ++ R).Pairwise (· < ·) →
    ((P = [] ∧ acc = []) ∨ ∃ z, acc.getLast? = some z ∧ (∀ o ∈ os, o.1 ∈ P → o.2.1 ≤ z.2) ∧ ∃ o ∈ os, o.1 ∈ P ∧ o.2.1 = z.2) →
    R.foldl (fun (l : List (Nat × Rat)) k =>
      let values := ((os.map fun o => (o.1, (o.2.1 : Rat) / 2)).filter fun z => decide (z.1 ≤ k)).map Prod.snd
      let q := values.foldl (fun a b => if a < b then b else a) (values.headD 0)
      match l.getLast? with
      | none => [(k, q)]
      | some z => if z.2 < q then l ++ [(k, q)] else l) (acc.map halfP) = (R.foldl (fun found k => match found.getLast? with
        | none => [(k, slackAt os k)]
        | some z => if z.2 < slackAt os k then found ++ [(k, slackAt os k)] else found) acc).map halfP
  | [], P, acc, _, _, _, _ => rfl
  | k :: R, P, acc, ha, hk, hs, hI => by
    rw [List.foldl_cons, List.foldl_cons]
    have eP : P ++ k :: R = (P ++ [k]) ++ R := by simp
    obtain ⟨⟨ok, hok, eok, sok⟩, leK⟩ := slackAt_spec (hk k (by simp))
    -- the costs at most k are those of P and k
    have hle : ∀ o ∈ os, o.1 ≤ k ↔ (o.1 ∈ P ∨ o.1 = k) := fun o ho => by
      have hm := ha o ho
      have hs' := List.pairwise_append.mp hs
      have hs2 := List.pairwise_cons.mp hs'.2.1
      rcases List.mem_append.mp hm with h | h
      · have := hs'.2.2 _ h k (by simp)
        exact ⟨fun _ => .inl h, fun _ => by omega⟩
      · rcases List.mem_cons.mp h with h | h
        · exact ⟨fun _ => .inr h, fun _ => by omega⟩
        · have := hs2.1 _ h
          refine ⟨fun z => by omega, fun z => ?_⟩
          rcases z with z | z
          · have := hs'.2.2 _ z _ (List.mem_cons_of_mem _ h)
            omega
          · omega
    have ev : (((os.map fun o => (o.1, (o.2.1 : Rat) / 2)).filter fun z => decide (z.1 ≤ k)).map Prod.snd) = ((os.filter fun o => decide (o.1 ≤ k)).map fun o => o.2.1).map fun (z : Int) => (z : Rat) / 2 := by
      rw [List.filter_map, List.map_map, List.map_map]
      rfl
    have hmem : ∀ y, y ∈ ((os.filter fun o => decide (o.1 ≤ k)).map fun o => o.2.1) ↔ ∃ o ∈ os, (o.1 ∈ P ∨ o.1 = k) ∧ o.2.1 = y := fun y => by
      simp only [List.mem_map, List.mem_filter, decide_eq_true_eq]
      exact ⟨fun ⟨o, ⟨a, b⟩, c⟩ => ⟨o, a, (hle o a).mp b, c⟩, fun ⟨o, a, b, c⟩ => ⟨o, ⟨a, (hle o a).mpr b⟩, c⟩⟩
    dsimp only
    rw [ev, maxI_half]
    rw [← front_fold os R (P ++ [k])]
    · congr 1
      rcases hI with ⟨rfl, rfl⟩ | ⟨z, hz, h1, h2⟩
      · have em : maxI ((os.filter fun o => decide (o.1 ≤ k)).map fun o => o.2.1) = slackAt os k := max_unique ((hmem _).mpr ⟨ok, hok, .inr eok, sok⟩) fun y hy => by
          obtain ⟨o, ho, hc, rfl⟩ := (hmem _).mp hy
          rcases hc with hc | hc
          · cases hc
          · exact leK o ho hc
        rw [em]
        rfl
      · have hz' : (acc.map halfP).getLast? = some (halfP z) := by rw [List.getLast?_map, hz]; rfl
        rw [hz, hz']
        dsimp only
        by_cases c : z.2 < slackAt os k
        · have em : maxI ((os.filter fun o => decide (o.1 ≤ k)).map fun o => o.2.1) = slackAt os k := max_unique ((hmem _).mpr ⟨ok, hok, .inr eok, sok⟩) fun y hy => by
            obtain ⟨o, ho, hc, rfl⟩ := (hmem _).mp hy
            rcases hc with hc | hc
            · have := h1 o ho hc; omega
            · exact leK o ho hc
          rw [em, if_pos c, if_pos (show (halfP z).2 < _ from half_lt.mpr c), List.map_append]
          rfl
        · obtain ⟨o2, ho2, hp2, e2⟩ := h2
          have em : maxI ((os.filter fun o => decide (o.1 ≤ k)).map fun o => o.2.1) = z.2 := max_unique ((hmem _).mpr ⟨o2, ho2, .inl hp2, e2⟩) fun y hy => by
            obtain ⟨o, ho, hc, rfl⟩ := (hmem _).mp hy
            rcases hc with hc | hc
            · exact h1 o ho hc
            · have := leK o ho hc; omega
          rw [em, if_neg c, if_neg (show ¬ (halfP z).2 < _ from fun q => Int.lt_irrefl _ (half_lt.mp q))]
    · rw [← eP]; exact ha
    · rw [← eP]; exact hk
    · rw [← eP]; exact hs
    · right
      rcases hI with ⟨rfl, rfl⟩ | ⟨z, hz, h1, h2⟩
      · exact ⟨_, rfl, fun o ho hc => leK o ho (by simpa using hc), ok, hok, by simp [eok], sok⟩
      · rw [hz]
        dsimp only
        by_cases c : z.2 < slackAt os k
        · rw [if_pos c]
          refine ⟨(k, slackAt os k), by simp, fun o ho hc => ?_, ok, hok, by simp [eok], sok⟩
          rcases List.mem_append.mp hc with hc | hc
          · have := h1 o ho hc; dsimp only; omega
          · exact leK o ho (by simpa using hc)
        · rw [if_neg c]
          obtain ⟨o2, ho2, hp2, e2⟩ := h2
          refine ⟨z, hz, fun o ho hc => ?_, o2, ho2, by simp [hp2], e2⟩
          rcases List.mem_append.mp hc with hc | hc
          · exact h1 o ho hc
          · have := leK o ho (by simpa using hc); omega
theorem insc_mem (a : Nat) : ∀ (l : List Nat) (x : Nat), x ∈ insertedCost a l ↔ x = a ∨ x ∈ l
  | [], x => by simp [insertedCost]
  | b :: l, x => by
    unfold insertedCost
    split
    · rename_i h; subst h; simp
    · split
      · simp
      · simp only [List.mem_cons, insc_mem a l]
        constructor
        · rintro (h | h | h) <;> simp [h]
        · rintro (h | h | h) <;> simp [h]
theorem insc_sorted (a : Nat) : ∀ (l : List Nat), l.Pairwise (· < ·) → (insertedCost a l).Pairwise (· < ·)
  | [], _ => by simp [insertedCost]
  | b :: l, h => by
    unfold insertedCost
    obtain ⟨h1, h2⟩ := List.pairwise_cons.mp h
    split
    · exact h
    · split
      · rename_i c
        refine List.pairwise_cons.mpr ⟨fun x hx => ?_, h⟩
        rcases List.mem_cons.mp hx with rfl | hx
        · exact c
        · have := h1 x hx; omega
      · refine List.pairwise_cons.mpr ⟨fun x hx => ?_, insc_sorted a l h2⟩
        rcases (insc_mem a l x).mp hx with rfl | hx
        · omega
        · exact h1 x hx
theorem sorted_same : ∀ {a b : List Nat}, a.Pairwise (· < ·) → b.Pairwise (· < ·) → (∀ x, x ∈ a ↔ x ∈ b) → a = b
  | [], [], _, _, _ => rfl
  | [], y :: b, _, _, h => by have := (h y).mpr (by simp); cases this
  | x :: a, [], _, _, h => by have := (h x).mp (by simp); cases this
  | x :: a, y :: b, ha, hb, h => by
    obtain ⟨a1, a2⟩ := List.pairwise_cons.mp ha
    obtain ⟨b1, b2⟩ := List.pairwise_cons.mp hb
    have e : x = y := by
      rcases List.mem_cons.mp ((h x).mp (by simp)) with e | e
      · exact e
      · rcases List.mem_cons.mp ((h y).mpr (by simp)) with e2 | e2
        · exact e2.symm
        · have := b1 x e; have := a1 y e2; omega
    subst e
    rw [sorted_same a2 b2 fun z => ?_]
    constructor
    · intro hz
      rcases List.mem_cons.mp ((h z).mp (by simp [hz])) with e | e
      · subst e; have := a1 z hz; omega
      · exact e
    · intro hz
      rcases List.mem_cons.mp ((h z).mpr (by simp [hz])) with e | e
      · subst e; have := b1 z hz; omega
      · exact e
def costsM (os : List Off) : List Nat := (os.map fun o => o.1).foldl (fun l a => insertedCost a l) []
theorem costs_fold : ∀ (cs l : List Nat), l.Pairwise (· < ·) → (cs.foldl (fun l a => insertedCost a l) l).Pairwise (· < ·) ∧ ∀ x, x ∈ cs.foldl (fun l a => insertedCost a l) l ↔ x ∈ cs ∨ x ∈ l
  | [], l, h => ⟨h, fun x => by simp⟩
  | c :: cs, l, h => by
    rw [List.foldl_cons]
    obtain ⟨h1, h2⟩ := costs_fold cs _ (insc_sorted c l h)
    refine ⟨h1, fun x => ?_⟩
    rw [h2, insc_mem]
    simp only [List.mem_cons]
    constructor
    · rintro (h | h | h) <;> simp [h]
    · rintro ((h | h) | h) <;> simp [h]
theorem costs_sorted (os : List Off) : (costsM os).Pairwise (· < ·) := (costs_fold _ [] List.Pairwise.nil).1
theorem costs_mem (os : List Off) (x : Nat) : x ∈ costsM os ↔ ∃ o ∈ os, o.1 = x := by
  unfold costsM
  rw [(costs_fold _ [] List.Pairwise.nil).2]
  simp
theorem frontier_eq {driver : Nat} {lib : List Buffer} {nodes : List Node} (T : Tree nodes) (h : 0 < nodes.length) (hs : sinks nodes = true) :
    Kpd9.frontier driver lib nodes = (frontM (slackAt (offersM driver lib nodes)) (costsM (offersM driver lib nodes))).map halfP := by
  unfold Kpd9.frontier
  have e : ((allChoices lib.length nodes).filterMap fun c => (slack driver lib nodes c).map fun q => (costOf lib c, q)) = (offersM driver lib nodes).map fun o => (o.1, (o.2.1 : Rat) / 2) := by
    unfold offersM
    rw [List.map_map, ← List.filterMap_eq_map]
    refine fm_congr fun c _ => ?_
    rw [slack_off T h hs]
    rfl
  rw [e]
  dsimp only
  have e2 : (((offersM driver lib nodes).map fun o => (o.1, (o.2.1 : Rat) / 2)).map Prod.fst) = (offersM driver lib nodes).map fun o => o.1 := by rw [List.map_map]; rfl
  rw [e2]
  exact front_fold _ (costsM (offersM driver lib nodes)) [] [] (fun o ho => (costs_mem _ _).mpr ⟨o, ho, rfl⟩) (fun k hk => (costs_mem _ _).mp hk) (costs_sorted _) (.inl ⟨rfl, rfl⟩)
theorem frontier_none {driver : Nat} {lib : List Buffer} {nodes : List Node} (T : Tree nodes) (h : 0 < nodes.length) (hs : sinks nodes = false) : Kpd9.frontier driver lib nodes = [] := by
  unfold Kpd9.frontier
  have e : ((allChoices lib.length nodes).filterMap fun c => (slack driver lib nodes c).map fun q => (costOf lib c, q)) = [] := by
    refine List.filterMap_eq_nil_iff.mpr fun c _ => ?_
    rw [slack_eq T h, slackI_none T h hs]
    rfl
  rw [e]
  rfl
end LC

namespace LC
open Kpd9
/-! ### how many costs there are -/
theorem nodup_len {α : Type} [DecidableEq α] : ∀ {l m : List α}, l.Nodup → (∀ x ∈ l, x ∈ m) → l.length ≤ m.length
  | [], _, _, _ => Nat.zero_le _
  | x :: r, m, h, s => by
    obtain ⟨h1, h2⟩ := List.nodup_cons.mp h
    have hx := s x (by simp)
    have := nodup_len (m := m.erase x) h2 fun y hy => (List.mem_erase_of_ne (fun (e : y = x) => h1 (e ▸ hy))).mpr (s y (by simp [hy]))
    rw [List.length_erase_of_mem hx] at this
    have hp : 0 < m.length := List.length_pos_of_mem hx
    simp only [List.length_cons]
    omega
def tripM (c0 c1 c2 : Nat) : List Nat := (List.range 6).flatMap fun a => (List.range (6 - a)).flatMap fun b => (List.range (6 - a - b)).map fun e => a * c0 + b * c1 + e * c2
theorem trip_len (c0 c1 c2 : Nat) : (tripM c0 c1 c2).length = 56 := by rfl
theorem trip_mem {c0 c1 c2 a b e : Nat} (h : a + b + e ≤ 5) : a * c0 + b * c1 + e * c2 ∈ tripM c0 c1 c2 := by
  simp only [tripM, List.mem_flatMap, List.mem_map, List.mem_range]
  exact ⟨a, by omega, b, by omega, e, by omega, rfl⟩
theorem cost_cons (lib : List Buffer) (x : Nat) (r : List Nat) : costOf lib (x :: r) = (if x = 0 then 0 else (lib[x - 1]?.map Buffer.cost).getD 0) + costOf lib r := by
  unfold costOf
  rw [ksum, ksum, List.map_cons, List.sum_cons]
theorem cost_trip {lib : List Buffer} (hl : lib.length ≤ 3) : ∀ (nodes : List Node) (c : List Nat), c ∈ allChoices lib.length nodes → ∃ a b e, a + b + e ≤ (nodes.filter Node.isAllowed).length ∧
    costOf lib c = a * (lib[0]?.map Buffer.cost).getD 0 + b * (lib[1]?.map Buffer.cost).getD 0 + e * (lib[2]?.map Buffer.cost).getD 0
  | [], c, h => by
    have : c = [] := by simpa [allChoices] using h
    subst this
    exact ⟨0, 0, 0, by simp, by simp [costOf, Kpd9.sum]⟩
  | n :: l, c, h => by
    simp only [allChoices, List.mem_flatMap, List.mem_map] at h
    obtain ⟨x, hx, r, hr, rfl⟩ := h
    obtain ⟨a, b, e, h1, h2⟩ := cost_trip hl l r hr
    rw [cost_cons, h2]
    by_cases ha : n.isAllowed = true
    · simp only [ha, if_true, List.mem_range] at hx
      rw [List.filter_cons_of_pos ha, List.length_cons]
      have hx' : x = 0 ∨ x = 1 ∨ x = 2 ∨ x = 3 := by omega
      rcases hx' with rfl | rfl | rfl | rfl
      · exact ⟨a, b, e, by omega, by simp⟩
      · exact ⟨a + 1, b, e, by omega, by simp [Nat.add_mul]; omega⟩
      · exact ⟨a, b + 1, e, by omega, by simp [Nat.add_mul]; omega⟩
      · exact ⟨a, b, e + 1, by omega, by simp [Nat.add_mul]; omega⟩
    · have : x = 0 := by simpa [ha] using hx
      subst this
      rw [List.filter_cons_of_neg ha]
      exact ⟨a, b, e, h1, by simp⟩
theorem costs_le {driver : Nat} {lib : List Buffer} {nodes : List Node} (hl : lib.length ≤ 3) (hp : (nodes.filter Node.isAllowed).length ≤ 5) {ks : List Nat} (hn : ks.Nodup) (hk : ∀ k ∈ ks, ∃ o ∈ offersM driver lib nodes, o.1 = k) : ks.length ≤ 56 := by
  rw [← trip_len ((lib[0]?.map Buffer.cost).getD 0) ((lib[1]?.map Buffer.cost).getD 0) ((lib[2]?.map Buffer.cost).getD 0)]
  refine nodup_len hn fun k h => ?_
  obtain ⟨o, ho, rfl⟩ := hk k h
  obtain ⟨c, hc, rfl⟩ := List.mem_map.mp ho
  obtain ⟨a, b, e, h1, h2⟩ := cost_trip hl nodes c hc
  rw [show (costOf lib c, (slackI driver lib nodes c).getD 0, c).1 = costOf lib c from rfl, h2]
  exact trip_mem (by omega)
theorem slackAt_new {os : List Off} {o : Off} (h : ¬ ∃ p ∈ os, p.1 = o.1) : slackAt (os ++ [o]) o.1 = o.2.1 := by
  refine max_unique ?_ ?_
  · simp
  · intro y hy
    simp only [List.filter_append, List.map_append, List.mem_append, List.mem_map, List.mem_filter, decide_eq_true_eq] at hy
    rcases hy with ⟨p, ⟨hp, e⟩, _⟩ | ⟨p, ⟨hp, e⟩, rfl⟩
    · exact absurd ⟨p, hp, e⟩ h
    · have : p = o := by simpa using hp
      subst this
      exact Int.le_refl _
theorem slackAt_old {os : List Off} {o : Off} (h : ∃ p ∈ os, p.1 = o.1) : slackAt (os ++ [o]) o.1 = if slackAt os o.1 > o.2.1 then slackAt os o.1 else o.2.1 := by
  obtain ⟨⟨p, hp, ep, sp⟩, hl⟩ := slackAt_spec h
  refine max_unique ?_ ?_
  · split
    · simp only [List.filter_append, List.map_append, List.mem_append, List.mem_map, List.mem_filter, decide_eq_true_eq]
      exact .inl ⟨p, ⟨hp, ep⟩, sp⟩
    · simp
  · intro y hy
    simp only [List.filter_append, List.map_append, List.mem_append, List.mem_map, List.mem_filter, decide_eq_true_eq] at hy
    rcases hy with ⟨q, ⟨hq, e⟩, rfl⟩ | ⟨q, ⟨hq, e⟩, rfl⟩
    · have := hl q hq e
      split <;> omega
    · have : q = o := by simpa using hq
      subst this
      split <;> omega
theorem slackAt_other {os : List Off} {o : Off} {k : Nat} (h : o.1 ≠ k) : slackAt (os ++ [o]) k = slackAt os k := by
  unfold slackAt
  rw [List.filter_append]
  have : [o].filter (fun o => decide (o.1 = k)) = [] := by simp [h]
  rw [this, List.append_nil]
end LC

namespace LC
open Kpd9
/-! ### sets of numbers -/
theorem mem_members {n s i : Nat} : i ∈ membersOf n s ↔ i < n ∧ s.testBit i = true := by
  unfold membersOf
  rw [List.mem_filter, List.mem_range]
theorem members_succ (n s : Nat) : membersOf (n + 1) s = membersOf n s ++ if s.testBit n = true then [n] else [] := by
  unfold membersOf
  rw [List.range_succ, List.filter_append]
  congr 1
  by_cases h : s.testBit n = true
  · simp [h]
  · simp [h]
theorem ksum_app (a b : List Nat) : Kpd9.sum (a ++ b) = Kpd9.sum a + Kpd9.sum b := by simp only [ksum, List.sum_append]
theorem union_from : ∀ (l : List Nat) (a j : Nat), (l.foldl (· ||| ·) a).testBit j = (a.testBit j || l.any fun x => x.testBit j)
  | [], a, j => by simp
  | x :: l, a, j => by rw [List.foldl_cons, union_from l, Nat.testBit_or, List.any_cons, Bool.or_assoc]
theorem union_bit (l : List Nat) (j : Nat) : (union l).testBit j = l.any fun x => x.testBit j := by
  unfold union
  rw [union_from, Nat.zero_testBit, Bool.false_or]
theorem union_snoc (l : List Nat) (x : Nat) : union (l ++ [x]) = union l ||| x := by
  unfold union
  rw [List.foldl_append]
  rfl
def repAt (cs : List Change) (i : Nat) : Nat := (cs[i]?.map Change.repairs).getD 0
def costAt (cs : List Change) (i : Nat) : Nat := (cs[i]?.map Change.cost).getD 0
def repM (cs : List Change) (n s : Nat) : Nat := union ((membersOf n s).map (repAt cs))
theorem rep_eq (r : Repairs) (s : Nat) : repairedBy r s = repM r.changes r.changes.length s := rfl
theorem rep_succ (cs : List Change) (n s : Nat) : repM cs (n + 1) s = if s.testBit n = true then repM cs n s ||| repAt cs n else repM cs n s := by
  unfold repM
  rw [members_succ]
  by_cases h : s.testBit n = true
  · rw [if_pos h, if_pos h, List.map_append]
    exact union_snoc _ _
  · rw [if_neg h, if_neg h, List.append_nil]
/-! ### the cheapest repairs -/
def cheapR (r : Repairs) (l : List Nat) : Option Nat × List Nat := l.foldl (fun f s => if isRepair r s = true then
  (match f.1 with
    | none => (some (repairCost r s), [s])
    | some c => if repairCost r s < c then (some (repairCost r s), [s]) else if repairCost r s = c then (some c, f.2 ++ [s]) else f) else f) (none, [])
theorem cheapR_snoc (r : Repairs) (l : List Nat) (s : Nat) : cheapR r (l ++ [s]) = if isRepair r s = true then
  (match (cheapR r l).1 with
    | none => (some (repairCost r s), [s])
    | some c => if repairCost r s < c then (some (repairCost r s), [s]) else if repairCost r s = c then (some c, (cheapR r l).2 ++ [s]) else cheapR r l) else cheapR r l := by
  unfold cheapR
  rw [List.foldl_append]
  rfl
def specR (r : Repairs) (l : List Nat) : Option Nat := l.foldl (fun (found : Option Nat) set =>
  if isRepair r set then match found with
    | none => some set
    | some z => if repairCost r set < repairCost r z then some set else found
  else found) none
theorem specR_snoc (r : Repairs) (l : List Nat) (s : Nat) : specR r (l ++ [s]) = if isRepair r s then (match specR r l with
    | none => some s
    | some z => if repairCost r s < repairCost r z then some s else specR r l) else specR r l := by
  unfold specR
  rw [List.foldl_append]
  rfl
structure ChR (r : Repairs) (l : List Nat) : Prop where
  none : (cheapR r l).1 = none → (cheapR r l).2 = [] ∧ specR r l = none ∧ ∀ s ∈ l, isRepair r s = false
  some : ∀ c, (cheapR r l).1 = some c → (∃ z, specR r l = some z ∧ (cheapR r l).2.head? = some z ∧ repairCost r z = c ∧ z ∈ l ∧ isRepair r z = true) ∧ (cheapR r l).2 = l.filter (fun s => isRepair r s && (repairCost r s == c)) ∧ ∀ s ∈ l, isRepair r s = true → c ≤ repairCost r s
theorem cheapR_ok (r : Repairs) : ∀ l, ChR r l := by
  refine snoc_ind ⟨fun _ => ⟨rfl, rfl, fun s h => by cases h⟩, fun c h => by cases h⟩ fun l x I => ?_
  have e1 := cheapR_snoc r l x
  have e2 := specR_snoc r l x
  by_cases hx : isRepair r x = true
  · rw [if_pos hx] at e1 e2
    cases hc : (cheapR r l).1 with
    | none =>
      obtain ⟨h1, h2, h3⟩ := I.none hc
      rw [hc] at e1
      rw [h2] at e2
      dsimp only at e1 e2
      refine ⟨fun h => (by rw [e1] at h; cases h), fun c h => ?_⟩
      rw [e1] at h ⊢
      cases h
      refine ⟨⟨x, e2, rfl, rfl, by simp, hx⟩, ?_, fun s hs hr => ?_⟩
      · rw [List.filter_append]
        have : l.filter (fun s => isRepair r s && (repairCost r s == repairCost r x)) = [] := List.filter_eq_nil_iff.mpr fun s hs => by rw [h3 s hs]; simp
        rw [this]
        simp [hx]
      · rcases List.mem_append.mp hs with h | h
        · rw [h3 s h] at hr
          cases hr
        · have : s = x := by simpa using h
          subst this
          exact Nat.le_refl _
    | some c =>
      obtain ⟨⟨z, z1, z2, z3, z4, z5⟩, h2, h3⟩ := I.some c hc
      rw [hc] at e1
      rw [z1] at e2
      dsimp only at e1 e2
      rw [z3] at e2
      by_cases lt : repairCost r x < c
      · rw [if_pos lt] at e1 e2
        refine ⟨fun h => (by rw [e1] at h; cases h), fun c' h => ?_⟩
        rw [e1] at h ⊢
        cases h
        refine ⟨⟨x, e2, rfl, rfl, by simp, hx⟩, ?_, fun s hs hr => ?_⟩
        · rw [List.filter_append]
          have : l.filter (fun s => isRepair r s && (repairCost r s == repairCost r x)) = [] := List.filter_eq_nil_iff.mpr fun s hs => by
            cases hr : isRepair r s with
            | false => simp
            | true =>
              have := h3 s hs hr
              simp
              omega
          rw [this]
          simp [hx]
        · rcases List.mem_append.mp hs with h | h
          · have := h3 s h hr
            omega
          · have : s = x := by simpa using h
            subst this
            exact Nat.le_refl _
      · rw [if_neg lt] at e1 e2
        have gt : ∀ s ∈ l ++ [x], isRepair r s = true → c ≤ repairCost r s := fun s hs hr => by
          rcases List.mem_append.mp hs with h | h
          · exact h3 s h hr
          · have : s = x := by simpa using h
            subst this
            omega
        by_cases eq : repairCost r x = c
        · rw [if_pos eq] at e1
          refine ⟨fun h => (by rw [e1] at h; cases h), fun c' h => ?_⟩
          rw [e1] at h ⊢
          cases h
          refine ⟨⟨z, e2, ?_, z3, by simp [z4], z5⟩, ?_, gt⟩
          · dsimp only
            rw [List.head?_append, z2]
            rfl
          · rw [List.filter_append, h2]
            simp [hx, eq]
        · rw [if_neg eq] at e1
          refine ⟨fun h => (by rw [e1, hc] at h; cases h), fun c' h => ?_⟩
          rw [e1] at h ⊢
          rw [hc] at h
          cases h
          refine ⟨⟨z, e2, z2, z3, by simp [z4], z5⟩, ?_, gt⟩
          rw [List.filter_append, h2]
          simp [hx, eq]
  · rw [if_neg hx] at e1 e2
    have hx' : isRepair r x = false := by simpa using hx
    refine ⟨fun h => ?_, fun c h => ?_⟩
    · rw [e1] at h ⊢
      obtain ⟨h1, h2, h3⟩ := I.none h
      refine ⟨h1, e2.trans h2, fun s hs => ?_⟩
      rcases List.mem_append.mp hs with q | q
      · exact h3 s q
      · have : s = x := by simpa using q
        subst this
        exact hx'
    · rw [e1] at h ⊢
      obtain ⟨⟨z, z1, z2, z3, z4, z5⟩, h2, h3⟩ := I.some c h
      refine ⟨⟨z, e2.trans z1, z2, z3, by simp [z4], z5⟩, ?_, fun s hs hr => ?_⟩
      · rw [List.filter_append, h2]
        simp [hx']
      · rcases List.mem_append.mp hs with q | q
        · exact h3 s q hr
        · have : s = x := by simpa using q
          subst this
          rw [hx'] at hr
          cases hr
def allR (r : Repairs) : List Nat := (cheapR r (List.range (2 ^ r.changes.length))).2
theorem cheapest_head (r : Repairs) : cheapestRepair r = (allR r).head? := by
  have I := cheapR_ok r (List.range (2 ^ r.changes.length))
  have e : cheapestRepair r = specR r (List.range (2 ^ r.changes.length)) := rfl
  unfold allR
  rw [e]
  cases hc : (cheapR r (List.range (2 ^ r.changes.length))).1 with
  | none =>
    obtain ⟨h1, h2, _⟩ := I.none hc
    rw [h1, h2]
    rfl
  | some c =>
    obtain ⟨⟨z, z1, z2, _⟩, _⟩ := I.some c hc
    rw [z1, z2]
theorem allR_mem {r : Repairs} {s : Nat} (h : s ∈ allR r) : s < 2 ^ r.changes.length := by
  have I := cheapR_ok r (List.range (2 ^ r.changes.length))
  unfold allR at h
  cases hc : (cheapR r (List.range (2 ^ r.changes.length))).1 with
  | none => rw [(I.none hc).1] at h; cases h
  | some c =>
    rw [(I.some c hc).2.1] at h
    exact List.mem_range.mp (List.mem_filter.mp h).1
theorem cheapR_len (r : Repairs) (l : List Nat) : (cheapR r l).2.length ≤ l.length := by
  have I := cheapR_ok r l
  cases hc : (cheapR r l).1 with
  | none => rw [(I.none hc).1]; exact Nat.zero_le _
  | some c =>
    rw [(I.some c hc).2.1]
    exact List.length_filter_le _ _
theorem and_from : ∀ (l : List Nat) (a j : Nat), (l.foldl (· &&& ·) a).testBit j = (a.testBit j && l.all fun x => x.testBit j)
  | [], a, j => by simp
  | x :: l, a, j => by rw [List.foldl_cons, and_from l, Nat.testBit_and, List.all_cons, Bool.and_assoc]
def commonM (l : List Nat) : Nat := l.foldl (· &&& ·) (l.headD 0)
theorem bits_lt {z n j : Nat} (h : z < 2 ^ n) (hj : z.testBit j = true) : j < n := by
  by_cases h2 : j < n
  · exact h2
  · have := Nat.testBit_lt_two_pow (Nat.lt_of_lt_of_le h (Nat.pow_le_pow_right (by decide) (by omega : n ≤ j)))
    rw [this] at hj
    cases hj
theorem essential_eq (r : Repairs) : essential r = if allR r = [] then none else some (commonM (allR r)) := by
  have I := cheapR_ok r (List.range (2 ^ r.changes.length))
  unfold essential
  rw [cheapest_head]
  have mem := @allR_mem r
  unfold allR at mem ⊢
  cases hc : (cheapR r (List.range (2 ^ r.changes.length))).1 with
  | none =>
    rw [(I.none hc).1]
    rfl
  | some c =>
    obtain ⟨⟨z, z1, z2, z3, z4, z5⟩, h2, h3⟩ := I.some c hc
    have hne : (cheapR r (List.range (2 ^ r.changes.length))).2 ≠ [] := fun e => by rw [e] at z2; cases z2
    rw [if_neg hne, z2, Option.map_some, z3, ← h2]
    congr 1
    unfold commonM
    have hz : (cheapR r (List.range (2 ^ r.changes.length))).2.headD 0 = z := by rw [List.headD_eq_head?_getD, z2]; rfl
    rw [hz]
    generalize hA : (cheapR r (List.range (2 ^ r.changes.length))).2 = A at *
    have hzl : z < 2 ^ r.changes.length := List.mem_range.mp z4
    refine Nat.eq_of_testBit_eq fun j => ?_
    rw [union_bit, and_from]
    rw [Bool.eq_iff_iff, List.any_eq_true, Bool.and_eq_true]
    constructor
    · rintro ⟨x, hx, hb⟩
      obtain ⟨i, hi, e⟩ := List.mem_filterMap.mp hx
      obtain ⟨i1, i2⟩ := mem_members.mp hi
      by_cases q : (A.all fun s => s.testBit i) = true
      · rw [if_pos q] at e
        cases e
        rw [Nat.testBit_two_pow] at hb
        have : i = j := by simpa using hb
        subst this
        exact ⟨i2, q⟩
      · rw [if_neg q] at e
        cases e
    · rintro ⟨b1, b2⟩
      refine ⟨2 ^ j, List.mem_filterMap.mpr ⟨j, mem_members.mpr ⟨bits_lt hzl b1, b1⟩, by rw [if_pos b2]⟩, ?_⟩
      rw [Nat.testBit_two_pow]
      simp
/-! ### prices -/
def psum (n : Nat) (ps : List Nat) (s : Nat) : Nat := Kpd9.sum ((membersOf n s).map fun v => ps.getD v 0)
theorem psum_succ (n : Nat) (ps : List Nat) (s : Nat) : psum (n + 1) ps s = psum n ps s + if s.testBit n = true then ps.getD n 0 else 0 := by
  unfold psum
  rw [members_succ, List.map_append, ksum_app]
  congr 1
  by_cases h : s.testBit n = true
  · rw [if_pos h, if_pos h]
    simp [ksum]
  · rw [if_neg h, if_neg h]
    simp [ksum]
theorem psum_get {n : Nat} {ps qs : List Nat} {s : Nat} (h : ∀ v, v < n → ps.getD v 0 = qs.getD v 0) : psum n ps s = psum n qs s := by
  unfold psum
  congr 1
  exact List.map_congr_left fun v hv => h v (mem_members.mp hv).1
/-- one price put in place of nought -/
theorem psum_set {ps : List Nat} {s v p : Nat} (hv : v < ps.length) (h0 : ps.getD v 0 = 0) : ∀ n, psum n (ps.set v p) s = psum n ps s + if v < n ∧ s.testBit v = true then p else 0
  | 0 => by simp [psum, membersOf, ksum]
  | n + 1 => by
    rw [psum_succ, psum_succ, psum_set hv h0 n]
    by_cases e : v = n
    · subst e
      have e1 : (ps.set v p).getD v 0 = p := by simp [List.getD_eq_getElem?_getD, hv]
      rw [e1, h0]
      by_cases hb : s.testBit v = true
      · simp [hb]
      · simp [hb]
    · have e1 : (ps.set v p).getD n 0 = ps.getD n 0 := by simp [List.getD_eq_getElem?_getD, e]
      rw [e1]
      by_cases hb : s.testBit v = true
      · by_cases hl : v < n
        · simp [hb, hl, show v < n + 1 by omega]
          omega
        · simp [hb, hl, show ¬ v < n + 1 by omega]
      · simp [hb]
theorem xor_add : ∀ (m n : Nat), (m ^^^ n) + 2 * (m &&& n) = m + n := by
  intro m
  induction m using Nat.strongRecOn with
  | _ m ih =>
    intro n
    by_cases h : m = 0
    · subst h
      simp
    · have i := ih (m / 2) (by omega) (n / 2)
      have d1 : (m ^^^ n) / 2 = m / 2 ^^^ n / 2 := Nat.xor_div_two
      have d2 : (m &&& n) / 2 = m / 2 &&& n / 2 := Nat.and_div_two
      have m1 : (m ^^^ n) % 2 = (m + n) % 2 := by
        have x1 : (m ^^^ n) % 2 = (m % 2) ^^^ (n % 2) := Nat.xor_mod_two_pow (n := 1)
        rw [x1]
        rcases Nat.mod_two_eq_zero_or_one m with a | a <;> rcases Nat.mod_two_eq_zero_or_one n with b | b <;> rw [a, b] <;> simp <;> omega
      have m2 : (m &&& n) % 2 = (m % 2) &&& (n % 2) := Nat.and_mod_two_pow (n := 1)
      have m3 : (m % 2) &&& (n % 2) = if m % 2 = 1 ∧ n % 2 = 1 then 1 else 0 := by
        rcases Nat.mod_two_eq_zero_or_one m with a | a <;> rcases Nat.mod_two_eq_zero_or_one n with b | b <;> rw [a, b] <;> rfl
      rw [m3] at m2
      rw [← d1, ← d2] at i
      split at m2 <;> omega
theorem without_bit (a b : Nat) (j : Nat) : (a - (a &&& b)).testBit j = (a.testBit j && !b.testBit j) := by
  have h : a - (a &&& b) = a &&& (a ^^^ (a &&& b)) := by
    have e : a = (a &&& b) + (a ^^^ (a &&& b)) := by
      have h1 : (a &&& b) &&& (a ^^^ (a &&& b)) = 0 := by
        refine Nat.eq_of_testBit_eq fun i => ?_
        simp only [Nat.testBit_and, Nat.testBit_xor, Nat.zero_testBit]
        cases a.testBit i <;> cases b.testBit i <;> rfl
      have h2 : (a &&& b) ^^^ (a ^^^ (a &&& b)) = a := by
        refine Nat.eq_of_testBit_eq fun i => ?_
        simp only [Nat.testBit_and, Nat.testBit_xor]
        cases a.testBit i <;> cases b.testBit i <;> rfl
      have h3 := xor_add (a &&& b) (a ^^^ (a &&& b))
      omega
    have e2 : a &&& (a ^^^ (a &&& b)) = a ^^^ (a &&& b) := by
      refine Nat.eq_of_testBit_eq fun i => ?_
      simp only [Nat.testBit_and, Nat.testBit_xor]
      cases a.testBit i <;> cases b.testBit i <;> rfl
    rw [e2]
    omega
  rw [h]
  simp only [Nat.testBit_and, Nat.testBit_xor]
  cases a.testBit j <;> cases b.testBit j <;> rfl
end LC

namespace LC
open Kpd9
def openM (r : Repairs) : Nat := unrepaired r r.applied
theorem psum_without {ps : List Nat} {s v : Nat} (h0 : ps.getD v 0 = 0) : ∀ n, psum n ps (s - (s &&& 2 ^ v)) = psum n ps s
  | 0 => rfl
  | n + 1 => by
    rw [psum_succ, psum_succ, psum_without h0 n, without_bit, Nat.testBit_two_pow]
    by_cases e : v = n
    · subst e
      rw [h0]
      simp
    · simp [e]
def room1 (r : Repairs) (ps : List Nat) (v i : Nat) : Option Nat := match r.changes[i]? with
  | none => none
  | some c => if r.applied.testBit i || !(c.repairs.testBit v) then none else some (c.cost - psum r.violations ps (c.repairs &&& openM r))
def roomM (r : Repairs) (ps : List Nat) (v n : Nat) : List Nat := (List.range n).filterMap (room1 r ps v)
theorem room_succ (r : Repairs) (ps : List Nat) (v n : Nat) : roomM r ps v (n + 1) = roomM r ps v n ++ (room1 r ps v n).toList := by
  unfold roomM
  rw [List.range_succ, List.filterMap_append]
  congr 1
def minL (l : List Nat) : Nat := l.foldl min (l.headD 0)
theorem minfold : ∀ (l : List Nat) (a : Nat), l.foldl min a ∈ a :: l ∧ ∀ y ∈ a :: l, l.foldl min a ≤ y
  | [], a => by simp
  | x :: l, a => by
    rw [List.foldl_cons]
    obtain ⟨h1, h2⟩ := minfold l (min a x)
    have h3 := h2 (min a x) (by simp)
    refine ⟨?_, fun y hy => ?_⟩
    · rcases List.mem_cons.mp h1 with h | h
      · rw [h]
        by_cases q : a ≤ x
        · rw [Nat.min_eq_left q]; simp
        · rw [Nat.min_eq_right (by omega)]; simp
      · simp [h]
    · rcases List.mem_cons.mp hy with h | h
      · subst h
        omega
      · rcases List.mem_cons.mp h with h | h
        · subst h
          omega
        · exact h2 y (by simp [h])
theorem minL_spec {l : List Nat} (h : l ≠ []) : minL l ∈ l ∧ ∀ y ∈ l, minL l ≤ y := by
  cases l with
  | nil => exact absurd rfl h
  | cons x l =>
    obtain ⟨h1, h2⟩ := minfold (x :: l) x
    unfold minL
    rw [List.headD_cons]
    refine ⟨?_, fun y hy => h2 y (by simp [List.mem_cons.mp hy])⟩
    rcases List.mem_cons.mp h1 with q | q
    · rw [q]; simp
    · exact q
theorem minL_is {l : List Nat} {m : Int} (h : l ≠ []) (h1 : m ∈ l.map fun (n : Nat) => (n : Int)) (h2 : ∀ y ∈ l.map (fun (n : Nat) => (n : Int)), m ≤ y) : m = (minL l : Int) := by
  obtain ⟨n, hn, rfl⟩ := List.mem_map.mp h1
  obtain ⟨a, b⟩ := minL_spec h
  have := b n hn
  have := h2 (minL l : Int) (List.mem_map.mpr ⟨_, a, rfl⟩)
  omega
def price1 (r : Repairs) (ps : List Nat) (v : Nat) : Nat := if (openM r).testBit v then minL (roomM r ps v r.changes.length) else 0
def pricesM (r : Repairs) (n : Nat) : List Nat := (List.range n).foldl (fun ps v => ps ++ [price1 r ps v]) []
theorem prices_eq (r : Repairs) : raisedPrices r = pricesM r r.violations := rfl
theorem prices_succ (r : Repairs) (n : Nat) : pricesM r (n + 1) = pricesM r n ++ [price1 r (pricesM r n) n] := by
  unfold pricesM
  rw [List.range_succ, List.foldl_append]
  rfl
theorem prices_len (r : Repairs) : ∀ n, (pricesM r n).length = n
  | 0 => rfl
  | n + 1 => by rw [prices_succ, List.length_append, prices_len r n]; rfl
/-- the list as the program has it after n turns -/
def pyP (r : Repairs) (n : Nat) : List Nat := pricesM r n ++ List.replicate (r.violations - n) 0
theorem pyP_len (r : Repairs) {n : Nat} (h : n ≤ r.violations) : (pyP r n).length = r.violations := by
  unfold pyP
  rw [List.length_append, prices_len, List.length_replicate]
  omega
theorem pyP_zero (r : Repairs) : pyP r 0 = List.replicate r.violations 0 := rfl
theorem pyP_all (r : Repairs) : pyP r r.violations = raisedPrices r := by
  unfold pyP
  rw [Nat.sub_self, prices_eq]
  simp
theorem pyP_get (r : Repairs) (n v : Nat) : (pyP r n).getD v 0 = (pricesM r n).getD v 0 := by
  unfold pyP
  simp only [List.getD_eq_getElem?_getD]
  by_cases h : v < (pricesM r n).length
  · rw [List.getElem?_append_left h]
  · rw [List.getElem?_append_right (by omega), List.getElem?_eq_none (by omega : (pricesM r n).length ≤ v)]
    rw [List.getElem?_replicate]
    split <;> rfl
theorem pyP_at (r : Repairs) (n : Nat) : (pyP r n).getD n 0 = 0 := by
  rw [pyP_get, List.getD_eq_getElem?_getD, List.getElem?_eq_none (by rw [prices_len]; exact Nat.le_refl _)]
  rfl
theorem room_py (r : Repairs) (n v k : Nat) : roomM r (pyP r n) v k = roomM r (pricesM r n) v k := by
  unfold roomM
  congr 1
  funext i
  unfold room1
  cases r.changes[i]? with
  | none => rfl
  | some c =>
    dsimp only
    rw [psum_get fun v _ => pyP_get r n v]
theorem price_py (r : Repairs) (n v : Nat) : price1 r (pyP r n) v = price1 r (pricesM r n) v := by
  unfold price1
  rw [room_py]
theorem pyP_set (r : Repairs) {n : Nat} (h : n < r.violations) : (pyP r n).set n (price1 r (pyP r n) n) = pyP r (n + 1) := by
  rw [price_py]
  unfold pyP
  rw [prices_succ]
  have e : r.violations - n = (r.violations - (n + 1)) + 1 := by omega
  rw [e, List.replicate_succ, List.set_append_right _ _ (by rw [prices_len]; exact Nat.le_refl _), prices_len, Nat.sub_self, List.set_cons_zero, List.append_assoc]
  rfl
theorem pyP_same (r : Repairs) {n : Nat} (h : n < r.violations) (h2 : (openM r).testBit n = false) : pyP r n = pyP r (n + 1) := by
  rw [← pyP_set r h]
  have : price1 r (pyP r n) n = 0 := by unfold price1; rw [h2]; rfl
  rw [this]
  refine List.ext_getElem? fun i => ?_
  rw [List.getElem?_set]
  by_cases e : n = i
  · subst e
    have := pyP_at r n
    rw [List.getD_eq_getElem?_getD] at this
    have hl : n < (pyP r n).length := by rw [pyP_len r (by omega)]; exact h
    rw [if_pos rfl, if_pos hl]
    rw [List.getElem?_eq_getElem hl] at this ⊢
    exact congrArg some this
  · rw [if_neg e]
def PInv (r : Repairs) (ps : List Nat) : Prop := ∀ i c, r.changes[i]? = some c → r.applied.testBit i = false → psum r.violations ps (c.repairs &&& openM r) ≤ c.cost
theorem psum_zero (s m : Nat) : ∀ n, psum n (List.replicate m 0) s = 0
  | 0 => rfl
  | n + 1 => by
    rw [psum_succ, psum_zero s m n, List.getD_eq_getElem?_getD, List.getElem?_replicate]
    split
    · split <;> rfl
    · rfl
theorem pinv (r : Repairs) : ∀ n, n ≤ r.violations → PInv r (pyP r n)
  | 0, _ => fun i c _ _ => by
    rw [pyP_zero, psum_zero]
    exact Nat.zero_le _
  | n + 1, h => fun i c hc ha => by
    have ih := pinv r n (by omega) i c hc ha
    have hl : n < (pyP r n).length := by rw [pyP_len r (by omega)]; omega
    by_cases ho : (openM r).testBit n = true
    · rw [← pyP_set r (by omega), psum_set hl (pyP_at r n)]
      by_cases hb : (c.repairs &&& openM r).testBit n = true
      · rw [if_pos ⟨by omega, hb⟩]
        have hb2 : c.repairs.testBit n = true := by
          rw [Nat.testBit_and] at hb
          simp at hb
          exact hb.1
        have hmem : c.cost - psum r.violations (pyP r n) (c.repairs &&& openM r) ∈ roomM r (pyP r n) n r.changes.length := by
          refine List.mem_filterMap.mpr ⟨i, List.mem_range.mpr (List.getElem?_eq_some_iff.mp hc).1, ?_⟩
          unfold room1
          rw [hc]
          dsimp only
          rw [ha, hb2, if_neg (by decide)]
        have hmin := (minL_spec (List.ne_nil_of_mem hmem)).2 _ hmem
        have e : price1 r (pyP r n) n = minL (roomM r (pyP r n) n r.changes.length) := if_pos ho
        omega
      · rw [if_neg fun z => hb z.2]
        exact ih
    · rw [← pyP_same r (by omega) (by simpa using ho)]
      exact ih
def overM (r : Repairs) (ps : List Nat) (i : Nat) : Bool := !r.applied.testBit i && match r.changes[i]? with
  | none => false
  | some c => decide (c.cost < psum r.violations ps (c.repairs &&& openM r))
theorem over_eq (r : Repairs) (ps : List Nat) : overpriced r ps = (List.range r.changes.length).find? (overM r ps) := rfl
theorem priceSum_eq (r : Repairs) (ps : List Nat) : priceSum r ps = psum r.violations ps (openM r) := rfl
end LC

namespace LC
open Kpd9
/-! ### assignments, turn by turn -/
def freeJ (spares : List Spot) (n : Spot) (b : List Nat) : List Nat := (List.range spares.length).filter fun j => !b.contains j && (spares[j]?.map Spot.kind) == some n.kind
def bfsA (spares : List Spot) (needs : List Spot) : List (List Nat) := needs.foldl (fun F n => F.flatMap fun b => (freeJ spares n b).map fun j => b ++ [j]) [[]]
theorem assign_used (spares : List Spot) : ∀ (needs : List Spot) (u u' : List Nat), (∀ j, u.contains j = u'.contains j) → assignments spares needs u = assignments spares needs u'
  | [], _, _, _ => rfl
  | n :: l, u, u', h => by
    unfold assignments
    have e1 : ((List.range spares.length).filter fun j => !u.contains j && (spares[j]?.map Spot.kind) == some n.kind) = ((List.range spares.length).filter fun j => !u'.contains j && (spares[j]?.map Spot.kind) == some n.kind) := by
      refine List.filter_congr fun j _ => ?_
      rw [h j]
    rw [e1]
    congr 1
    funext j
    rw [assign_used spares l (j :: u) (j :: u') fun i => by rw [List.contains_cons, List.contains_cons, h i]]
theorem bfsA_from (spares : List Spot) : ∀ (needs : List Spot) (F : List (List Nat)), needs.foldl (fun F n => F.flatMap fun b => (freeJ spares n b).map fun j => b ++ [j]) F = F.flatMap fun b => (assignments spares needs b).map fun r => b ++ r
  | [], F => by
    simp only [List.foldl_nil, assignments, List.map_cons, List.map_nil, List.append_nil]
    induction F with
    | nil => rfl
    | cons x r ih => rw [List.flatMap_cons, ← ih]; rfl
  | n :: l, F => by
    rw [List.foldl_cons, bfsA_from spares l, List.flatMap_assoc]
    congr 1
    funext b
    have ea : assignments spares (n :: l) b = (freeJ spares n b).flatMap fun j => (assignments spares l (j :: b)).map fun a => j :: a := rfl
    rw [ea, List.map_flatMap, List.flatMap_map]
    congr 1
    funext j
    rw [List.map_map, assign_used spares l (j :: b) (b ++ [j]) fun i => by simp [Bool.or_comm, List.contains_eq_mem]]
    refine List.map_congr_left fun r _ => ?_
    simp
theorem bfsA_eq (spares needs : List Spot) : bfsA spares needs = assignments spares needs [] := by
  unfold bfsA
  rw [bfsA_from]
  simp
theorem bfsA_more {spares needs : List Spot} {i : Nat} {n : Spot} (h : needs.take (i + 1) = needs.take i ++ [n]) : bfsA spares (needs.take (i + 1)) = (bfsA spares (needs.take i)).flatMap fun b => (freeJ spares n b).map fun j => b ++ [j] := by
  unfold bfsA
  rw [h, List.foldl_append]
  rfl
theorem freeJ_le (spares : List Spot) (n : Spot) (b : List Nat) : (freeJ spares n b).length ≤ spares.length := by
  refine Nat.le_trans (List.length_filter_le _ _) ?_
  rw [List.length_range]
  exact Nat.le_refl _
theorem flat_le {α β : Type} (f : α → List β) (m : Nat) : ∀ l : List α, (∀ a ∈ l, (f a).length ≤ m) → (l.flatMap f).length ≤ l.length * m
  | [], _ => by simp
  | a :: l, h => by
    have ih := flat_le f m l fun x hx => h x (by simp [hx])
    have h0 := h a (by simp)
    rw [List.flatMap_cons, List.length_append, List.length_cons, Nat.succ_mul]
    omega
theorem bfsA_le {spares : List Spot} (hs : spares.length ≤ 7) : ∀ (needs : List Spot) (i : Nat), (bfsA spares (needs.take i)).length ≤ 7 ^ i := by
  intro needs i
  induction i with
  | zero => simp [bfsA]
  | succ i ih =>
    by_cases h : i < needs.length
    · have e := List.take_succ_eq_append_getElem h
      rw [bfsA_more e]
      refine Nat.le_trans (flat_le _ 7 _ fun b _ => ?_) ?_
      · rw [List.length_map]
        exact Nat.le_trans (freeJ_le _ _ _) hs
      · rw [Nat.pow_succ]
        exact Nat.mul_le_mul_right 7 ih
    · have e : needs.take (i + 1) = needs.take i := by rw [List.take_of_length_le (by omega), List.take_of_length_le (by omega)]
      rw [e, Nat.pow_succ]
      omega
theorem bfsA_le5 {spares needs : List Spot} (hs : spares.length ≤ 7) (hn : needs.length ≤ 5) (i : Nat) : (bfsA spares (needs.take i)).length ≤ 16807 := by
  have h : needs.take i = needs.take (min i 5) := by
    by_cases q : i ≤ 5
    · rw [Nat.min_eq_left q]
    · rw [Nat.min_eq_right (by omega), List.take_of_length_le (by omega), List.take_of_length_le (by omega)]
  rw [h]
  refine Nat.le_trans (bfsA_le hs needs (min i 5)) ?_
  exact Nat.le_trans (Nat.pow_le_pow_right (by decide) (Nat.min_le_right i 5)) (by decide)
theorem assign_ok {spares : List Spot} : ∀ {needs : List Spot} {u c : List Nat}, c ∈ assignments spares needs u → c.length = needs.length ∧ (∀ x ∈ c, x < spares.length)
  | [], u, c, h => by
    have : c = [] := by simpa [assignments] using h
    subst this
    exact ⟨rfl, fun x hx => by cases hx⟩
  | n :: l, u, c, h => by
    unfold assignments at h
    obtain ⟨j, hj, h2⟩ := List.mem_flatMap.mp h
    obtain ⟨r, hr, rfl⟩ := List.mem_map.mp h2
    obtain ⟨i1, i2⟩ := assign_ok hr
    refine ⟨by rw [List.length_cons, i1, List.length_cons], fun x hx => ?_⟩
    rcases List.mem_cons.mp hx with e | e
    · subst e
      exact List.mem_range.mp (List.mem_filter.mp hj).1
    · exact i2 x e
/-! ### distances, the best one -/
def distM (needs spares : List Spot) (a : List Nat) (i : Nat) : Nat := distance (spotAt needs i) (spotAt spares (a.getD i 0))
theorem total_eq (needs spares : List Spot) (a : List Nat) : totalDistance needs spares a = Kpd9.sum ((List.range needs.length).map (distM needs spares a)) := rfl
def bestM (needs spares : List Spot) (l : List (List Nat)) : Option (List Nat) := l.foldl (fun (found : Option (List Nat)) a => match found with
  | none => some a
  | some b => if totalDistance needs spares a < totalDistance needs spares b then some a else found) none
theorem best_snoc (needs spares : List Spot) (l : List (List Nat)) (a : List Nat) : bestM needs spares (l ++ [a]) = match bestM needs spares l with
  | none => some a
  | some b => if totalDistance needs spares a < totalDistance needs spares b then some a else bestM needs spares l := by
  unfold bestM
  rw [List.foldl_append]
  rfl
theorem bestA_eq (needs spares : List Spot) : bestAssignment needs spares = bestM needs spares (bfsA spares needs) := by
  rw [bfsA_eq]
  rfl
theorem best_mem {needs spares : List Spot} : ∀ (l : List (List Nat)) (a : List Nat), bestM needs spares l = some a → a ∈ l := by
  refine snoc_ind (P := fun l => ∀ a, bestM needs spares l = some a → a ∈ l) (fun a h => by cases h) fun l x ih a h => ?_
  rw [best_snoc] at h
  cases e : bestM needs spares l with
  | none =>
    rw [e] at h
    cases h
    simp
  | some b =>
    rw [e] at h
    dsimp only at h
    split at h
    · cases h
      simp
    · cases h
      exact List.mem_append_left _ (ih _ e)
def ChoiceOk (needs spares : List Spot) (a : List Nat) : Prop := a.length = needs.length ∧ ∀ x ∈ a, x < spares.length
theorem bestA_ok {needs spares : List Spot} {a : List Nat} (h : bestAssignment needs spares = some a) : ChoiceOk needs spares a := by
  rw [bestA_eq] at h
  have := best_mem _ _ h
  rw [bfsA_eq] at this
  exact assign_ok this
theorem bfsA_ok {needs spares : List Spot} {a : List Nat} (h : a ∈ bfsA spares needs) : ChoiceOk needs spares a := by
  rw [bfsA_eq] at h
  exact assign_ok h
/-! ### potentials -/
def low1 (needs spares : List Spot) (a : List Nat) (v : List Int) (j : Nat) (best : Int) (i : Nat) : Int :=
  if (spotAt needs i).kind = (spotAt spares j).kind then min best (v.getD (a.getD i 0) 0 + (distance (spotAt needs i) (spotAt spares j) : Int) - (distance (spotAt needs i) (spotAt spares (a.getD i 0)) : Int)) else best
def lowM (needs spares : List Spot) (a : List Nat) (v : List Int) (j n : Nat) : Int := (List.range n).foldl (low1 needs spares a v j) (v.getD j 0)
theorem low_succ (needs spares : List Spot) (a : List Nat) (v : List Int) (j n : Nat) : lowM needs spares a v j (n + 1) = low1 needs spares a v j (lowM needs spares a v j n) n := by
  unfold lowM
  rw [List.range_succ, List.foldl_append]
  rfl
theorem foldl_filter' {α β : Type} (p : α → Bool) (f : β → α → β) : ∀ (l : List α) (b : β), (l.filter p).foldl f b = l.foldl (fun b a => if p a = true then f b a else b) b
  | [], _ => rfl
  | x :: l, b => by
    rw [List.filter_cons, List.foldl_cons]
    by_cases h : p x = true
    · rw [if_pos h, if_pos h, List.foldl_cons, foldl_filter' p f l]
    · rw [if_neg h, if_neg h, foldl_filter' p f l]
theorem round_eq (needs spares : List Spot) (a : List Nat) (v : List Int) : potentialRound needs spares a v = (List.range spares.length).map fun j => lowM needs spares a v j needs.length := by
  unfold potentialRound lowM
  refine List.map_congr_left fun j _ => ?_
  rw [foldl_filter']
  congr 1
  funext b i
  unfold low1
  by_cases h : (spotAt needs i).kind = (spotAt spares j).kind
  · rw [if_pos h, if_pos (by simp [h])]
  · rw [if_neg h, if_neg (by simp [h])]
theorem repeated_succ {α : Type} (f : α → α) : ∀ (n : Nat) (a : α), repeated f (n + 1) a = f (repeated f n a)
  | 0, _ => rfl
  | n + 1, a => by
    show repeated f (n + 1) (f a) = f (repeated f n (f a))
    exact repeated_succ f n (f a)
def potV (needs spares : List Spot) (a : List Nat) (n : Nat) : List Int := repeated (potentialRound needs spares a) n (List.replicate spares.length 0)
theorem potV_succ (needs spares : List Spot) (a : List Nat) (n : Nat) : potV needs spares a (n + 1) = (List.range spares.length).map fun j => lowM needs spares a (potV needs spares a n) j needs.length := by
  unfold potV
  rw [repeated_succ, round_eq]
theorem potV_len (needs spares : List Spot) (a : List Nat) : ∀ n, (potV needs spares a n).length = spares.length
  | 0 => by simp [potV, repeated]
  | n + 1 => by rw [potV_succ, List.length_map, List.length_range]
def potU (needs spares : List Spot) (a : List Nat) (v : List Int) : List Int := (List.range needs.length).map fun i => (distM needs spares a i : Int) - v.getD (a.getD i 0) 0
theorem pot_eq (needs spares : List Spot) (a : List Nat) : potentials needs spares a = (potU needs spares a (potV needs spares a spares.length), potV needs spares a spares.length) := rfl
/-! ### the first excess -/
def wrong1 (needs spares : List Spot) (u v : List Int) (z : Nat × Nat) : Bool := (spotAt needs z.1).kind == (spotAt spares z.2).kind && decide ((distance (spotAt needs z.1) (spotAt spares z.2) : Int) < u.getD z.1 0 + v.getD z.2 0)
theorem wrong_eq (needs spares : List Spot) (u v : List Int) : wrongPair needs spares u v = ((List.range needs.length).flatMap fun i => (List.range spares.length).map fun j => (i, j)).find? (wrong1 needs spares u v) := rfl
theorem wrong_some {needs spares : List Spot} {u v : List Int} {i j : Nat} (hi : i < needs.length) (hj : j < spares.length) (h1 : ∀ i', i' < i → ∀ j', j' < spares.length → wrong1 needs spares u v (i', j') = false) (h2 : ∀ j', j' < j → wrong1 needs spares u v (i, j') = false) (h : wrong1 needs spares u v (i, j) = true) :
    wrongPair needs spares u v = some (i, j) := by
  rw [wrong_eq, List.find?_eq_some_iff_append]
  refine ⟨h, ((List.range i).flatMap fun i => (List.range spares.length).map fun j => (i, j)) ++ (List.range j).map fun j => (i, j), ((List.range' (j + 1) (spares.length - (j + 1))).map fun j => (i, j)) ++ ((List.range' (i + 1) (needs.length - (i + 1))).flatMap fun i => (List.range spares.length).map fun j => (i, j)), ?_, fun a ha => ?_⟩
  · have e1 : List.range needs.length = List.range i ++ i :: List.range' (i + 1) (needs.length - (i + 1)) := by
      rw [List.range_eq_range', List.range_eq_range']
      have e : needs.length = i + (1 + (needs.length - (i + 1))) := by omega
      conv => lhs; rw [e]
      rw [← List.range'_append_1, ← List.range'_append_1]
      simp
    have e2 : List.range spares.length = List.range j ++ j :: List.range' (j + 1) (spares.length - (j + 1)) := by
      rw [List.range_eq_range', List.range_eq_range']
      have e : spares.length = j + (1 + (spares.length - (j + 1))) := by omega
      conv => lhs; rw [e]
      rw [← List.range'_append_1, ← List.range'_append_1]
      simp
    rw [e1, List.flatMap_append, List.flatMap_cons]
    conv => lhs; rhs; lhs; rw [e2]
    rw [List.map_append, List.map_cons]
    simp
  · rcases List.mem_append.mp ha with q | q
    · obtain ⟨i', hi', q2⟩ := List.mem_flatMap.mp q
      obtain ⟨j', hj', rfl⟩ := List.mem_map.mp q2
      rw [h1 i' (List.mem_range.mp hi') j' (List.mem_range.mp hj')]
      rfl
    · obtain ⟨j', hj', rfl⟩ := List.mem_map.mp q
      rw [h2 j' (List.mem_range.mp hj')]
      rfl
theorem wrong_none {needs spares : List Spot} {u v : List Int} (h1 : ∀ i, i < needs.length → ∀ j, j < spares.length → wrong1 needs spares u v (i, j) = false) : wrongPair needs spares u v = none := by
  rw [wrong_eq, List.find?_eq_none]
  intro a ha
  obtain ⟨i', hi', q2⟩ := List.mem_flatMap.mp ha
  obtain ⟨j', hj', rfl⟩ := List.mem_map.mp q2
  rw [h1 i' (List.mem_range.mp hi') j' (List.mem_range.mp hj')]
  decide
end LC

namespace LC
open Kpd9
def asgOf (d : Design) : Nat := d.spent - costOf d.library d.choices - repairCost d.repairs d.repairs.applied
structure Ok (d : Design) : Prop where
  wf : Wf d
  sp : costOf d.library d.choices + repairCost d.repairs d.repairs.applied ≤ d.spent
theorem Ok.sum {d : Design} (h : Ok d) : costOf d.library d.choices + repairCost d.repairs d.repairs.applied + asgOf d = d.spent := by
  have := h.sp
  unfold asgOf
  omega
theorem asg_of {d : Design} {n : Nat} (h : costOf d.library d.choices + repairCost d.repairs d.repairs.applied + n = d.spent) : asgOf d = n := by
  unfold asgOf
  omega
/-! ### choices -/
theorem areChoices_iff {lib : List Buffer} {nodes : List Node} {ch : List Nat} : areChoices lib nodes ch = true ↔ ch.length = nodes.length ∧ ∀ v n, nodes[v]? = some n → ch.getD v 0 = 0 ∨ (ch.getD v 0 ≤ lib.length ∧ n.isAllowed = true) := by
  unfold areChoices
  rw [Bool.and_eq_true, beq_iff_eq, List.all_eq_true]
  refine and_congr_right fun _ => ?_
  constructor
  · intro h v n e
    have hv := (List.getElem?_eq_some_iff.mp e).1
    have := h v (List.mem_range.mpr hv)
    rw [e] at this
    simpa using this
  · intro h v hv
    have hv := List.mem_range.mp hv
    have e : nodes[v]? = some nodes[v] := by simp [hv]
    have := h v _ e
    rw [e]
    simpa using this
theorem cost_snoc0 (lib : List Buffer) : ∀ ch : List Nat, costOf lib (ch ++ [0]) = costOf lib ch
  | [] => by rw [List.nil_append, cost_cons]; rfl
  | x :: r => by rw [List.cons_append, cost_cons, cost_cons, cost_snoc0 lib r]
theorem cost_lib (lib : List Buffer) (b : Buffer) : ∀ ch : List Nat, (∀ c ∈ ch, c ≤ lib.length) → costOf (lib ++ [b]) ch = costOf lib ch
  | [], _ => rfl
  | x :: r, h => by
    rw [cost_cons, cost_cons, cost_lib lib b r fun c hc => h c (by simp [hc])]
    congr 1
    by_cases e : x = 0
    · rw [if_pos e, if_pos e]
    · have := h x (by simp)
      rw [if_neg e, if_neg e, List.getElem?_append_left (by omega)]
theorem tree_modify {nodes : List Node} {v : Nat} {f : Node → Node} (hf : ∀ n, (f n).parent = n.parent) (T : Tree nodes) : Tree (nodes.modify v f) := fun u m h hu => by
  rw [List.getElem?_modify] at h
  cases e : nodes[u]? with
  | none => rw [e] at h; cases h
  | some n =>
    rw [e] at h
    have t := T u n e hu
    by_cases q : v = u
    · simp [q] at h
      subst h
      rw [hf]
      exact t
    · simp [q] at h
      subst h
      exact t
theorem mem_modify {nodes : List Node} {v : Nat} {f : Node → Node} {m : Node} (h : m ∈ nodes.modify v f) : ∃ n ∈ nodes, m = n ∨ m = f n := by
  obtain ⟨u, hu⟩ := List.getElem?_of_mem h
  rw [List.getElem?_modify] at hu
  cases e : nodes[u]? with
  | none => rw [e] at hu; cases hu
  | some n =>
    rw [e] at hu
    refine ⟨n, List.mem_of_getElem? e, ?_⟩
    by_cases q : v = u
    · simp [q] at hu
      exact .inr hu.symm
    · simp [q] at hu
      exact .inl hu.symm
theorem filter_modify {f : Node → Node} (hf : ∀ n, (f n).isAllowed = n.isAllowed) : ∀ (nodes : List Node) (v : Nat), ((nodes.modify v f).filter Node.isAllowed).length = (nodes.filter Node.isAllowed).length
  | [], v => by cases v <;> rfl
  | n :: r, 0 => by
    rw [List.modify_zero_cons, List.filter_cons, List.filter_cons, hf]
    split <;> simp
  | n :: r, v + 1 => by
    rw [List.modify_succ_cons, List.filter_cons, List.filter_cons]
    have ih := filter_modify hf r v
    split <;> simp [ih]
theorem ok_modify {d : Design} (h : Ok d) (v : Nat) {f : Node → Node} (h1 : ∀ n, (f n).parent = n.parent) (h2 : ∀ n, (f n).resistance = n.resistance) (h3 : ∀ n, (f n).isAllowed = n.isAllowed) : Ok { d with nodes := d.nodes.modify v f } ∧ asgOf { d with nodes := d.nodes.modify v f } = asgOf d := by
  have W := h.wf
  refine ⟨⟨⟨by rw [List.length_modify]; exact W.n0, by rw [List.length_modify]; exact W.n1, tree_modify h1 W.tree, fun m hm => ?_, by rw [filter_modify h3]; exact W.per, W.lib, W.br, W.drv, ?_, W.vio, W.chg, W.cfl, W.app, W.need, W.spare⟩, h.sp⟩, rfl⟩
  · obtain ⟨n, hn, e | e⟩ := mem_modify hm
    · rw [e]; exact W.nr n hn
    · rw [e, h2]; exact W.nr n hn
  · have c := areChoices_iff.mp W.ch
    refine areChoices_iff.mpr ⟨by rw [List.length_modify]; exact c.1, fun u m e => ?_⟩
    dsimp only at e
    rw [List.getElem?_modify] at e
    cases q : d.nodes[u]? with
    | none => rw [q] at e; cases e
    | some n =>
      rw [q] at e
      have t := c.2 u n q
      by_cases z : v = u
      · simp [z] at e
        subst e
        rw [h3]
        exact t
      · simp [z] at e
        subst e
        exact t
theorem ok_addNode {d : Design} (h : Ok d) {p r c : Nat} {a : Bool} (hp : p < d.nodes.length) (hr : r ≤ 1000) (hl : d.nodes.length < 10) (hc : (d.nodes.filter Node.isAllowed).length + (if a = true then 1 else 0) ≤ 5) :
    Ok { d with nodes := d.nodes ++ [⟨p, r, c, a, none⟩], choices := d.choices ++ [0] } ∧ asgOf { d with nodes := d.nodes ++ [⟨p, r, c, a, none⟩], choices := d.choices ++ [0] } = asgOf d := by
  have W := h.wf
  refine ⟨⟨⟨by simp, by simp; omega, ?_, fun m hm => ?_, ?_, W.lib, W.br, W.drv, ?_, W.vio, W.chg, W.cfl, W.app, W.need, W.spare⟩, ?_⟩, ?_⟩
  · intro u m e hu
    dsimp only at e
    by_cases q : u < d.nodes.length
    · rw [List.getElem?_append_left q] at e
      exact W.tree u m e hu
    · have hu2 := (List.getElem?_eq_some_iff.mp e).1
      rw [List.length_append] at hu2
      have : u = d.nodes.length := by simp at hu2; omega
      subst this
      simp at e
      subst e
      exact hp
  · rcases List.mem_append.mp hm with q | q
    · exact W.nr m q
    · have : m = ⟨p, r, c, a, none⟩ := by simpa using q
      subst this
      exact hr
  · dsimp only
    rw [List.filter_append, List.length_append]
    cases a <;> simp at hc ⊢ <;> omega
  · have c := areChoices_iff.mp W.ch
    refine areChoices_iff.mpr ⟨by simp [c.1], fun u m e => ?_⟩
    dsimp only at e ⊢
    by_cases q : u < d.nodes.length
    · rw [List.getElem?_append_left q] at e
      have := c.2 u m e
      rw [List.getD_eq_getElem?_getD, List.getElem?_append_left (by rw [c.1]; exact q), ← List.getD_eq_getElem?_getD]
      exact this
    · left
      have hu2 := (List.getElem?_eq_some_iff.mp e).1
      have : u = d.choices.length := by simp at hu2; rw [c.1]; omega
      subst this
      simp [List.getD_eq_getElem?_getD]
  · dsimp only
    rw [cost_snoc0]
    exact h.sp
  · unfold asgOf
    dsimp only
    rw [cost_snoc0]
theorem choices_le {d : Design} (W : Wf d) : ∀ c ∈ d.choices, c ≤ d.library.length := (areChoices_ok W.ch).2
theorem ok_addBuffer {d : Design} (h : Ok d) {b : Buffer} (hr : b.resistance ≤ 1000) (hl : d.library.length < 3) : Ok { d with library := d.library ++ [b] } ∧ asgOf { d with library := d.library ++ [b] } = asgOf d := by
  have W := h.wf
  have ec := cost_lib d.library b d.choices (choices_le W)
  refine ⟨⟨⟨W.n0, W.n1, W.tree, W.nr, W.per, by simp; omega, fun m hm => ?_, W.drv, ?_, W.vio, W.chg, W.cfl, W.app, W.need, W.spare⟩, ?_⟩, ?_⟩
  · rcases List.mem_append.mp hm with q | q
    · exact W.br m q
    · have : m = b := by simpa using q
      subst this
      exact hr
  · have c := areChoices_iff.mp W.ch
    refine areChoices_iff.mpr ⟨c.1, fun u m e => ?_⟩
    rcases c.2 u m e with q | q
    · exact .inl q
    · refine .inr ⟨?_, q.2⟩
      dsimp only
      rw [List.length_append]
      have := q.1
      omega
  · dsimp only
    rw [ec]
    exact h.sp
  · unfold asgOf
    dsimp only
    rw [ec]
theorem ok_setBuffers {d : Design} (h : Ok d) {c : List Nat} (hc : areChoices d.library d.nodes c = true) : Ok { d with choices := c, spent := d.spent - costOf d.library d.choices + costOf d.library c } ∧ asgOf { d with choices := c, spent := d.spent - costOf d.library d.choices + costOf d.library c } = asgOf d := by
  have W := h.wf
  have s := h.sum
  have e : asgOf { d with choices := c, spent := d.spent - costOf d.library d.choices + costOf d.library c } = asgOf d := asg_of (by dsimp only; omega)
  exact ⟨⟨⟨W.n0, W.n1, W.tree, W.nr, W.per, W.lib, W.br, W.drv, hc, W.vio, W.chg, W.cfl, W.app, W.need, W.spare⟩, by dsimp only; omega⟩, e⟩
theorem ok_addViolation {d : Design} (h : Ok d) (hl : d.repairs.violations < 8) : Ok { d with repairs := { d.repairs with violations := d.repairs.violations + 1 } } ∧ asgOf { d with repairs := { d.repairs with violations := d.repairs.violations + 1 } } = asgOf d := by
  have W := h.wf
  exact ⟨⟨⟨W.n0, W.n1, W.tree, W.nr, W.per, W.lib, W.br, W.drv, W.ch, by dsimp only; omega, W.chg, W.cfl, W.app, W.need, W.spare⟩, h.sp⟩, rfl⟩
theorem repairCost_snoc (r : Repairs) (c : Change) {s : Nat} (hs : s < 2 ^ r.changes.length) : repairCost { r with changes := r.changes ++ [c] } s = repairCost r s := by
  have hb : s.testBit r.changes.length = false := Nat.testBit_lt_two_pow hs
  unfold repairCost
  dsimp only
  rw [List.length_append, List.length_singleton, members_succ, hb]
  simp only [Bool.false_eq_true, if_false, List.append_nil]
  congr 1
  refine List.map_congr_left fun i hi => ?_
  rw [List.getElem?_append_left (mem_members.mp hi).1]
theorem ok_addChange {d : Design} (h : Ok d) {c : Change} (hl : d.repairs.changes.length < 9) : Ok { d with repairs := { d.repairs with changes := d.repairs.changes ++ [c] } } ∧ asgOf { d with repairs := { d.repairs with changes := d.repairs.changes ++ [c] } } = asgOf d := by
  have W := h.wf
  have e := repairCost_snoc d.repairs c W.app
  refine ⟨⟨⟨W.n0, W.n1, W.tree, W.nr, W.per, W.lib, W.br, W.drv, W.ch, W.vio, by simp; omega, W.cfl, ?_, W.need, W.spare⟩, ?_⟩, ?_⟩
  · dsimp only
    rw [List.length_append, List.length_singleton]
    exact Nat.lt_of_lt_of_le W.app (Nat.pow_le_pow_right (by decide) (by omega))
  · have := h.sp
    dsimp only
    rw [e]
    exact this
  · unfold asgOf
    dsimp only
    rw [e]
theorem ok_addConflict {d : Design} (h : Ok d) {c : Nat × Nat} (hl : d.repairs.conflicts.length < 10) : Ok { d with repairs := { d.repairs with conflicts := d.repairs.conflicts ++ [c] } } ∧ asgOf { d with repairs := { d.repairs with conflicts := d.repairs.conflicts ++ [c] } } = asgOf d := by
  have W := h.wf
  exact ⟨⟨⟨W.n0, W.n1, W.tree, W.nr, W.per, W.lib, W.br, W.drv, W.ch, W.vio, W.chg, by simp; omega, W.app, W.need, W.spare⟩, h.sp⟩, rfl⟩
theorem cost_or (cs : Nat → Nat) {a b : Nat} (hab : a &&& b = 0) : ∀ n, Kpd9.sum ((membersOf n (a ||| b)).map cs) = Kpd9.sum ((membersOf n a).map cs) + Kpd9.sum ((membersOf n b).map cs)
  | 0 => rfl
  | n + 1 => by
    have ih := cost_or cs hab n
    have hb : ((a &&& b).testBit n) = false := by rw [hab, Nat.zero_testBit]
    rw [Nat.testBit_and] at hb
    rw [members_succ, members_succ, members_succ, List.map_append, List.map_append, List.map_append, ksum_app, ksum_app, ksum_app, ih, Nat.testBit_or]
    cases ha : a.testBit n <;> cases hbb : b.testBit n
    · simp [ksum]
    · simp [ksum]; omega
    · simp [ksum]; omega
    · rw [ha, hbb] at hb; cases hb
theorem ok_applyRepair {d : Design} (h : Ok d) {z : Nat} (hz : z < 2 ^ d.repairs.changes.length) (h0 : z &&& d.repairs.applied = 0) :
    Ok { d with repairs := { d.repairs with applied := z ||| d.repairs.applied }, spent := d.spent + repairCost d.repairs z } ∧ asgOf { d with repairs := { d.repairs with applied := z ||| d.repairs.applied }, spent := d.spent + repairCost d.repairs z } = asgOf d := by
  have W := h.wf
  have s := h.sum
  have e : repairCost { d.repairs with applied := z ||| d.repairs.applied } (z ||| d.repairs.applied) = repairCost d.repairs z + repairCost d.repairs d.repairs.applied := cost_or (costAt d.repairs.changes) h0 _
  refine ⟨⟨⟨W.n0, W.n1, W.tree, W.nr, W.per, W.lib, W.br, W.drv, W.ch, W.vio, W.chg, W.cfl, Nat.or_lt_two_pow hz W.app, W.need, W.spare⟩, ?_⟩, asg_of ?_⟩
  · dsimp only
    rw [e]
    omega
  · dsimp only
    rw [e]
    omega
theorem ok_addNeed {d : Design} (h : Ok d) {x : Spot} (hl : d.needs.length < 5) : Ok { d with needs := d.needs ++ [x] } ∧ asgOf { d with needs := d.needs ++ [x] } = asgOf d := by
  have W := h.wf
  exact ⟨⟨⟨W.n0, W.n1, W.tree, W.nr, W.per, W.lib, W.br, W.drv, W.ch, W.vio, W.chg, W.cfl, W.app, by simp; omega, W.spare⟩, h.sp⟩, rfl⟩
theorem ok_addSpare {d : Design} (h : Ok d) {x : Spot} (hl : d.spares.length < 7) : Ok { d with spares := d.spares ++ [x] } ∧ asgOf { d with spares := d.spares ++ [x] } = asgOf d := by
  have W := h.wf
  exact ⟨⟨⟨W.n0, W.n1, W.tree, W.nr, W.per, W.lib, W.br, W.drv, W.ch, W.vio, W.chg, W.cfl, W.app, W.need, by simp; omega⟩, h.sp⟩, rfl⟩
def restSpares (d : Design) (a : List Nat) : List Spot := ((List.range d.spares.length).filter fun j => !a.contains j).map (spotAt d.spares)
theorem ok_applySpares {d : Design} (h : Ok d) (a : List Nat) (total : Nat) : Ok { d with needs := [], spares := restSpares d a, spent := d.spent + total } ∧ asgOf { d with needs := [], spares := restSpares d a, spent := d.spent + total } = asgOf d + total := by
  have W := h.wf
  have s := h.sum
  refine ⟨⟨⟨W.n0, W.n1, W.tree, W.nr, W.per, W.lib, W.br, W.drv, W.ch, W.vio, W.chg, W.cfl, W.app, by simp, ?_⟩, ?_⟩, asg_of ?_⟩
  · dsimp only
    unfold restSpares
    rw [List.length_map]
    refine Nat.le_trans (List.length_filter_le _ _) ?_
    rw [List.length_range]
    exact W.spare
  · have := h.sp
    dsimp only
    omega
  · dsimp only
    omega
end LC

namespace LC
open Kpd9
def resL : Kpd9.Result → List Int
  | .value v => [v]
  | .values v r => v :: r
theorem fields_int (z : Int) : Kpd9.fields (z : Rat) = [z, 1] := rfl
theorem eval_eq {d : Design} (W : Wf d) (c : List Nat) (hc : areChoices d.library d.nodes c = true) (hs : sinks d.nodes = true) {sl : Int} (h : slackI d.driver d.library d.nodes c = some sl) :
    resL (query d (.evaluate c)) = [(costOf d.library c : Int)] ++ halvesM sl ++ [(rootI d.library d.nodes c).1, 1] := by
  simp only [query, hc]
  rw [slack_eq W.tree W.n0, h]
  show (costOf d.library c : Int) :: (Kpd9.fields ((sl : Rat) / 2) ++ Kpd9.fields (rootSeen d.library d.nodes c).load) = _
  rw [fields_half, root_seen W.tree W.n0]
  rfl
theorem eval_none {d : Design} (W : Wf d) (c : List Nat) (hc : areChoices d.library d.nodes c = true) (hs : sinks d.nodes = false) : resL (query d (.evaluate c)) = [-6] := by
  simp only [query, hc]
  rw [slack_eq W.tree W.n0, slackI_none W.tree W.n0 hs]
  rfl
theorem eval_bad {d : Design} (c : List Nat) (hc : areChoices d.library d.nodes c = false) : resL (query d (.evaluate c)) = [-22] := by
  simp only [query, hc, if_true]
  rfl
def offerL (o : Off) : List Int := [(o.1 : Int)] ++ halvesM o.2.1 ++ toInts o.2.2
theorem off_cost' {d : Design} {o : Off} (h : o ∈ offersM d.driver d.library d.nodes) : costOf d.library o.2.2 = o.1 := off_cost h
theorem told_eq {d : Design} {o : Off} (h : o ∈ offersM d.driver d.library d.nodes) (code : Int) : resL (buffersResult d (some (told o)) code) = offerL o := by
  show (costOf d.library o.2.2 : Int) :: (Kpd9.fields ((o.2.1 : Rat) / 2) ++ toInts o.2.2) = _
  rw [off_cost' h, fields_half]
  rfl
theorem bestq_eq {d : Design} (W : Wf d) (hs : sinks d.nodes = true) {g : Int} (h1 : ∃ o, o ∈ offersM d.driver d.library d.nodes ∧ o.2.1 = g) (h2 : ∀ o, o ∈ offersM d.driver d.library d.nodes → o.2.1 ≤ g) :
    ∃ o, cheapM ((offersM d.driver d.library d.nodes).filter fun o => decide (o.2.1 = g)) = some o ∧ resL (query d .bestBuffers) = offerL o := by
  have e := best_eq (driver := d.driver) (lib := d.library) W.tree W.n0 hs h1 h2
  cases hc : cheapM ((offersM d.driver d.library d.nodes).filter fun o => decide (o.2.1 = g)) with
  | none =>
    obtain ⟨o, ho, eo⟩ := h1
    exact absurd hc (cheap_none _ (List.ne_nil_of_mem (List.mem_filter.mpr ⟨ho, decide_eq_true eo⟩)))
  | some o =>
    refine ⟨o, rfl, ?_⟩
    show resL (buffersResult d (best d.driver d.library d.nodes) (-6)) = _
    rw [e, hc]
    exact told_eq (List.mem_filter.mp (cheap_mem _ _ hc)).1 _
theorem bestq_none {d : Design} (W : Wf d) (hs : sinks d.nodes = false) : resL (query d .bestBuffers) = [-6] := by
  show resL (buffersResult d (best d.driver d.library d.nodes) (-6)) = _
  rw [best_none W.tree W.n0 hs]
  rfl
theorem cheapq_bad {d : Design} {t : Int} {v : Nat} (h : v = 0 ∨ 1000 < v ∨ t < -1000000000 ∨ 1000000000 < t) : resL (query d (.cheapestBuffers t v)) = [-22] := by
  simp only [query]
  rw [if_pos h]
  rfl
theorem cheapq_none {d : Design} (W : Wf d) {t : Int} {v : Nat} (h : ¬ (v = 0 ∨ 1000 < v ∨ t < -1000000000 ∨ 1000000000 < t)) (hs : sinks d.nodes = false) : resL (query d (.cheapestBuffers t v)) = [-6] := by
  simp only [query]
  rw [if_neg h, slack_eq W.tree W.n0, slackI_none W.tree W.n0 hs]
  rfl
theorem cheapq_eq {d : Design} (W : Wf d) {t : Int} {v : Nat} (h : ¬ (v = 0 ∨ 1000 < v ∨ t < -1000000000 ∨ 1000000000 < t)) (hs : sinks d.nodes = true) :
    resL (query d (.cheapestBuffers t v)) = match cheapM ((offersM d.driver d.library d.nodes).filter fun o => decide (2 * t ≤ o.2.1 * (v : Int))) with
      | none => [-33]
      | some o => offerL o := by
  simp only [query]
  rw [if_neg h, slack_eq W.tree W.n0, slackI_some W.tree W.n0 hs, cheapest_eq W.tree W.n0 hs (by omega)]
  rw [if_neg (by simp)]
  cases hc : cheapM ((offersM d.driver d.library d.nodes).filter fun o => decide (2 * t ≤ o.2.1 * (v : Int))) with
  | none => rfl
  | some o => exact told_eq (List.mem_filter.mp (cheap_mem _ _ hc)).1 _
theorem front_step (S : Nat → Int) (ks : List Nat) (k : Nat) : frontM S (ks ++ [k]) = match (frontM S ks).getLast? with
  | none => [(k, S k)]
  | some z => if z.2 < S k then frontM S ks ++ [(k, S k)] else frontM S ks := by
  unfold frontM
  rw [List.foldl_append]
  rfl
theorem front_ne {S : Nat → Int} {ks : List Nat} (h : ks ≠ []) : frontM S ks ≠ [] := by
  refine snoc_ind (P := fun ks => ks ≠ [] → frontM S ks ≠ []) (fun h => absurd rfl h) (fun l k _ _ => ?_) ks h
  rw [front_step]
  cases e : (frontM S l).getLast? with
  | none => simp
  | some z =>
    dsimp only
    split
    · simp
    · intro q
      rw [q] at e
      cases e
def frontL (l : List (Nat × Int)) : List Int := [(l.length : Int)] ++ l.flatMap fun p => [(p.1 : Int)] ++ halvesM p.2
theorem offers_ne' {d : Design} : offersM d.driver d.library d.nodes ≠ [] := by
  have h : (allChoices d.library.length d.nodes).length = (d.library.length + 1) ^ (d.nodes.filter Node.isAllowed).length := allChoices_len _ _
  have hp : 0 < (d.library.length + 1) ^ (d.nodes.filter Node.isAllowed).length := Nat.pow_pos (by omega)
  intro z
  have : (offersM d.driver d.library d.nodes).length = (allChoices d.library.length d.nodes).length := by unfold offersM; rw [List.length_map]
  rw [z, h] at this
  simp only [List.length_nil] at this
  omega
theorem costs_ne {os : List Off} (h : os ≠ []) : costsM os ≠ [] := by
  cases os with
  | nil => exact absurd rfl h
  | cons o r => exact List.ne_nil_of_mem ((costs_mem (o :: r) o.1).mpr ⟨o, by simp, rfl⟩)
theorem frontq_eq {d : Design} (W : Wf d) (hs : sinks d.nodes = true) : resL (query d .frontier) = frontL (frontM (slackAt (offersM d.driver d.library d.nodes)) (costsM (offersM d.driver d.library d.nodes))) := by
  simp only [query]
  rw [frontier_eq W.tree W.n0 hs]
  have ne : frontM (slackAt (offersM d.driver d.library d.nodes)) (costsM (offersM d.driver d.library d.nodes)) ≠ [] := front_ne (costs_ne offers_ne')
  generalize frontM (slackAt (offersM d.driver d.library d.nodes)) (costsM (offersM d.driver d.library d.nodes)) = l at ne
  rw [if_neg (by simpa using ne)]
  show ((l.map halfP).length : Int) :: ((l.map halfP).flatMap fun z => (z.1 : Int) :: Kpd9.fields z.2) = _
  rw [List.length_map, List.flatMap_map]
  unfold frontL
  show _ :: _ = _ :: _
  congr 1
  congr 1
  funext p
  show (p.1 : Int) :: Kpd9.fields ((p.2 : Rat) / 2) = _
  rw [fields_half]
  rfl
theorem frontq_none {d : Design} (W : Wf d) (hs : sinks d.nodes = false) : resL (query d .frontier) = [-6] := by
  simp only [query]
  rw [frontier_none W.tree W.n0 hs]
  rfl
theorem critq_bad {d : Design} (c : List Nat) (hc : areChoices d.library d.nodes c = false) : resL (query d (.criticalSink c)) = [-22] := by
  simp only [query, hc, if_true]
  rfl
theorem critq_eq {d : Design} (W : Wf d) (c : List Nat) (hc : areChoices d.library d.nodes c = true) : resL (query d (.criticalSink c)) = match critM d.driver d.library d.nodes c with
  | none => [-6]
  | some v => [(v : Int)] := by
  simp only [query, hc]
  rw [crit_eq W.tree W.n0]
  cases critM d.driver d.library d.nodes c <;> rfl
theorem critq_none {d : Design} (W : Wf d) (c : List Nat) (hc : areChoices d.library d.nodes c = true) (hs : sinks d.nodes = false) : resL (query d (.criticalSink c)) = [-6] := by
  rw [critq_eq W c hc]
  have : critM d.driver d.library d.nodes c = none := by
    unfold critM
    rw [List.find?_eq_none]
    intro v hv
    have hv := List.mem_range.mp hv
    have hm : d.nodes.getD v node0 ∈ d.nodes := by
      rw [List.getD_eq_getElem?_getD, List.getElem?_eq_getElem hv]
      exact List.getElem_mem hv
    unfold sinks at hs
    rw [List.any_eq_false] at hs
    have := hs _ hm
    simp at this ⊢
    intro h
    rw [this] at h
    cases h
  rw [this]
/-! ### repairs and spares -/
theorem cheapR_q (d : Design) : resL (query d .cheapestRepair) = match allR d.repairs with
  | [] => [-33]
  | z :: _ => [(repairCost d.repairs z : Int), (z : Int)] := by
  simp only [query]
  rw [cheapest_head]
  cases allR d.repairs <;> rfl
theorem essential_q (d : Design) : resL (query d .essential) = if allR d.repairs = [] then [-33] else [(commonM (allR d.repairs) : Int)] := by
  simp only [query]
  rw [essential_eq]
  by_cases h : allR d.repairs = []
  · rw [if_pos h, if_pos h]
    rfl
  · rw [if_neg h, if_neg h]
    rfl
theorem check_bad {d : Design} {z : Nat} (h : 2 ^ d.repairs.changes.length ≤ z) : resL (query d (.checkRepair z)) = [-22] := by
  simp only [query]
  rw [if_pos h]
  rfl
theorem check_eq {d : Design} {z : Nat} (h : ¬ 2 ^ d.repairs.changes.length ≤ z) : resL (query d (.checkRepair z)) = if (z &&& d.repairs.applied) ≠ 0 then [3, ((z &&& d.repairs.applied : Nat) : Int)] else match conflictIn d.repairs (z ||| d.repairs.applied) with
  | some c => [2, (c.1 : Int), (c.2 : Int)]
  | none => if unrepaired d.repairs (z ||| d.repairs.applied) = 0 then [0, (repairCost d.repairs z : Int)] else [1, (unrepaired d.repairs (z ||| d.repairs.applied) : Int)] := by
  simp only [query]
  rw [if_neg h]
  split
  · rfl
  · cases conflictIn d.repairs (z ||| d.repairs.applied) with
    | some c => rfl
    | none =>
      dsimp only
      split <;> rfl
theorem assign_q (d : Design) : resL (query d .assignSpares) = match bestAssignment d.needs d.spares with
  | none => [-33]
  | some a => (totalDistance d.needs d.spares a : Int) :: toInts a := by
  simp only [query]
  cases bestAssignment d.needs d.spares <;> rfl
theorem potent_q (d : Design) : resL (query d .potentials) = match bestAssignment d.needs d.spares with
  | none => [-33]
  | some a => (totalDistance d.needs d.spares a : Int) :: (potU d.needs d.spares a (potV d.needs d.spares a d.spares.length) ++ potV d.needs d.spares a d.spares.length) := by
  simp only [query]
  cases bestAssignment d.needs d.spares <;> rfl
end LC

namespace LC
open Kpd9
theorem change_ok {d d' : Design} {q : Request} {r : Kpd9.Result} (O : Ok d) (h : change d q = .ok (d', r)) : (∃ n, asgOf d' = n) ∧ (isChange q = true → Ok d') := by
  have W := O.wf
  have w1 := W.per
  have w2 := W.n1
  have mv : maxValue = 100000 := rfl
  have mn : maxNodes = 10 := rfl
  have ma : maxAllowed = 5 := rfl
  have ml : maxLibrary = 3 := rfl
  have mvi : maxViolations = 8 := rfl
  have mc : maxChanges = 9 := rfl
  have mcf : maxConflicts = 10 := rfl
  have mne : maxNeeds = 5 := rfl
  have ms : maxSpares = 7 := rfl
  refine ⟨⟨_, rfl⟩, fun hc => ?_⟩
  cases q with
  | addNode p r c a =>
    simp only [change] at h
    split at h
    · cases h
    split at h
    · cases h
    split at h
    · cases h
    cases h
    refine (ok_addNode O (by omega) (by omega) (by omega) ?_).1
    rcases (show a = 0 ∨ a = 1 by omega) with rfl | rfl
    · simp; omega
    · simp; omega
  | setSink v l q =>
    simp only [change] at h
    split at h
    · cases h
    split at h
    · cases h
    cases h
    exact (ok_modify O v (f := fun n => { n with sink := some (l, q) }) (fun _ => rfl) (fun _ => rfl) (fun _ => rfl)).1
  | clearSink v =>
    simp only [change] at h
    split at h
    · cases h
    split at h
    · cases h
    cases h
    exact (ok_modify O v (f := fun n => { n with sink := none }) (fun _ => rfl) (fun _ => rfl) (fun _ => rfl)).1
  | addBuffer c r t k =>
    simp only [change] at h
    split at h
    · cases h
    split at h
    · cases h
    cases h
    exact (ok_addBuffer O (by dsimp only; omega) (by omega)).1
  | setBuffers c =>
    simp only [change] at h
    split at h
    · cases h
    split at h
    · cases h
    cases h
    rename_i h1 h2
    exact (ok_setBuffers O (by simpa using h1)).1
  | addViolation =>
    simp only [change] at h
    split at h
    · cases h
    cases h
    exact (ok_addViolation O (by omega)).1
  | addChange k z =>
    simp only [change] at h
    split at h
    · cases h
    split at h
    · cases h
    cases h
    exact (ok_addChange O (by omega)).1
  | addConflict i j =>
    simp only [change] at h
    split at h
    · cases h
    split at h
    · cases h
    split at h
    · cases h
    split at h
    · cases h
    split at h
    · cases h
    cases h
    exact (ok_addConflict O (by omega)).1
  | applyRepair z =>
    simp only [change] at h
    split at h
    · cases h
    split at h
    · cases h
    split at h
    · cases h
    cases h
    rename_i h1 h2 h3
    refine (ok_applyRepair O (Nat.lt_of_not_le fun q => h1 (.inl q)) ?_).1
    exact Classical.byContradiction fun q => h1 (.inr q)
  | addNeed k x y =>
    simp only [change] at h
    split at h
    · cases h
    split at h
    · cases h
    cases h
    exact (ok_addNeed O (by omega)).1
  | addSpare k x y =>
    simp only [change] at h
    split at h
    · cases h
    split at h
    · cases h
    cases h
    exact (ok_addSpare O (by omega)).1
  | applySpares =>
    simp only [change] at h
    split at h
    · cases h
    split at h
    · cases h
    cases h
    exact (ok_applySpares O _ _).1
  | _ => cases hc
end LC

namespace LC
open PySem PySem.Spec PyProof.Rows L2
open Kpd9 (Node Buffer Change Spot Design Repairs)
open Evl (Ev EvT EvL EvA Ex)
/-! ### lists side by side -/
def All2 {A B : Type} (R : A → B → Prop) (xs : List A) (ys : List B) : Prop := xs.length = ys.length ∧ ∀ (i : Nat) (x : A) (y : B), xs[i]? = some x → ys[i]? = some y → R x y
section
variable {A B : Type} {R : A → B → Prop} {xs xs' : List A} {ys ys' : List B}
theorem All2.nil : All2 R [] [] := ⟨rfl, fun i x y h => by simp at h⟩
theorem All2.mono {R' : A → B → Prop} (h : All2 R xs ys) (m : ∀ x y, R x y → R' x y) : All2 R' xs ys := ⟨h.1, fun i x y a b => m x y (h.2 i x y a b)⟩
theorem All2.get (h : All2 R xs ys) {i : Nat} {x : A} (e : xs[i]? = some x) : ∃ y, ys[i]? = some y ∧ R x y := by
  have hl := (List.getElem?_eq_some_iff.mp e).1
  rw [h.1] at hl
  exact ⟨ys[i], by simp [hl], h.2 i x _ e (by simp [hl])⟩
theorem All2.got (h : All2 R xs ys) {i : Nat} {y : B} (e : ys[i]? = some y) : ∃ x, xs[i]? = some x ∧ R x y := by
  have hl := (List.getElem?_eq_some_iff.mp e).1
  rw [← h.1] at hl
  exact ⟨xs[i], by simp [hl], h.2 i _ y (by simp [hl]) e⟩
theorem All2.app (h : All2 R xs ys) (h' : All2 R xs' ys') : All2 R (xs ++ xs') (ys ++ ys') := by
  refine ⟨by simp [h.1, h'.1], fun i x y a b => ?_⟩
  by_cases hi : i < xs.length
  · rw [List.getElem?_append_left hi] at a
    rw [List.getElem?_append_left (by rw [← h.1]; exact hi)] at b
    exact h.2 i x y a b
  · rw [List.getElem?_append_right (by omega)] at a
    rw [List.getElem?_append_right (by rw [← h.1]; omega), ← h.1] at b
    exact h'.2 _ x y a b
theorem All2.one {x : A} {y : B} (r : R x y) : All2 R [x] [y] := ⟨rfl, fun i a b h h' => by
  cases i with
  | zero => simp at h h'; subst h h'; exact r
  | succ i => simp at h⟩
theorem All2.snoc {x : A} {y : B} (h : All2 R xs ys) (r : R x y) : All2 R (xs ++ [x]) (ys ++ [y]) := h.app (.one r)
theorem All2.set {x : A} {y : B} (h : All2 R xs ys) (r : R x y) (j : Nat) : All2 R (xs.set j x) (ys.set j y) := by
  refine ⟨by simp [h.1], fun i a b e e' => ?_⟩
  rw [List.getElem?_set] at e e'
  by_cases hj : j = i
  · subst hj
    rw [if_pos rfl] at e e'
    split at e
    · split at e'
      · simp at e e'; subst e e'; exact r
      · cases e'
    · cases e
  · rw [if_neg hj] at e e'
    exact h.2 i a b e e'
theorem All2.len (h : All2 R xs ys) : xs.length = ys.length := h.1
end
/-! ### what lies in the heap -/
abbrev nv (n : Nat) : V := .int (n : Int)
def tmV : Tm → V
  | none => .non
  | some z => .int z
/-- a tuple of ints -/
def Row (K : PySem.W.Frag) (H : Hp) (x : V) (r : List Int) : Prop := ∃ p, x = .ref p ∧ SqT K H p (r.map V.int)
def TabA {B : Type} (K : PySem.W.Frag) (H : Hp) (a : Addr) (f : B → List Int) (ys : List B) : Prop := ∃ xs, H a = some (.lst xs) ∧ All2 (fun x y => Row K H x (f y)) xs ys
section
variable {K : PySem.W.Frag} {H H' : Hp}
theorem same_new {p : Addr} {o : HO} (h : H p = none) : Same H (upd H p o) := fun b u e => by rw [upd_ne (ne_of_none e h)]; exact e
theorem same_mut {p : Addr} {o : HO} (e : Same H H') (h : H p = none) : Same H (upd H' p o) := fun b u q => by rw [upd_ne (ne_of_none q h)]; exact e b u q
theorem Same.sqt {a : Addr} {xs : List V} (e : Same H H') (h : SqT K H a xs) : SqT K H' a xs := by
  rcases h with (h | ⟨o, h⟩) | h
  · exact .inl (.inl (e _ _ h))
  · exact .inl (.inr ⟨o, e _ _ h⟩)
  · exact .inr h
theorem Row.mono {x : V} {r : List Int} (e : Same H H') (h : Row K H x r) : Row K H' x r := let ⟨p, q, t⟩ := h; ⟨p, q, Same.sqt e t⟩
theorem TabA.mono {B : Type} {f : B → List Int} {ys : List B} {a : Addr} (e : Same H H') (h : TabA K H a f ys) : TabA K H' a f ys :=
  let ⟨xs, q, t⟩ := h; ⟨xs, e _ _ q, t.mono fun _ _ => Row.mono e⟩
end
def sinkRow (s : Option (Nat × Nat)) : List Int := [if s.isSome then 1 else 0, ((s.map Prod.fst).getD 0 : Nat), ((s.map Prod.snd).getD 0 : Nat)]
def nodeRow (n : Node) : List Int := [(n.parent : Int), (n.resistance : Int), (n.capacitance : Int), if n.isAllowed then 1 else 0, if n.sink.isSome then 1 else 0, ((n.sink.map Prod.fst).getD 0 : Nat), ((n.sink.map Prod.snd).getD 0 : Nat)]
def bufRow (b : Buffer) : List Int := [(b.capacitance : Int), (b.resistance : Int), (b.delay : Int), (b.cost : Int)]
def chRow (c : Change) : List Int := [(c.cost : Int), (c.repairs : Int)]
def cfRow (c : Nat × Nat) : List Int := [(c.1 : Int), (c.2 : Int)]
def spRow (s : Spot) : List Int := [(s.kind : Int), (s.x : Int), (s.y : Int)]
/-- the addresses of the classes and of the written tables -/
structure Cs where
  CS : Addr
  CI : Addr
  CR : Addr
  fR : Addr
  aROOT : Addr
  aCOUNTS : Addr
  aROWS : Addr
  aEDITS : Addr
/-- what the written part says of the error's class: over Exception, with an own __init__ at fI -/
structure RfC (K : PySem.W.Frag) (C fI : Addr) : Prop where
  cls : ∃ nm q N bs sn sub ab col dd k0 k1 k2 k3 k5, K.lookup C = some (excClassObj nm q C N bs ESX.exTail true sn sub ab col dd k0 k1 k2 k3 k5 "Exception.__new__")
  sa : PySem.W.findIn K (.ref C) "__setattr__" = some (some (.builtin "object.__setattr__"))
  xf : XfC K C
  tyC : PySem.W.typeIn K (.ref C) = some (.type "type")
  kC : PySem.W.keepIn K (.ref C) = true
  noc : PySem.W.findIn K (.ref C) "code" = some none
  iC : PySem.W.findIn K (.ref C) "__init__" = some (some (.ref fI))
  tI : PySem.W.typeIn K (.ref fI) = some (.type "function")
  te : PySem.W.exmOne K (.ref C) (.ref C) = some true
/-- what the top has written, but the defs -/
structure TX (K : PySem.W.Frag) (mg : Str → Option Value) (Z : Cs) : Prop where
  b_len : mg "len" = none
  b_any : mg "any" = none
  b_sum : mg "sum" = none
  b_all : mg "all" = none
  b_max : mg "max" = none
  b_min : mg "min" = none
  b_abs : mg "abs" = none
  b_zip : mg "zip" = none
  b_enumerate : mg "enumerate" = none
  b_range : mg "range" = none
  b_sorted : mg "sorted" = none
  b_list : mg "list" = none
  c_FAR : ∃ t, mg "FAR" = some (.int 1000000000 t)
  c_UNUSABLE : ∃ t, mg "UNUSABLE" = some (.int (-11) t)
  c_MISSING : ∃ t, mg "MISSING" = some (.int (-2) t)
  c_NO_SUCH : ∃ t, mg "NO_SUCH" = some (.int (-6) t)
  c_CONFLICTING : ∃ t, mg "CONFLICTING" = some (.int (-16) t)
  c_TWICE : ∃ t, mg "TWICE" = some (.int (-17) t)
  c_OUT_OF_RANGE : ∃ t, mg "OUT_OF_RANGE" = some (.int (-22) t)
  c_FULL : ∃ t, mg "FULL" = some (.int (-28) t)
  c_NO_RESULT : ∃ t, mg "NO_RESULT" = some (.int (-33) t)
  c_TOO_DEAR : ∃ t, mg "TOO_DEAR" = some (.int (-75) t)
  c_MOST_WIRE : ∃ t, mg "MOST_WIRE" = some (.int 1000 t)
  c_MOST_VALUE : ∃ t, mg "MOST_VALUE" = some (.int 100000 t)
  c_MOST_REQUIRED : ∃ t, mg "MOST_REQUIRED" = some (.int 1000000000 t)
  c_MOST_NODES : ∃ t, mg "MOST_NODES" = some (.int 10 t)
  c_MOST_PERMITTED : ∃ t, mg "MOST_PERMITTED" = some (.int 5 t)
  c_MOST_BUFFERS : ∃ t, mg "MOST_BUFFERS" = some (.int 3 t)
  c_MOST_VIOLATIONS : ∃ t, mg "MOST_VIOLATIONS" = some (.int 8 t)
  c_MOST_CHANGES : ∃ t, mg "MOST_CHANGES" = some (.int 9 t)
  c_MOST_CONFLICTS : ∃ t, mg "MOST_CONFLICTS" = some (.int 10 t)
  c_MOST_KIND : ∃ t, mg "MOST_KIND" = some (.int 9 t)
  c_MOST_NEEDS : ∃ t, mg "MOST_NEEDS" = some (.int 5 t)
  c_MOST_SPARES : ∃ t, mg "MOST_SPARES" = some (.int 7 t)
  c_MOST_TARGET : ∃ t, mg "MOST_TARGET" = some (.int 1000000000 t)
  c_MOST_DIVISOR : ∃ t, mg "MOST_DIVISOR" = some (.int 1000 t)
  c_ROOT : mg "ROOT" = some (.ref Z.aROOT)
  c_COUNTS : mg "COUNTS" = some (.ref Z.aCOUNTS)
  c_ROWS : mg "ROWS" = some (.ref Z.aROWS)
  c_EDITS : mg "EDITS" = some (.ref Z.aEDITS)
  c_CREATE : ∃ t, mg "CREATE" = some (.int 0 t)
  c_UNDO : ∃ t, mg "UNDO" = some (.int 28 t)
  c_REDO : ∃ t, mg "REDO" = some (.int 29 t)
  c_MOST_DRIVER : ∃ t, mg "MOST_DRIVER" = some (.int 1000 t)
  c_MOST_BUDGET : ∃ t, mg "MOST_BUDGET" = some (.int 1000000000 t)
  c_MOST_EARLIER : ∃ t, mg "MOST_EARLIER" = some (.int 10 t)
  g_State : mg "State" = some (.ref Z.CS)
  g_Instance : mg "Instance" = some (.ref Z.CI)
  g_Refused : mg "Refused" = some (.ref Z.CR)
  rf : RfC K Z.CR Z.fR
  b_Exception : mg "Exception" = none
  v_Exception : PySem.W.findCls K (.type "Exception") (.type "type") "__init__" = some (.val (.builtin "Exception.__init__"))
  clS : Cls K Z.CS
  clI : Cls K Z.CI
  nS_driver : NoAttr K Z.CS "driver"
  nS_budget : NoAttr K Z.CS "budget"
  nS_nodes : NoAttr K Z.CS "nodes"
  nS_library : NoAttr K Z.CS "library"
  nS_choices : NoAttr K Z.CS "choices"
  nS_violations : NoAttr K Z.CS "violations"
  nS_changes : NoAttr K Z.CS "changes"
  nS_conflicts : NoAttr K Z.CS "conflicts"
  nS_applied : NoAttr K Z.CS "applied"
  nS_needs : NoAttr K Z.CS "needs"
  nS_spares : NoAttr K Z.CS "spares"
  nS_assigned : NoAttr K Z.CS "assigned"
  nI_state : NoAttr K Z.CI "state"
  nI_earlier : NoAttr K Z.CI "earlier"
  nI_undone : NoAttr K Z.CI "undone"
  t_ROOT : ∀ H, SqT K H Z.aROOT [.int 0, .int 0, .int 0, .int 0, .int 0, .int 0, .int 0]
/-! ### promises -/
def RetV (v : V) (H : Hp) (Q : VK) : Prop := ∀ H2, Same H H2 → Q v H2
def RetL (xs : List V) (H : Hp) (Q : VK) : Prop := ∀ p H2, H p = none → Same H H2 → H2 p = some (.lst xs) → Q (.ref p) H2
def RetT (xs : List V) (H : Hp) (Q : VK) : Prop := ∀ p H2, H p = none → Same H H2 → H2 p = some (.tup xs) → Q (.ref p) H2
/-- an error of the class at CR with a code of its own leaves -/
def Rai (CR : Addr) (c : Int) (H : Hp) (E : XK) : Prop := ∀ d H2, Same H H2 → H2 d = some (.xd [(("code" : Str), .int c)]) → E (.ref CR) (some d) H2
def sp1 (f : V → Hp → VK → XK → Prop) : Sp := fun vs H Q E => ∃ a, vs = [a] ∧ f a H Q E
def sp2 (f : V → V → Hp → VK → XK → Prop) : Sp := fun vs H Q E => ∃ a b, vs = [a, b] ∧ f a b H Q E
def sp3 (f : V → V → V → Hp → VK → XK → Prop) : Sp := fun vs H Q E => ∃ a b c, vs = [a, b, c] ∧ f a b c H Q E
def sp4 (f : V → V → V → V → Hp → VK → XK → Prop) : Sp := fun vs H Q E => ∃ a b c d, vs = [a, b, c, d] ∧ f a b c d H Q E
def sp5 (f : V → V → V → V → V → Hp → VK → XK → Prop) : Sp := fun vs H Q E => ∃ a b c d e, vs = [a, b, c, d, e] ∧ f a b c d e H Q E
theorem len1 {f : V → Hp → VK → XK → Prop} {p : Str} (vs : List V) (H : Hp) (Q : VK) (E : XK) (h : sp1 f vs H Q E) : vs.length = ([p] : List Str).length := by obtain ⟨_, rfl, _⟩ := h; rfl
theorem len2 {f : V → V → Hp → VK → XK → Prop} {p q : Str} (vs : List V) (H : Hp) (Q : VK) (E : XK) (h : sp2 f vs H Q E) : vs.length = ([p, q] : List Str).length := by obtain ⟨_, _, rfl, _⟩ := h; rfl
theorem len3 {f : V → V → V → Hp → VK → XK → Prop} {p q r : Str} (vs : List V) (H : Hp) (Q : VK) (E : XK) (h : sp3 f vs H Q E) : vs.length = ([p, q, r] : List Str).length := by obtain ⟨_, _, _, rfl, _⟩ := h; rfl
theorem len4 {f : V → V → V → V → Hp → VK → XK → Prop} {p q r s : Str} (vs : List V) (H : Hp) (Q : VK) (E : XK) (h : sp4 f vs H Q E) : vs.length = ([p, q, r, s] : List Str).length := by obtain ⟨_, _, _, _, rfl, _⟩ := h; rfl
theorem len5 {f : V → V → V → V → V → Hp → VK → XK → Prop} {p q r s t : Str} (vs : List V) (H : Hp) (Q : VK) (E : XK) (h : sp5 f vs H Q E) : vs.length = ([p, q, r, s, t] : List Str).length := by obtain ⟨_, _, _, _, _, rfl, _⟩ := h; rfl
/-! ### a def of the text, and its call -/
/-- the name x of the module stands for the def st -/
structure DefAt (K : PySem.W.Frag) (mg : Str → Option Value) (x qual : Str) (st : Stmt) (f : Addr) (fd : FuncData) : Prop where
  g : mg x = some (.ref f)
  F : Fun K qual qual st f fd
structure Cal (P : Program) (w : World) (K : PySem.W.Frag) (mg : Str → Option Value) (base : Heap) (CX : CXT) (k : Nat) (x : Str) (ps : List Str) (sp : Sp) : Prop where
  ex : ∃ f fd, mg x = some (.ref f) ∧ PySem.W.keepIn K (.ref f) = true ∧ Binds K fd ps [] ∧ FnOk P w K mg base CX k f fd ps sp
section
variable {X : Cx} {CX : CXT} {k : Nat} {x : Str} {ps : List Str} {sp : Sp} {p pos : Pos} {e : Expr} {es : List Expr} {t : TA}
/-- a call of a def that lets nothing out -/
theorem pe_c (C : Cal X.prog X.w X.K X.mg X.base CX0 k x ps sp) (hr : Room k X.A) (hg : Gl X x) (ha : PA X (e :: es) t) (hdb : (x == ("__debug__" : Str)) = false := by decide)
    (he : starEach (e :: es) X.env = (false, eval e X.env) :: starEach es X.env := by rfl) (hpl : (backTo pos (starEach es X.env)).any (·.1) = false := by rfl) : PE X (.Call (.Name x p) (e :: es) [] pos) (tCall sp [] E0 t) := by
  obtain ⟨f, fd, g, kp, b, F⟩ := C.ex
  exact pe_call F hr hg g kp b .nil pass0 ha hdb he hpl
/-- a call of a def that may raise -/
theorem pe_cS {W : WX} (C : Cal X.prog X.w X.K X.mg X.base (L2.CX X.prog X.w) k x ps sp) (tk : Takes X W) (hr : Room k X.A) (hg : Gl X x) (ha : PA X (e :: es) t) (hdb : (x == ("__debug__" : Str)) = false := by decide)
    (he : starEach (e :: es) X.env = (false, eval e X.env) :: starEach es X.env := by rfl) (hpl : (backTo pos (starEach es X.env)).any (·.1) = false := by rfl) : PE X (.Call (.Name x p) (e :: es) [] pos) (tCallS sp (WE W) t) := by
  obtain ⟨f, fd, g, kp, b, F⟩ := C.ex
  exact pe_callS F hr hg g kp b (fun σ => passAt tk σ) ha hdb he hpl
theorem pe_gi {i : Int} (h : ∃ t, X.mg x = some (.int i t)) (hg : Gl X x) (hd : (x == ("__debug__" : Str)) = false := by decide) : PE X (.Name x pos) (tC (.int i)) := by
  obtain ⟨t, h⟩ := h
  exact pe_glob hg h ⟨t, rfl⟩ hd
theorem pe_gr {a : Addr} (h : X.mg x = some (.ref a)) (hg : Gl X x) (hd : (x == ("__debug__" : Str)) = false := by decide) : PE X (.Name x pos) (tC (.ref a)) := pe_glob hg h rfl hd
end
/-! ### ifs on numbers -/
theorem ifd {p A B : Prop} [Decidable p] (h1 : p → A) (h2 : ¬ p → B) : if decide p = true then A else B := by
  by_cases h : p
  · rw [if_pos (decide_eq_true h)]; exact h1 h
  · rw [if_neg (by rw [decide_eq_false h]; decide)]; exact h2 h
theorem ifn {p A B : Prop} [Decidable p] (h1 : ¬ p → A) (h2 : p → B) : if (!decide p) = true then A else B := by
  by_cases h : p
  · rw [if_neg (by rw [decide_eq_true h]; decide)]; exact h2 h
  · rw [if_pos (by rw [decide_eq_false h]; decide)]; exact h1 h
theorem ifE {a b : Int} {A B : Prop} (h1 : a = b → A) (h2 : a ≠ b → B) : if decide (V.int a = V.int b) = true then A else B := ifd (fun e => h1 (V.int.inj e)) fun e => h2 fun z => e (congrArg _ z)
theorem ifN {a b : Int} {A B : Prop} (h1 : a ≠ b → A) (h2 : a = b → B) : if (!decide (V.int a = V.int b)) = true then A else B := ifn (fun e => h1 fun z => e (congrArg _ z)) fun e => h2 (V.int.inj e)
theorem ifb {b : Bool} {A B : Prop} (h1 : b = true → A) (h2 : b = false → B) : if b = true then A else B := by
  cases b with
  | true => exact (if_pos rfl) ▸ h1 rfl
  | false => exact (if_neg Bool.false_ne_true) ▸ h2 rfl
/-! ### readings, step by step -/
section
variable {K : PySem.W.Frag} {D : Ends} {σ : L2.St} {H : Hp} {te ta tb : TE} {t u : TS} {Q : VK} {i : Nat} {v : V}
theorem r_ret (h : te σ H D.rt) : tRet te D σ H := h
theorem r_seq (h : t { D with nx := u D } σ H) : tSeq t u D σ H := h
theorem r_set (h : te σ H fun x H1 => D.nx (σ.set i (some x)) H1) : tAsg te (gName i) D σ H := h
theorem r_asg {g : TG} (h : te σ H fun x H1 => g x σ H1 D.nx) : tAsg te g D σ H := h
theorem r_drop (h : te σ H fun _ H1 => D.nx σ H1) : tDrop te D σ H := h
theorem r_next (h : D.nx σ H) : tNext D σ H := h
theorem r_ifs {c : TT} (h : c σ H fun b H1 => if b = true then t D σ H1 else u D σ H1) : tIfS c t u D σ H := h
theorem r_cut {t u : TS} (h : ∃ Mid : L2.St → Hp → Prop, t { D with nx := Mid } σ H ∧ ∀ σ' H', Mid σ' H' → u D σ' H') : Evl.tCut t u D σ H := h
theorem r_var (e : σ[i]? = some (some v)) (h : Q v H) : tVar i σ H Q := ⟨v, e, h⟩
theorem r_c (h : Q v H) : tC v σ H Q := h
theorem r_op {r : R2} (h : ta σ H fun x H1 => tb σ H1 fun y H2 => r x y H2 Q) : tOp r ta tb σ H Q := h
theorem r_un {r : V → Hp → VK → Prop} (h : ta σ H fun x H1 => r x H1 Q) : tUn r ta σ H Q := h
theorem r_u {g : Int → V} {z : Int} (h : Q (g z) H) : rU g (.int z) H Q := ⟨z, rfl, h⟩
theorem r_i0 {g : Int → Int → V} {a b : Int} (h : Q (g a b) H) : rI0 g (.int a) (.int b) H Q := ⟨a, b, rfl, rfl, h⟩
theorem r_i {C : Int → Int → Prop} {g : Int → Int → V} {a b : Int} (c : C a b) (h : Q (g a b) H) : rI C g (.int a) (.int b) H Q := ⟨a, b, rfl, rfl, c, h⟩
theorem r_eq {a b : Int} (h : Q (.bl (decide (V.int a = V.int b))) H) : rEq (.int a) (.int b) H Q := ⟨rfl, h⟩
theorem r_ne {a b : Int} (h : Q (.bl (!decide (V.int a = V.int b))) H) : rNe (.int a) (.int b) H Q := ⟨rfl, h⟩
theorem r_isN (h : Q (.bl (decide (v = .non))) H) : (fun (x y : V) (H : Hp) (Q : VK) => y = .non ∧ Q (.bl (decide (x = .non))) H) v .non H Q := ⟨rfl, h⟩
theorem r_notN (h : Q (.bl (!decide (v = .non))) H) : (fun (x y : V) (H : Hp) (Q : VK) => y = .non ∧ Q (.bl (!decide (x = .non))) H) v .non H Q := ⟨rfl, h⟩
theorem r_ixL {p : Addr} {xs : List V} {z : Int} (hx : SqL K H p xs) (e : atI xs z = some v) (h : Q v H) : rIxL K (.ref p) (.int z) H Q := ⟨p, xs, z, v, rfl, rfl, hx, e, h⟩
theorem r_ixT {p : Addr} {xs : List V} {z : Int} (hx : SqT K H p xs) (e : atI xs z = some v) (h : Q v H) : rIxT K (.ref p) (.int z) H Q := ⟨p, xs, z, v, rfl, rfl, hx, e, h⟩
theorem r_nil {Q : List V → Hp → Prop} (h : Q [] H) : tNil σ H Q := h
theorem r_cons {tr : TA} {Q : List V → Hp → Prop} (h : te σ H fun x H1 => tr σ H1 fun xs H2 => Q (x :: xs) H2) : tCons te tr σ H Q := h
theorem r_lst {t : TA} (h : t σ H fun xs H1 => xs.length ≤ sizeLine ∧ ∀ p, H1 p = none → Q (.ref p) (upd H1 p (.lst xs))) : tLst t σ H Q := h
theorem r_tup {t : TA} (h : t σ H fun xs H1 => xs.length ≤ sizeLine ∧ ∀ p, H1 p = none → Q (.ref p) (upd H1 p (.tup xs))) : tTup t σ H Q := h
theorem r_cb {r : List V → Hp → VK → Prop} {t : TA} (h : t σ H fun vs H1 => r vs H1 Q) : tCB r t σ H Q := h
theorem r_call {sp : Sp} {E : XK} {t : TA} (h : t σ H fun vs H1 => sp vs H1 Q E) : tCall sp [] E t σ H Q := by
  show t σ H fun vs H1 => sp (vs ++ []) H1 Q E
  simpa only [List.append_nil] using h
theorem r_callS {sp : Sp} {E : L2.St → XK} {t : TA} (h : t σ H fun vs H1 => sp vs H1 Q (E σ)) : tCallS sp E t σ H Q := h
theorem r_if {c : TT} (h : c σ H fun b H1 => if b = true then ta σ H1 Q else tb σ H1 Q) : tIf c ta tb σ H Q := h
theorem r_test {Q : Bool → Hp → Prop} (h : te σ H fun x H' => ∃ k, x = .bl k ∧ Q k H') : tTest te σ H Q := h
theorem r_tb {Q : Bool → Hp → Prop} (h : te σ H fun x H' => ∃ k, x = .bl k ∧ Q k H') : tB te σ H Q := h
theorem r_k {k : Bool} {Q : Bool → Prop} (h : Q k) : ∃ k', V.bl k = .bl k' ∧ Q k' := ⟨k, rfl, h⟩
theorem r_or {c d : TT} {Q : Bool → Hp → Prop} (h : c σ H fun b H1 => if b = true then Q true H1 else d σ H1 Q) : tOr c d σ H Q := h
theorem r_and {c d : TT} {Q : Bool → Hp → Prop} (h : c σ H fun b H1 => if b = true then d σ H1 Q else Q false H1) : tAnd c d σ H Q := h
theorem r_not {c : TT} {Q : Bool → Hp → Prop} (h : c σ H fun b H1 => Q (!b) H1) : tNot c σ H Q := h
theorem r_tupg {n : Nat} {tg : TGs} {p : Addr} {xs : List V} {Q : L2.St → Hp → Prop} (hx : SqT K H p xs) (hl : xs.length = n) (h : tg xs σ H Q) : gTup K n tg (.ref p) σ H Q := ⟨p, xs, rfl, hx, hl, h⟩
theorem r_lstg {n : Nat} {tg : TGs} {p : Addr} {xs : List V} {Q : L2.St → Hp → Prop} (hx : SqL K H p xs) (hl : xs.length = n) (h : tg xs σ H Q) : gLst K n tg (.ref p) σ H Q := ⟨p, xs, rfl, hx, hl, h⟩
theorem r_gcons {g : TG} {gs : TGs} {xs : List V} {Q : L2.St → Hp → Prop} (h : g v σ H fun σ' H' => gs xs σ' H' Q) : gCons g gs (v :: xs) σ H Q := ⟨v, xs, rfl, h⟩
theorem r_gnil {Q : L2.St → Hp → Prop} (h : Q σ H) : gNil [] σ H Q := ⟨rfl, h⟩
theorem r_gname {Q : L2.St → Hp → Prop} (h : Q (σ.set i (some v)) H) : gName i v σ H Q := h
theorem r_gsub {t : TSet} {Q : L2.St → Hp → Prop} (h : ta σ H fun o H1 => tb σ H1 fun i H2 => t o i v H2 fun H3 => Q σ H3) : gSub ta tb t v σ H Q := h
theorem r_setL {p : Addr} {xs : List V} {z : Int} {j : Nat} {Q : Hp → Prop} (hx : H p = some (.lst xs)) (e : ixN xs.length z = some j) (h : Q (upd H p (.lst (xs.set j v)))) : rSetL (.ref p) (.int z) v H Q := ⟨p, xs, z, j, rfl, rfl, hx, e, h⟩
theorem r_par {i j : Nat} {t : TA} (h : t σ H fun vs H1 => ∃ v w, vs = [v, w] ∧ D.nx ((σ.set i (some v)).set j (some w)) H1) : tPar i j t D σ H := h
theorem r_parE {x y : V} {R : V → V → Prop} (h : R x y) : ∃ v w, ([x, y] : List V) = [v, w] ∧ R v w := ⟨x, y, rfl, h⟩
end
theorem line2 {n : Nat} (h : n ≤ 100000) : n ≤ sizeLine := Nat.le_trans h (by rw [sizeLine_eq]; decide)
theorem line1 {n : Nat} (h : n < 100000) : n < sizeLine := Nat.lt_of_lt_of_le h (by rw [sizeLine_eq]; decide)
theorem row_at {r : List Int} {j : Nat} {z : Int} (h : r[j]? = some z) : atI (r.map V.int) (j : Int) = some (.int z) := atI_nat (by rw [List.getElem?_map, h]; rfl)
/-! ### places -/
theorem at_map {B : Type} {A : List B} {f : B → V} {k : Nat} {d : B} (hk : k < A.length) : atI (A.map f) (k : Int) = some (f (A.getD k d)) := atI_nat (by simp [hk])
theorem ix_nat {n k : Nat} (h : k < n) : ixN n (k : Int) = some k := Evl.ixN_nat h
theorem take_more {α : Type} : ∀ {l : List α} {i : Nat} {x : α}, l[i]? = some x → l.take (i + 1) = l.take i ++ [x]
  | [], i, x, h => by simp at h
  | a :: l, 0, x, h => by
    have e : a = x := Option.some.inj h
    subst e
    rfl
  | a :: l, i + 1, x, h => by
    have ih := take_more (l := l) (i := i) (x := x) h
    show a :: l.take (i + 1) = a :: l.take i ++ [x]
    rw [ih]
    rfl
/-! ### comprehensions -/
theorem et_yes {σ : L2.St} {H : Hp} : EvT tYes σ H true := fun H1 _ _ q => q H1 (Ex.refl H1)
theorem given_filter {B : Type} (p : B → Bool) (g : B → V) : ∀ (ys : List B), Evl.given ys.length (fun i => (ys[i]?.map p).getD false) (fun i => (ys[i]?.map g).getD .non) = (ys.filter p).map g
  | [] => rfl
  | y :: ys => by
    have ih := given_filter p g ys
    unfold Evl.given at ih ⊢
    rw [List.length_cons, List.range_succ_eq_map, List.filter_cons, List.filter_map, List.filter_cons]
    have e1 : ((fun i => ((y :: ys)[i]?.map p).getD false) ∘ Nat.succ) = fun i => (ys[i]?.map p).getD false := by funext i; simp
    rw [e1]
    by_cases h : p y = true
    · simp only [h, List.getElem?_cons_zero, Option.map_some, Option.getD_some, if_true, List.map_cons, List.map_map]
      rw [← ih]
      congr 1
    · have h' : p y = false := by simpa using h
      simp only [h', List.getElem?_cons_zero, Option.map_some, Option.getD_some, if_false, List.map_map, Bool.false_eq_true]
      rw [← ih]
      congr 1
theorem lcA {B : Type} {K : PySem.W.Frag} {a : Addr} {xs : List V} {ys : List B} {R : V → B → Prop} {tl : TE} {j : Nat} {te : TE} {t : TT} {σ : L2.St} {vs : List Nat} {H : Hp} (p : B → Bool) (g : B → V)
    (h : Ev tl σ H (.ref a)) (hx : SqL K H a xs) (hA : All2 R xs ys) (hz : ys.length ≤ 40000) (hw : ∀ x, wipe ((wipe σ vs).set j (some x)) vs = wipe σ vs)
    (ht : ∀ (i : Nat) x y H1, Same H H1 → xs[i]? = some x → ys[i]? = some y → R x y → EvT t ((wipe σ vs).set j (some x)) H1 (p y))
    (he : ∀ (i : Nat) x y H1, Same H H1 → xs[i]? = some x → ys[i]? = some y → R x y → p y = true → Ev te ((wipe σ vs).set j (some x)) H1 (g y)) : EvL (tLc (iList K tl) (gName j) t te vs) σ H ((ys.filter p).map g) := by
  rw [← given_filter, ← hA.1]
  refine Evl.el_lcL _ _ h hx (by rw [hA.1]; exact hz) hw (fun i x H1 e hi => ?_) (fun i x H1 e hi hf => ?_)
  · obtain ⟨y, hy, r⟩ := hA.get hi
    have q := ht i x y H1 e hi hy r
    rw [hy]
    exact q
  · obtain ⟨y, hy, r⟩ := hA.get hi
    rw [hy] at hf ⊢
    exact he i x y H1 e hi hy r hf
theorem lcM {B : Type} {K : PySem.W.Frag} {a : Addr} {xs : List V} {ys : List B} {R : V → B → Prop} {tl : TE} {j : Nat} {te : TE} {σ : L2.St} {vs : List Nat} {H : Hp} (g : B → V)
    (h : Ev tl σ H (.ref a)) (hx : SqL K H a xs) (hA : All2 R xs ys) (hz : ys.length ≤ 40000) (hw : ∀ x, wipe ((wipe σ vs).set j (some x)) vs = wipe σ vs)
    (he : ∀ (i : Nat) x y H1, Same H H1 → xs[i]? = some x → ys[i]? = some y → R x y → Ev te ((wipe σ vs).set j (some x)) H1 (g y)) : EvL (tLc (iList K tl) (gName j) tYes te vs) σ H (ys.map g) := by
  have e := lcA (t := tYes) (fun _ => true) g h hx hA hz hw (fun _ _ _ _ _ _ _ _ => et_yes) fun i x y H1 s a b c _ => he i x y H1 s a b c
  rw [List.filter_eq_self.mpr fun _ _ => rfl] at e
  exact e
theorem EvL.go {te : TE} {σ : L2.St} {H : Hp} {xs : List V} {Q : VK} (h : EvL te σ H xs) (q : ∀ p H2, H p = none → Same H H2 → H2 p = some (.lst xs) → Q (.ref p) H2) : te σ H Q := h H (Ex.refl H) Q q
theorem Ev.go {te : TE} {σ : L2.St} {H : Hp} {v : V} {Q : VK} (h : Ev te σ H v) (q : ∀ H2, Same H H2 → Q v H2) : te σ H Q := h H (Ex.refl H) Q q
theorem given_all2 {B : Type} {R : V → B → Prop} (p : B → Bool) : ∀ (xs : List V) (ys : List B), All2 R xs ys → All2 R (Evl.given xs.length (fun i => (ys[i]?.map p).getD false) (fun i => xs[i]?.getD .non)) (ys.filter p)
  | [], ys, h => by
    have : ys = [] := List.length_eq_zero_iff.mp h.1.symm
    subst this
    exact .nil
  | x :: xs, [], h => by have := h.1; simp at this
  | x :: xs, y :: ys, h => by
    have h0 : R x y := h.2 0 x y rfl rfl
    have ht : All2 R xs ys := ⟨by have := h.1; simpa using this, fun i a b ha hb => h.2 (i + 1) a b (by simpa using ha) (by simpa using hb)⟩
    have ih := given_all2 p xs ys ht
    unfold Evl.given at ih ⊢
    rw [List.length_cons, List.range_succ_eq_map, List.filter_cons, List.filter_map, List.filter_cons]
    have e1 : ((fun i => ((y :: ys)[i]?.map p).getD false) ∘ Nat.succ) = fun i => (ys[i]?.map p).getD false := by funext i; simp
    rw [e1]
    have e2 : ((fun i => (x :: xs)[i]?.getD V.non) ∘ Nat.succ) = fun i => xs[i]?.getD V.non := by funext i; simp
    by_cases hp : p y = true
    · simp only [hp, List.getElem?_cons_zero, Option.map_some, Option.getD_some, if_true, List.map_cons, List.map_map, e2]
      exact All2.app (All2.one h0) ih
    · have hp' : p y = false := by simpa using hp
      simp only [hp', List.getElem?_cons_zero, Option.map_some, Option.getD_some, if_false, List.map_map, Bool.false_eq_true, e2]
      exact ih
/-- [x for x in xs if ..]: the same objects -/
theorem lcF {B : Type} {K : PySem.W.Frag} {a : Addr} {xs : List V} {ys : List B} {R : V → B → Prop} {j : Nat} {t : TT} {σ : L2.St} {vs : List Nat} {H : Hp} {Qd : Addr → Hp → Prop} (p : B → Bool)
    (hx : SqL K H a xs) (hA : All2 R xs ys) (hz : ys.length ≤ 40000) (hw : ∀ x, wipe ((wipe σ vs).set j (some x)) vs = wipe σ vs) (hj : ∀ x : V, ((wipe σ vs).set j (some x))[j]? = some (some x))
    (ht : ∀ (i : Nat) x y, xs[i]? = some x → ys[i]? = some y → R x y → EvT t ((wipe σ vs).set j (some x)) H (p y))
    (q : ∀ D H1 zs, H D = none → Same H H1 → H1 D = some (.lst zs) → All2 R zs (ys.filter p) → Qd D H1) :
    ∀ D, H D = none → ∃ W : Nat → Nat → Hp → Prop, (∃ m, W 0 m (upd H D (.lst []))) ∧ ∀ i m H1, W i m H1 →
      ((Itl K a).stop i H1 ∧ Qd D H1) ∨ ((Itl K a).go i H1 ∧ ∃ Nx : Hp → Prop, (∀ H', Nx H' → ∃ m', m' < m ∧ W (i + 1) m' H') ∧ ∀ x H', (Itl K a).yld i H1 x H' → gName j x (wipe σ vs) H' fun σ2 H2 => wipe σ2 vs = wipe σ vs ∧ t σ2 H2 fun b H3 =>
        if b = true then tVar j σ2 H3 fun y H4 => ∃ acc, H4 D = some (.lst acc) ∧ acc.length < sizeLine ∧ Nx (upd H4 D (.lst (acc ++ [y]))) else Nx H3) := by
  intro D hD
  refine lc_list (xs := xs) (Evl.Cw H (fun i => (ys[i]?.map p).getD false) (fun i => xs[i]?.getD .non) D) ⟨hD, Ex.new hD, upd_same⟩ (fun i H1 _ c => Evl.ex_l c.2.1 hx) (fun i x H1 hi c => ?_) (fun H1 c => q D H1 _ c.1 c.2.1 c.2.2 (given_all2 p xs ys hA))
  obtain ⟨y, hy, r⟩ := hA.get hi
  have hlen := (List.getElem?_eq_some_iff.mp hi).1
  have hl := hA.1
  refine ⟨hw x, Evl.cw_turn c (by omega) ?_ (fun _ => ?_)⟩
  · have e : (ys[i]?.map p).getD false = p y := by rw [hy]; rfl
    rw [e]
    exact ht i x y hi hy r
  · have e : xs[i]?.getD V.non = x := by rw [hi]; rfl
    rw [e]
    exact Evl.ev_var (hj x)
/-- over pairs that are made turn by turn (enumerate, zip) -/
theorem lcP {J : It} {n : Nat} {G : Hp → Prop} {fx fy : Nat → Option V} {g : TG} {te : TE} {t : TT} {σ : L2.St} {vs : List Nat} {H : Hp} {Q : VK} (w : Walk J n G (YPair fx fy)) (f : Nat → Bool) (v : Nat → V) (s2 : Nat → L2.St)
    (hG : ∀ H1, Same H H1 → G H1) (hn : n ≤ 40000)
    (hg : ∀ (i : Nat) x y T H1 (R : L2.St → Hp → Prop), i < n → Same H H1 → fx i = some x → fy i = some y → H1 T = some (.tup [x, y]) → R (s2 i) H1 → g (.ref T) (wipe σ vs) H1 R)
    (hw : ∀ i, i < n → wipe (s2 i) vs = wipe σ vs) (ht : ∀ i x y, i < n → fx i = some x → fy i = some y → EvT t (s2 i) H (f i)) (he : ∀ i x y, i < n → fx i = some x → fy i = some y → f i = true → Ev te (s2 i) H (v i))
    (q : ∀ D H1, H D = none → Same H H1 → H1 D = some (.lst (Evl.given n f v)) → Q (.ref D) H1) :
    ∀ D, H D = none → ∃ W : Nat → Nat → Hp → Prop, (∃ m, W 0 m (upd H D (.lst []))) ∧ ∀ i m H1, W i m H1 →
      (J.stop i H1 ∧ Q (.ref D) H1) ∨ (J.go i H1 ∧ ∃ Nx : Hp → Prop, (∀ H', Nx H' → ∃ m', m' < m ∧ W (i + 1) m' H') ∧ ∀ x H', J.yld i H1 x H' → g x (wipe σ vs) H' fun σ2 H2 => wipe σ2 vs = wipe σ vs ∧ t σ2 H2 fun b H3 =>
        if b = true then te σ2 H3 fun y H4 => ∃ acc, H4 D = some (.lst acc) ∧ acc.length < sizeLine ∧ Nx (upd H4 D (.lst (acc ++ [y]))) else Nx H3) := by
  intro D hD
  refine lc_it w (Evl.Cw H f v D) ⟨hD, Ex.new hD, upd_same⟩ (fun i H1 _ p => hG H1 p.2.1) (fun i x H1 H1' hi p y => ?_) (fun H1 p => q D H1 p.1 p.2.1 p.2.2)
  obtain ⟨T, x1, y1, rfl, hT, rfl, e1, e2⟩ := y
  have eD : upd H1 T (.tup [x1, y1]) D = some (.lst (Evl.given i f v)) := by rw [upd_ne (ne_of_none p.2.2 hT)]; exact p.2.2
  have s1 : Same H (upd H1 T (.tup [x1, y1])) := Same.trans p.2.1 (same_new hT)
  exact hg i x1 y1 T _ _ hi s1 e1 e2 upd_same ⟨hw i hi, Evl.cw_turn ⟨hD, s1, eD⟩ (by omega) (ht i x1 y1 hi e1 e2) (he i x1 y1 hi e1 e2)⟩
/-- over a walk that makes nothing, any target -/
theorem lcG {J : It} {n : Nat} {G : Hp → Prop} {Y : Nat → Hp → V → Hp → Prop} {fx : Nat → Option V} {g : TG} {te : TE} {t : TT} {σ : L2.St} {vs : List Nat} {H : Hp} {Qd : Addr → Hp → Prop} (w : Walk J n G Y) (hY : ∀ i H1 y H1', i < n → Y i H1 y H1' → H1' = H1 ∧ fx i = some y) (f : Nat → Bool) (v : Nat → V) (s2 : Nat → L2.St)
    (hG : ∀ H1, Same H H1 → G H1) (hn : n ≤ 40000)
    (hg : ∀ (i : Nat) x H1 (R : L2.St → Hp → Prop), i < n → Same H H1 → fx i = some x → R (s2 i) H1 → g x (wipe σ vs) H1 R)
    (hw : ∀ i, i < n → wipe (s2 i) vs = wipe σ vs) (ht : ∀ i x, i < n → fx i = some x → EvT t (s2 i) H (f i)) (he : ∀ i x, i < n → fx i = some x → f i = true → Ev te (s2 i) H (v i))
    (q : ∀ D H1, H D = none → Same H H1 → H1 D = some (.lst (Evl.given n f v)) → Qd D H1) :
    ∀ D, H D = none → ∃ W : Nat → Nat → Hp → Prop, (∃ m, W 0 m (upd H D (.lst []))) ∧ ∀ i m H1, W i m H1 →
      (J.stop i H1 ∧ Qd D H1) ∨ (J.go i H1 ∧ ∃ Nx : Hp → Prop, (∀ H', Nx H' → ∃ m', m' < m ∧ W (i + 1) m' H') ∧ ∀ x H', J.yld i H1 x H' → g x (wipe σ vs) H' fun σ2 H2 => wipe σ2 vs = wipe σ vs ∧ t σ2 H2 fun b H3 =>
        if b = true then te σ2 H3 fun y H4 => ∃ acc, H4 D = some (.lst acc) ∧ acc.length < sizeLine ∧ Nx (upd H4 D (.lst (acc ++ [y]))) else Nx H3) := by
  intro D hD
  refine lc_it w (Evl.Cw H f v D) ⟨hD, Ex.new hD, upd_same⟩ (fun i H1 _ p => hG H1 p.2.1) (fun i x H1 H1' hi p y => ?_) (fun H1 p => q D H1 p.1 p.2.1 p.2.2)
  obtain ⟨rfl, e1⟩ := hY i _ x H1' hi y
  exact hg i x _ _ hi p.2.1 e1 ⟨hw i hi, Evl.cw_turn p (by omega) (ht i x hi e1) (he i x hi e1)⟩
/-- (a, b) = a pair: two names -/
theorem g2 {K : PySem.W.Frag} {T : Addr} {x y : V} {i j : Nat} {σ : L2.St} {H : Hp} {Q : L2.St → Hp → Prop} (h : H T = some (.tup [x, y])) (q : Q ((σ.set i (some x)).set j (some y)) H) : gTup K 2 (gCons (gName i) (gCons (gName j) gNil)) (.ref T) σ H Q :=
  ⟨T, _, rfl, SqT.of h, rfl, x, _, rfl, y, _, rfl, rfl, q⟩
/-- k, (a, b) = a pair whose second is a pair -/
theorem g12 {K : PySem.W.Frag} {T U : Addr} {x y z : V} {i j l : Nat} {σ : L2.St} {H : Hp} {Q : L2.St → Hp → Prop} (h : H T = some (.tup [x, .ref U])) (h2 : SqT K H U [y, z]) (q : Q (((σ.set i (some x)).set j (some y)).set l (some z)) H) :
    gTup K 2 (gCons (gName i) (gCons (gTup K 2 (gCons (gName j) (gCons (gName l) gNil))) gNil)) (.ref T) σ H Q :=
  ⟨T, _, rfl, SqT.of h, rfl, x, _, rfl, .ref U, _, rfl, ⟨U, _, rfl, h2, rfl, y, _, rfl, z, _, rfl, rfl, rfl, q⟩⟩
section
variable {K : PySem.W.Frag} {D : Ends} {σ : L2.St} {H : Hp} {te : TE} {t : TA} {wi : TI} {g : TG} {tb : TS} {R : It → Hp → Prop}
theorem r_for (h : ∀ D', D' = D → wi σ H fun J H1 => ∃ W : Nat → Nat → L2.St → Hp → Prop, (∃ m, W 0 m σ H1) ∧ ∀ i m σ H, W i m σ H →
    (J.stop i H ∧ D'.nx σ H) ∨ (J.go i H ∧ ∃ N : L2.St → Hp → Prop, (∀ σ' H', N σ' H' → ∃ m', m' < m ∧ W (i + 1) m' σ' H') ∧ ∀ x H', J.yld i H x H' → g x σ H' fun σ2 H2 => tb { D' with nx := N, ct := N, bk := D'.nx } σ2 H2)) : tFor wi g tb D σ H := h D rfl
theorem r_iList (h : te σ H fun x H1 => ∃ a, x = .ref a ∧ (∃ xs, SqL K H1 a xs) ∧ R (Itl K a) H1) : iList K te σ H R := h
theorem r_iRng1 (h : t σ H fun vs H1 => ∃ j : Int, vs = [.int j] ∧ -(2 ^ 62) ≤ j ∧ j < 2 ^ 62 ∧ R (Itr 0 j.toNat) H1) : iRng1 t σ H R := h
theorem r_iRng3 (h : t σ H fun vs H1 => ∃ (i j c : Int) (n : Nat), vs = [.int i, .int j, .int c] ∧ RgC i j c n ∧ R (Itc i c n) H1) : iRng3 t σ H R := h
theorem r_iEnum (h : t σ H fun vs H1 => ∃ a xs, vs = [.ref a] ∧ SqL K H1 a xs ∧ R (Ite K a) H1) : iEnum K t σ H R := h
theorem r_iZip (h : t σ H fun vs H1 => ∃ a b xs ys, vs = [.ref a, .ref b] ∧ SqL K H1 a xs ∧ SqL K H1 b ys ∧ R (Itz K a b) H1) : iZip K t σ H R := h
end
theorem lineR {n : Nat} (h : Nat.ble n 100000 = true) : n ≤ sizeLine := line2 (Nat.le_of_ble_eq_true h)
/-! ### rules whose reading names the written part by a letter -/
section
variable {X : Cx} {K : PySem.W.Frag}
theorem ixT (h : X.K = K) : IxR X (rIxT K) := h ▸ ix_tup
theorem ixL (h : X.K = K) : IxR X (rIxL K) := h ▸ ix_list
theorem lenK (h : X.K = K) : CallR X (.builtin "len") (fun xs H Q => ∃ p ys, xs = [.ref p] ∧ (SqL K H p ys ∨ SqT K H p ys) ∧ Q (.int ys.length) H) := h ▸ call_len_seq
theorem inK (h : X.K = K) : OpR X (compareOp .In) (rIn K false) := h ▸ op_in_seq
theorem notInK (h : X.K = K) : OpR X (compareOp .NotIn) (rIn K true) := h ▸ op_notIn_seq
theorem pgT {es : List Expr} {k : Nat} {t : TGs} {n : Nat} {pos : Pos} (hK : X.K = K) (hc : X.calm = true) (h : PGs X es t)
    (hn : (assignEach es X.env).length = n := by rfl) (hst : (assignEach es X.env).findIdx? (·.1) = none := by rfl) : PG X (.Tuple es k pos) (gTup K n t) := hK ▸ pg_tup hc h hn hst
theorem fldK {e : Expr} {ta : TE} {f : Str} {pos : Pos} (hK : X.K = K) (he : PE X e ta) (hb : attributeBase e f X.env (eval e X.env) = eval e X.env) : PE X (.Attribute e f pos) (tFld K ta f) := hK ▸ pe_fld he hb
end
theorem r_len {K : PySem.W.Frag} {H : Hp} {p : Addr} {ys : List V} {Q : VK} (h : SqL K H p ys) (q : Q (.int ys.length) H) : ∃ p' ys', ([.ref p] : List V) = [.ref p'] ∧ (SqL K H p' ys' ∨ SqT K H p' ys') ∧ Q (.int ys'.length) H := ⟨p, ys, rfl, .inl h, q⟩
/-- .. the target two names -/
theorem lcP2 {K : PySem.W.Frag} {J : It} {n : Nat} {G : Hp → Prop} {fx fy : Nat → Option V} {i j : Nat} {wi : TI} {te : TE} {t : TT} {σ : L2.St} {vs : List Nat} {H : Hp} {Q : VK} (hwi : ∀ R : It → Hp → Prop, R J H → wi σ H R) (w : Walk J n G (YPair fx fy)) (f : Nat → Bool) (v : Nat → V)
    (hG : ∀ H1, Same H H1 → G H1) (hn : n ≤ 40000) (hw : ∀ a b, wipe (((wipe σ vs).set i a).set j b) vs = wipe σ vs)
    (ht : ∀ k x y, k < n → fx k = some x → fy k = some y → EvT t (((wipe σ vs).set i (some x)).set j (some y)) H (f k))
    (he : ∀ k x y, k < n → fx k = some x → fy k = some y → f k = true → Ev te (((wipe σ vs).set i (some x)).set j (some y)) H (v k))
    (q : ∀ D H1, H D = none → Same H H1 → H1 D = some (.lst (Evl.given n f v)) → Q (.ref D) H1) :
    tLc wi (gTup K 2 (gCons (gName i) (gCons (gName j) gNil))) t te vs σ H Q :=
  hwi _ (lcP w f v (fun k => ((wipe σ vs).set i (fx k)).set j (fy k)) hG hn
    (fun k x y T H1 R hk s ex ey hT r => by
      rw [ex, ey] at r
      exact g2 hT r)
    (fun k hk => hw _ _)
    (fun k x y hk ex ey => by
      show EvT t (((wipe σ vs).set i (fx k)).set j (fy k)) H (f k)
      rw [ex, ey]
      exact ht k x y hk ex ey)
    (fun k x y hk ex ey hf => by
      show Ev te (((wipe σ vs).set i (fx k)).set j (fy k)) H (v k)
      rw [ex, ey]
      exact he k x y hk ex ey hf) q)
/-- .. the target k, (a, b) -/
theorem lcP3 {K : PySem.W.Frag} {J : It} {n : Nat} {G : Hp → Prop} {fx fy : Nat → Option V} {i j l : Nat} {wi : TI} {te : TE} {t : TT} {σ : L2.St} {vs : List Nat} {H : Hp} {Q : VK} (hwi : ∀ R : It → Hp → Prop, R J H → wi σ H R) (w : Walk J n G (YPair fx fy)) (f : Nat → Bool) (v : Nat → V) (Y Z : Nat → V)
    (hG : ∀ H1, Same H H1 → G H1) (hn : n ≤ 40000) (hw : ∀ a b c, wipe ((((wipe σ vs).set i a).set j b).set l c) vs = wipe σ vs)
    (hy : ∀ k y, k < n → fy k = some y → ∃ U, y = .ref U ∧ SqT K H U [Y k, Z k])
    (ht : ∀ k x, k < n → fx k = some x → EvT t ((((wipe σ vs).set i (some x)).set j (some (Y k))).set l (some (Z k))) H (f k))
    (he : ∀ k x, k < n → fx k = some x → f k = true → Ev te ((((wipe σ vs).set i (some x)).set j (some (Y k))).set l (some (Z k))) H (v k))
    (q : ∀ D H1, H D = none → Same H H1 → H1 D = some (.lst (Evl.given n f v)) → Q (.ref D) H1) :
    tLc wi (gTup K 2 (gCons (gName i) (gCons (gTup K 2 (gCons (gName j) (gCons (gName l) gNil))) gNil))) t te vs σ H Q :=
  hwi _ (lcP w f v (fun k => (((wipe σ vs).set i (fx k)).set j (some (Y k))).set l (some (Z k))) hG hn
    (fun k x y T H1 R hk s ex ey hT r => by
      obtain ⟨U, rfl, hU⟩ := hy k y hk ey
      rw [ex] at r
      exact g12 hT (Same.sqt s hU) r)
    (fun k hk => hw _ _ _)
    (fun k x y hk ex ey => by
      show EvT t ((((wipe σ vs).set i (fx k)).set j (some (Y k))).set l (some (Z k))) H (f k)
      rw [ex]
      exact ht k x hk ex)
    (fun k x y hk ex ey hf => by
      show Ev te ((((wipe σ vs).set i (fx k)).set j (some (Y k))).set l (some (Z k))) H (v k)
      rw [ex]
      exact he k x hk ex hf) q)
theorem given_all (n : Nat) (v : Nat → V) : Evl.given n (fun _ => true) v = (List.range n).map v := by
  unfold Evl.given
  rw [List.filter_eq_self.mpr fun _ _ => rfl]
theorem r_lc {wi : TI} {g : TG} {t : TT} {te : TE} {vs : List Nat} {σ : L2.St} {H : Hp} {Q : VK} (h : wi σ H fun J H1 => ∀ D, H1 D = none → ∃ W : Nat → Nat → Hp → Prop, (∃ m, W 0 m (upd H1 D (.lst []))) ∧ ∀ i m H, W i m H →
  (J.stop i H ∧ Q (.ref D) H) ∨ (J.go i H ∧ ∃ Nx : Hp → Prop, (∀ H', Nx H' → ∃ m', m' < m ∧ W (i + 1) m' H') ∧ ∀ x H', J.yld i H x H' → g x (wipe σ vs) H' fun σ2 H2 => wipe σ2 vs = wipe σ vs ∧ t σ2 H2 fun b H3 =>
    if b = true then te σ2 H3 fun y H4 => ∃ acc, H4 D = some (.lst acc) ∧ acc.length < sizeLine ∧ Nx (upd H4 D (.lst (acc ++ [y]))) else Nx H3)) : tLc wi g t te vs σ H Q := h
/-! ### all but one list kept -/
def Kp (F : Addr) (H H' : Hp) : Prop := ∀ b o, b ≠ F → H b = some o → H' b = some o
theorem Kp.of {F : Addr} {H H' : Hp} (e : Same H H') : Kp F H H' := fun b o _ h => e b o h
theorem Kp.upd {F : Addr} {H : Hp} {o : HO} : Kp F H (upd H F o) := fun b u ne h => by rw [upd_ne ne]; exact h
theorem Kp.trans {F : Addr} {H H1 H2 : Hp} (a : Kp F H H1) (b : Kp F H1 H2) : Kp F H H2 := fun c o ne h => b c o ne (a c o ne h)
theorem Kp.same {F : Addr} {H H1 H2 : Hp} (a : Same H H1) (b : Kp F H1 H2) (n : H F = none) : Same H H2 := fun c o h => b c o (ne_of_none h n) (a c o h)
/-- a list of numbers at a place of which P holds -/
def LstR (P : Addr → Prop) (H : Hp) (x : V) (cs : List Nat) : Prop := ∃ p, x = .ref p ∧ P p ∧ H p = some (.lst (cs.map nv))
theorem LstR.mono {P : Addr → Prop} {H H' : Hp} {x : V} {cs : List Nat} (e : Same H H') (h : LstR P H x cs) : LstR P H' x cs := let ⟨p, a, b, c⟩ := h; ⟨p, a, b, e _ _ c⟩
theorem LstR.imp {P P' : Addr → Prop} {H : Hp} {x : V} {cs : List Nat} (e : ∀ p, P p → P' p) (h : LstR P H x cs) : LstR P' H x cs := let ⟨p, a, b, c⟩ := h; ⟨p, a, e p b, c⟩
theorem LstR.kp {P : Addr → Prop} {F : Addr} {H H' : Hp} {x : V} {cs : List Nat} (e : Kp F H H') (n : ∀ p, P p → p ≠ F) (h : LstR P H x cs) : LstR P H' x cs := let ⟨p, a, b, c⟩ := h; ⟨p, a, b, e _ _ (n p b) c⟩
theorem All2.map {A B C : Type} {R : A → C → Prop} {f : B → C} {xs : List A} {ys : List B} (h : All2 (fun x y => R x (f y)) xs ys) : All2 R xs (ys.map f) := by
  refine ⟨by rw [List.length_map]; exact h.1, fun i x y a b => ?_⟩
  rw [List.getElem?_map] at b
  cases e : ys[i]? with
  | none => rw [e] at b; cases b
  | some z => rw [e] at b; cases b; exact h.2 i x z a e
theorem All2.unmap {A B C : Type} {R : A → C → Prop} {f : B → C} {xs : List A} {ys : List B} (h : All2 R xs (ys.map f)) : All2 (fun x y => R x (f y)) xs ys := by
  refine ⟨by rw [h.1, List.length_map], fun i x y a b => h.2 i x (f y) a ?_⟩
  rw [List.getElem?_map, b]
  rfl
/-- new lists, turn by turn -/
theorem lcNew {J : It} {n : Nat} {G : Hp → Prop} {Y : Nat → Hp → V → Hp → Prop} {x : Nat → V} {j : Nat} {wi : TI} {te : TE} {σ : L2.St} {vs : List Nat} {H : Hp} {Q : VK} (hwi : ∀ R : It → Hp → Prop, R J H → wi σ H R) (w : Walk J n G Y) (hY : ∀ i H1 y H1', i < n → Y i H1 y H1' → H1' = H1 ∧ y = x i) (c : Nat → List V)
    (hG : ∀ H1, Same H H1 → G H1) (hn : n ≤ 40000) (hw : ∀ y, wipe ((wipe σ vs).set j (some y)) vs = wipe σ vs) (he : ∀ i, i < n → EvL te ((wipe σ vs).set j (some (x i))) H (c i))
    (q : ∀ D H1 xs, H D = none → Same H H1 → H1 D = some (.lst xs) → All2 (fun y cs => ∃ p, y = .ref p ∧ H p = none ∧ p ≠ D ∧ H1 p = some (.lst cs)) xs ((List.range n).map c) → Q (.ref D) H1) :
    tLc wi (gName j) tYes te vs σ H Q := by
  refine hwi _ fun D hD => ?_
  refine lc_it w (fun i H1 => Same H H1 ∧ ∃ xs, H1 D = some (.lst xs) ∧ All2 (fun y cs => ∃ p, y = .ref p ∧ H p = none ∧ p ≠ D ∧ H1 p = some (.lst cs)) xs ((List.range i).map c)) ⟨same_new hD, [], upd_same, .nil⟩ (fun i H1 _ p => hG H1 p.1) (fun i y H1 H1' hi p hy => ?_) (fun H1 p => ?_)
  · obtain ⟨rfl, rfl⟩ := hY i _ y H1' hi hy
    obtain ⟨s1, xs, hx, hA⟩ := p
    refine ⟨hw _, he i hi _ s1 _ fun p H2 hp e2 hp2 => ⟨xs, e2 _ _ hx, ?_, ?_⟩⟩
    · refine line1 ?_
      rw [hA.1, List.length_map, List.length_range]
      omega
    · have nep : p ≠ D := fun z => by rw [z, hx] at hp; cases hp
      refine ⟨same_mut (s1.trans e2) hD, _, upd_same, ?_⟩
      rw [List.range_succ, List.map_append]
      refine All2.snoc (hA.mono ?_) ⟨p, rfl, s1.free hp, nep, by rw [upd_ne nep]; exact hp2⟩
      rintro y cs ⟨p', rfl, h1, h2, h3⟩
      exact ⟨p', rfl, h1, h2, by rw [upd_ne h2]; exact e2 _ _ h3⟩
  · obtain ⟨s1, xs, hx, hA⟩ := p
    exact q D H1 xs hD s1 hx hA
/-- xs + [e] -/
theorem el_cat1 {σ : L2.St} {H : Hp} {i : Nat} {p : Addr} {xs : List V} {te : TE} {v : V} (e : σ[i]? = some (some (.ref p))) (hp : H p = some (.lst xs)) (hl : xs.length ≤ 90000) (hv : Ev te σ H v) : EvL (tOp rCat (tVar i) (tLst (tCons te tNil))) σ H (xs ++ [v]) := by
  intro H1 e1 Q q
  refine ⟨_, e, hv H1 e1 _ fun H2 e2 => ⟨lineR rfl, fun b hb => ?_⟩⟩
  have hpb : H2 p = some (.lst xs) := e2 _ _ (e1 _ _ hp)
  refine ⟨p, b, xs, [v], rfl, rfl, by rw [upd_ne (ne_of_none hpb hb)]; exact hpb, upd_same, line2 (by simp only [List.length_cons, List.length_nil]; omega), fun c hc => ?_⟩
  have hb1 : H1 b = none := Same.free e2 hb
  have hc2 : H2 c = none := by
    cases z : H2 c with
    | none => rfl
    | some o =>
      rw [upd_ne (ne_of_none z hb)] at hc
      rw [z] at hc
      cases hc
  exact q c _ (Same.free e2 hc2) (Same.trans e2 (Same.trans (same_new hb) (same_new hc))) upd_same
theorem r_dget {td ty : TE} {σ : L2.St} {H : Hp} {Q : VK} (h : td σ H fun x H1 => ty σ H1 fun y H2 => ∃ a v, x = .ref a ∧ DGet H2 a y (some v) ∧ Q v H2) : tDGet td ty σ H Q := h
theorem r_dget2 {td ty tx : TE} {σ : L2.St} {H : Hp} {Q : VK} (h : td σ H fun x H1 => ∃ a, x = .ref a ∧ IsD H1 a ∧ ty σ H1 fun y H2 => tx σ H2 fun z H3 => ∃ o, DGet H3 a y o ∧ Q (o.getD z) H3) : tDGet2 td ty tx σ H Q := h
theorem r_dput {td ty tv : TE} {D : Ends} {σ : L2.St} {H : Hp} (h : tv σ H fun v H1 => td σ H1 fun x H2 => ty σ H2 fun y H3 => ∃ a H4, x = .ref a ∧ DPut H3 a y v H4 ∧ D.nx σ H4) : sDPut td ty tv D σ H := h
theorem at_last {xs : List V} {x : V} (h : xs.getLast? = some x) : atI xs (-1) = some x := by
  have e : xs = xs.dropLast ++ [x] := by
    cases xs with
    | nil => cases h
    | cons y r =>
      rw [List.getLast?_eq_some_getLast (by simp)] at h
      rw [← Option.some.inj h]
      exact (List.dropLast_concat_getLast (by simp)).symm
  rw [e]
  exact atI_last _ _
theorem All2.last {A B : Type} {R : A → B → Prop} {xs : List A} {ys : List B} (h : All2 R xs ys) : (xs.getLast? = none ∧ ys.getLast? = none ∧ xs = []) ∨ ∃ x y, xs.getLast? = some x ∧ ys.getLast? = some y ∧ R x y ∧ xs ≠ [] := by
  rw [List.getLast?_eq_getElem?, List.getLast?_eq_getElem?, ← h.1]
  cases e : xs[xs.length - 1]? with
  | none =>
    have hl := List.getElem?_eq_none_iff.mp e
    have h0 : xs.length = 0 := by omega
    have : xs = [] := List.length_eq_zero_iff.mp h0
    subst this
    have : ys = [] := List.length_eq_zero_iff.mp h.1.symm
    subst this
    exact .inl ⟨rfl, rfl, rfl⟩
  | some x =>
    obtain ⟨y, hy, r⟩ := h.get e
    exact .inr ⟨x, y, rfl, hy, r, fun z => by rw [z] at e; cases e⟩
theorem r_bm {K : PySem.W.Frag} {T : String} {r : V → List V → Hp → VK → Prop} {to : TE} {t : TA} {σ : L2.St} {H : Hp} {Q : VK} (h : to σ H fun x H1 => tyV K T x H1 ∧ t σ H1 fun xs H2 => r x xs H2 Q) : tBM K T r to t σ H Q := h
theorem ty_list {K : PySem.W.Frag} {H : Hp} {p : Addr} {xs : List V} (h : H p = some (.lst xs)) : tyV K "list" (.ref p) H := .inl ⟨rfl, _, SqL.of h⟩
/-! ### own rules: == and != with an empty list, max of three -/
section
variable {X : Cx} {K : PySem.W.Frag}
def rEqE (K : PySem.W.Frag) (neg : Bool) : R2 := fun x y H Q => ∃ a b xs, x = .ref a ∧ y = .ref b ∧ SqL K H a xs ∧ SqL K H b [] ∧ Q (.bl (if neg then !xs.isEmpty else xs.isEmpty)) H
theorem op_eqE (hK : X.K = K) (hu : X.A.units < cLine) : OpR X (compareOp .Eq) (rEqE K false) := by
  subst hK
  intro pins s σ H x y v u Q I rx ry h
  obtain ⟨a, b, xs, rfl, rfl, ha, hb, q⟩ := h
  cases rx
  cases ry
  obtain ⟨its, r1, p1, _⟩ := I.list ha
  obtain ⟨its2, r2, p2, _⟩ := I.list hb
  cases r2
  cases r1 with
  | nil => exact SeqAt.eq_listAt (e := fun _ => true) p1.isList p2.isList rfl hu (fun j h1 _ => absurd h1 (by simp)) ⟨.bl true, H, I, rfl, q⟩
  | cons r rr => exact SeqAt.eq_list_lengthsAt p1.isList p2.isList (by simp) hu ⟨.bl false, H, I, rfl, q⟩
theorem op_neE (hK : X.K = K) (hu : X.A.units < cLine) : OpR X (compareOp .NotEq) (rEqE K true) := by
  subst hK
  intro pins s σ H x y v u Q I rx ry h
  obtain ⟨a, b, xs, rfl, rfl, ha, hb, q⟩ := h
  cases rx
  cases ry
  obtain ⟨its, r1, p1, _⟩ := I.list ha
  obtain ⟨its2, r2, p2, _⟩ := I.list hb
  cases r2
  cases r1 with
  | nil => exact SeqAt.RcNeAt.lists (e := fun _ => true) p1.isList p2.isList rfl hu (fun j h1 _ => absurd h1 (by simp)) _ _ _ _ ⟨.bl false, H, I, rfl, q⟩
  | cons r rr => exact SeqAt.RcNeAt.lists_lengths p1.isList p2.isList (by simp) hu _ _ _ _ ⟨.bl true, H, I, rfl, q⟩
def max3 (a b c : Int) : Int := if b > a then (if c > b then c else b) else (if c > a then c else a)
theorem call_max3 (hc : X.calm = true) : CallR X (.builtin "max") (fun xs H Q => ∃ i j k, xs = [.int i, .int j, .int k] ∧ Q (.int (max3 i j k)) H) := by
  intro pins s σ H xs us Q I r h
  obtain ⟨i, j, k, rfl, q⟩ := h
  cases r with
  | cons r1 rr =>
    cases rr with
    | cons r2 rr =>
      cases rr with
      | cons r3 rr =>
        cases rr
        obtain ⟨t1, rfl⟩ := r1
        obtain ⟨t2, rfl⟩ := r2
        obtain ⟨t3, rfl⟩ := r3
        refine max_three_ints (I.ok.hd hc) fun h' tk hk => ⟨_, H, I.kept hk, ?_, q⟩
        unfold max3
        split <;> split <;> exact ⟨_, rfl⟩
theorem notInD (hK : X.K = K) (hu : X.A.units + 65 < cLine) : OpR X (compareOp .NotIn) (rNotInD K) := hK ▸ op_notInD hu
theorem slA (hK : X.K = K) : SlR X (rSlA K) := hK ▸ sl_tupA
theorem catA (hK : X.K = K) : OpR X (binaryOp .Add) (rCatA K) := hK ▸ op_catA
end
/-! ### a state -/
structure Ls where
  nodes : Addr
  library : Addr
  choices : Addr
  changes : Addr
  conflicts : Addr
  needs : Addr
  spares : Addr
def stF (d : Design) (l : Ls) (asg : Nat) : List (Str × V) := [("driver", nv d.driver), ("budget", nv d.budget), ("nodes", .ref l.nodes), ("library", .ref l.library), ("choices", .ref l.choices), ("violations", nv d.repairs.violations), ("changes", .ref l.changes), ("conflicts", .ref l.conflicts), ("applied", nv d.repairs.applied), ("needs", .ref l.needs), ("spares", .ref l.spares), ("assigned", nv asg)]
structure StAt (K : PySem.W.Frag) (Z : Cs) (H : Hp) (a : Addr) (d : Design) (l : Ls) (asg : Nat) : Prop where
  obj : ∃ dx, H a = some (.ins Z.CS dx (stF d l asg))
  nodes : TabA K H l.nodes nodeRow d.nodes
  library : TabA K H l.library bufRow d.library
  choices : H l.choices = some (.lst (d.choices.map nv))
  changes : TabA K H l.changes chRow d.repairs.changes
  conflicts : TabA K H l.conflicts cfRow d.repairs.conflicts
  needs : TabA K H l.needs spRow d.needs
  spares : TabA K H l.spares spRow d.spares
theorem StAt.mono {K : PySem.W.Frag} {Z : Cs} {H H' : Hp} {a : Addr} {d : Design} {l : Ls} {asg : Nat} (S : StAt K Z H a d l asg) (e : Same H H') : StAt K Z H' a d l asg :=
  ⟨let ⟨dx, h⟩ := S.obj; ⟨dx, e _ _ h⟩, S.nodes.mono e, S.library.mono e, e _ _ S.choices, S.changes.mono e, S.conflicts.mono e, S.needs.mono e, S.spares.mono e⟩
def fldG (K : PySem.W.Frag) (f : Str) (x : V) (H : Hp) (Q : VK) : Prop := ∃ a C dx fs v, x = .ref a ∧ H a = some (.ins C dx fs) ∧ Cls K C ∧ NoAttr K C f ∧ fs.lookup f = some v ∧ Q v H
theorem r_fld {K : PySem.W.Frag} {te : TE} {f : Str} {σ : L2.St} {H : Hp} {Q : VK} (h : te σ H fun x H1 => fldG K f x H1 Q) : tFld K te f σ H Q := h
section
variable {K : PySem.W.Frag} {mg : Str → Option Value} {Z : Cs} {H : Hp} {a : Addr} {d : Design} {l : Ls} {asg : Nat} {Q : VK}
theorem fS_driver (T : TX K mg Z) (S : StAt K Z H a d l asg) (q : Q (nv d.driver) H) : fldG K "driver" (.ref a) H Q := let ⟨dx, h⟩ := S.obj; ⟨a, Z.CS, dx, _, _, rfl, h, T.clS, T.nS_driver, by rfl, q⟩
theorem fS_budget (T : TX K mg Z) (S : StAt K Z H a d l asg) (q : Q (nv d.budget) H) : fldG K "budget" (.ref a) H Q := let ⟨dx, h⟩ := S.obj; ⟨a, Z.CS, dx, _, _, rfl, h, T.clS, T.nS_budget, by rfl, q⟩
theorem fS_nodes (T : TX K mg Z) (S : StAt K Z H a d l asg) (q : Q (.ref l.nodes) H) : fldG K "nodes" (.ref a) H Q := let ⟨dx, h⟩ := S.obj; ⟨a, Z.CS, dx, _, _, rfl, h, T.clS, T.nS_nodes, by rfl, q⟩
theorem fS_library (T : TX K mg Z) (S : StAt K Z H a d l asg) (q : Q (.ref l.library) H) : fldG K "library" (.ref a) H Q := let ⟨dx, h⟩ := S.obj; ⟨a, Z.CS, dx, _, _, rfl, h, T.clS, T.nS_library, by rfl, q⟩
theorem fS_choices (T : TX K mg Z) (S : StAt K Z H a d l asg) (q : Q (.ref l.choices) H) : fldG K "choices" (.ref a) H Q := let ⟨dx, h⟩ := S.obj; ⟨a, Z.CS, dx, _, _, rfl, h, T.clS, T.nS_choices, by rfl, q⟩
theorem fS_violations (T : TX K mg Z) (S : StAt K Z H a d l asg) (q : Q (nv d.repairs.violations) H) : fldG K "violations" (.ref a) H Q := let ⟨dx, h⟩ := S.obj; ⟨a, Z.CS, dx, _, _, rfl, h, T.clS, T.nS_violations, by rfl, q⟩
theorem fS_changes (T : TX K mg Z) (S : StAt K Z H a d l asg) (q : Q (.ref l.changes) H) : fldG K "changes" (.ref a) H Q := let ⟨dx, h⟩ := S.obj; ⟨a, Z.CS, dx, _, _, rfl, h, T.clS, T.nS_changes, by rfl, q⟩
theorem fS_conflicts (T : TX K mg Z) (S : StAt K Z H a d l asg) (q : Q (.ref l.conflicts) H) : fldG K "conflicts" (.ref a) H Q := let ⟨dx, h⟩ := S.obj; ⟨a, Z.CS, dx, _, _, rfl, h, T.clS, T.nS_conflicts, by rfl, q⟩
theorem fS_applied (T : TX K mg Z) (S : StAt K Z H a d l asg) (q : Q (nv d.repairs.applied) H) : fldG K "applied" (.ref a) H Q := let ⟨dx, h⟩ := S.obj; ⟨a, Z.CS, dx, _, _, rfl, h, T.clS, T.nS_applied, by rfl, q⟩
theorem fS_needs (T : TX K mg Z) (S : StAt K Z H a d l asg) (q : Q (.ref l.needs) H) : fldG K "needs" (.ref a) H Q := let ⟨dx, h⟩ := S.obj; ⟨a, Z.CS, dx, _, _, rfl, h, T.clS, T.nS_needs, by rfl, q⟩
theorem fS_spares (T : TX K mg Z) (S : StAt K Z H a d l asg) (q : Q (.ref l.spares) H) : fldG K "spares" (.ref a) H Q := let ⟨dx, h⟩ := S.obj; ⟨a, Z.CS, dx, _, _, rfl, h, T.clS, T.nS_spares, by rfl, q⟩
theorem fS_assigned (T : TX K mg Z) (S : StAt K Z H a d l asg) (q : Q (nv asg) H) : fldG K "assigned" (.ref a) H Q := let ⟨dx, h⟩ := S.obj; ⟨a, Z.CS, dx, _, _, rfl, h, T.clS, T.nS_assigned, by rfl, q⟩
end

section
variable {K : PySem.W.Frag} {D : Ends} {σ : L2.St} {H : Hp} {te : TE} {Q : VK} {a : Addr} {xs ys : List V}
theorem r_sl {r : V → Option Int → Option Int → Hp → VK → Prop} {tl th : TO} (h : te σ H fun x H1 => tl σ H1 fun l H2 => th σ H2 fun u H3 => r x l u H3 Q) : tSl r te tl th σ H Q := h
theorem r_oN {Q : Option Int → Hp → Prop} (h : Q none H) : tNoPart σ H Q := h
def partG (x : V) (R : Option Int → Prop) : Prop := ∃ i, x = .int i ∧ R (some i)
theorem r_oS {Q : Option Int → Hp → Prop} (h : te σ H fun x H' => partG x fun o => Q o H') : tPart te σ H Q := h
theorem r_oi {i : Int} {R : Option Int → Prop} (h : R (some i)) : partG (.int i) R := ⟨i, rfl, h⟩
theorem r_slT {lo hi : Option Int} (hx : SqT K H a xs) (hn : ¬ (HT.sIx xs.length 0 lo = 0 ∧ HT.sIx xs.length xs.length hi = xs.length)) (e : cutV xs lo hi = ys) (h : ∀ p, H p = none → Q (.ref p) (upd H p (.tup ys))) : rSlA K (.ref a) lo hi H Q :=
  ⟨a, xs, rfl, hx, fun z => absurd z hn, fun _ => by rw [e]; exact h⟩
theorem r_slL {lo hi : Option Int} (hx : SqL K H a xs) (e : cutV xs lo hi = ys) (h : ∀ p, H p = none → Q (.ref p) (upd H p (.lst ys))) : rSlL K (.ref a) lo hi H Q :=
  ⟨a, xs, rfl, hx, by rw [e]; exact h⟩
theorem r_catT {b : Addr} (hx : SqT K H a xs) (hy : SqT K H b ys) (h1 : xs ≠ []) (h2 : ys ≠ []) (hl : xs.length + ys.length ≤ sizeLine) (h : ∀ p, H p = none → Q (.ref p) (upd H p (.tup (xs ++ ys)))) : rCatA K (.ref a) (.ref b) H Q :=
  ⟨a, b, xs, ys, rfl, rfl, hx, hy, hl, fun z => absurd z h1, fun _ z => absurd z h2, fun _ _ => h⟩
/-- for over the pairs of enumerate -/
theorem for_enum {g : TG} {tb : TS} (Pv : Nat → L2.St → Hp → Prop) (h0 : Pv 0 σ H) (hl : ∀ i σ H, i ≤ xs.length → Pv i σ H → SqL K H a xs)
    (hs : ∀ i x σ H T, xs[i]? = some x → Pv i σ H → H T = none → g (.ref T) σ (upd H T (.tup [.int (i : Nat), x])) fun σ2 H2 => tb { D with nx := Pv (i + 1), ct := Pv (i + 1), bk := D.nx } σ2 H2) (hd : ∀ σ H, Pv xs.length σ H → D.nx σ H) :
    ∃ W : Nat → Nat → L2.St → Hp → Prop, (∃ m, W 0 m σ H) ∧ ∀ i m σ H, W i m σ H →
      ((Ite K a).stop i H ∧ D.nx σ H) ∨ ((Ite K a).go i H ∧ ∃ N : L2.St → Hp → Prop, (∀ σ' H', N σ' H' → ∃ m', m' < m ∧ W (i + 1) m' σ' H') ∧ ∀ x H', (Ite K a).yld i H x H' → g x σ H' fun σ2 H2 => tb { D with nx := N, ct := N, bk := D.nx } σ2 H2) := by
  refine for_it walk_enum Pv h0 hl (fun i v σ1 H1 H1' hi p y => ?_) hd
  obtain ⟨T, x, y, rfl, hT, rfl, ex, ey⟩ := y
  cases ex
  exact hs i y σ1 H1 T ey p hT
/-- for over the pairs of zip, lists of one length -/
theorem for_zip {b : Addr} {g : TG} {tb : TS} (hn : xs.length = ys.length) (Pv : Nat → L2.St → Hp → Prop) (h0 : Pv 0 σ H) (hl : ∀ i σ H, i ≤ xs.length → Pv i σ H → SqL K H a xs ∧ SqL K H b ys)
    (hs : ∀ i x y σ H T, xs[i]? = some x → ys[i]? = some y → Pv i σ H → H T = none → g (.ref T) σ (upd H T (.tup [x, y])) fun σ2 H2 => tb { D with nx := Pv (i + 1), ct := Pv (i + 1), bk := D.nx } σ2 H2) (hd : ∀ σ H, Pv xs.length σ H → D.nx σ H) :
    ∃ W : Nat → Nat → L2.St → Hp → Prop, (∃ m, W 0 m σ H) ∧ ∀ i m σ H, W i m σ H →
      ((Itz K a b).stop i H ∧ D.nx σ H) ∨ ((Itz K a b).go i H ∧ ∃ N : L2.St → Hp → Prop, (∀ σ' H', N σ' H' → ∃ m', m' < m ∧ W (i + 1) m' σ' H') ∧ ∀ x H', (Itz K a b).yld i H x H' → g x σ H' fun σ2 H2 => tb { D with nx := N, ct := N, bk := D.nx } σ2 H2) := by
  refine for_it (walk_zip (n := xs.length) (by rw [← hn, Nat.min_self])) Pv h0 hl (fun i v σ1 H1 H1' hi p y => ?_) hd
  obtain ⟨T, x, y, rfl, hT, rfl, ex, ey⟩ := y
  exact hs i x y σ1 H1 T ex ey p hT
end
theorem Row.upd {K : PySem.W.Frag} {H : Hp} {F : Addr} {ys zs : List V} {x : V} {r : List Int} (hF : H F = some (.lst ys)) (h : Row K H x r) : Row K (upd H F (.lst zs)) x r := by
  obtain ⟨p, a, b⟩ := h
  refine ⟨p, a, ?_⟩
  rcases b with (b | ⟨o, b⟩) | b
  · exact .inl (.inl (by rw [upd_ne (fun z => by rw [z, hF] at b; cases b)]; exact b))
  · exact .inl (.inr ⟨o, by rw [upd_ne (fun z => by rw [z, hF] at b; cases b)]; exact b⟩)
  · exact .inr b
theorem TabA.of {B : Type} {K : PySem.W.Frag} {H : Hp} {a : Addr} {f : B → List Int} {xs : List V} {ys : List B} (h : H a = some (.lst xs)) (hA : All2 (fun x y => Row K H x (f y)) xs ys) : TabA K H a f ys := ⟨xs, h, hA⟩
/-! ### methods and classes -/
structure Met (P : Program) (w : World) (K : PySem.W.Frag) (mg : Str → Option Value) (base : Heap) (CX : CXT) (C : Addr) (k : Nat) (m : Str) (ps : List Str) (sp : Sp) : Prop where
  ex : ∃ f fd, Meth K C m f ∧ Binds K fd ps [] ∧ FnOk P w K mg base CX k f fd ps sp
structure Mak (P : Program) (w : World) (K : PySem.W.Frag) (mg : Str → Option Value) (base : Heap) (CX : CXT) (C : Addr) (k : Nat) (ps : List Str) (sp : Sp) : Prop where
  ex : ∃ f fd, Mk K C f ∧ Binds K fd ps [] ∧ FnOk P w K mg base CX k f fd ps sp
def tMetS (C : Addr) (m : Str) (sp : Sp) (W : WX) (ta : TE) (t : TA) : TE := fun σ H Q => ta σ H fun x H1 => ∃ a dx fs, x = .ref a ∧ H1 a = some (.ins C dx fs) ∧ fs.lookup m = none ∧ t σ H1 fun vs H2 => sp (x :: vs) H2 Q (WE W σ)
section
variable {X : Cx} {CX : CXT} {k : Nat} {C : Addr} {m x : Str} {ps : List Str} {sp : Sp} {o e : Expr} {es : List Expr} {ta : TE} {t : TA} {p apos pos : Pos}
theorem pe_m {pl : Sem Bool} (M : Met X.prog X.w X.K X.mg X.base CX0 C k m ps sp) (hr : Room k X.A) (c : Cls X.K C) (he : PE X o ta) (ha : PA X (e :: es) t)
    (hst : starEach (e :: es) X.env = (false, eval e X.env) :: starEach es X.env := by rfl) (hpl : (backTo pos (starEach es X.env)).any (·.1) = false := by rfl)
    (ht : eval (.Call (.Attribute o m apos) (e :: es) [] pos) X.env = (do
      let w ← eval o X.env
      standAt apos.atName
      let (g, fst) ← holding [w] (getMethod w m pl)
      callWith pos g fst (backTo pos (starEach (e :: es) X.env)) (backToKw pos (keywordEach [] X.env))) := by rfl) :
    PE X (.Call (.Attribute o m apos) (e :: es) [] pos) (tMeth C m sp [] E0 ta t) := by
  obtain ⟨f, fd, hm, b, F⟩ := M.ex
  exact pe_meth he c hm F hr b .nil pass0 ha hst hpl ht
theorem pe_m0 {pl : Sem Bool} (M : Met X.prog X.w X.K X.mg X.base CX0 C k m ps sp) (hr : Room k X.A) (c : Cls X.K C) (he : PE X o ta)
    (ht : eval (.Call (.Attribute o m apos) [] [] pos) X.env = (do
      let w ← eval o X.env
      standAt apos.atName
      let (g, fst) ← holding [w] (getMethod w m pl)
      callWith pos g fst (backTo pos (starEach [] X.env)) (backToKw pos (keywordEach [] X.env))) := by rfl) :
    PE X (.Call (.Attribute o m apos) [] [] pos) (tMeth C m sp [] E0 ta tNil) := by
  obtain ⟨f, fd, hm, b, F⟩ := M.ex
  exact pe_meth0 he c hm F hr b .nil pass0 ht
theorem pe_mS {W : WX} {pl : Sem Bool} (M : Met X.prog X.w X.K X.mg X.base (L2.CX X.prog X.w) C k m ps sp) (tk : Takes X W) (hr : Room k X.A) (c : Cls X.K C) (he : PE X o ta) (ha : PA X (e :: es) t)
    (hst : starEach (e :: es) X.env = (false, eval e X.env) :: starEach es X.env := by rfl) (hpl : (backTo pos (starEach es X.env)).any (·.1) = false := by rfl)
    (ht : eval (.Call (.Attribute o m apos) (e :: es) [] pos) X.env = (do
      let w ← eval o X.env
      standAt apos.atName
      let (g, fst) ← holding [w] (getMethod w m pl)
      callWith pos g fst (backTo pos (starEach (e :: es) X.env)) (backToKw pos (keywordEach [] X.env))) := by rfl) :
    PE X (.Call (.Attribute o m apos) (e :: es) [] pos) (tMetS C m sp W ta t) := by
  obtain ⟨f, fd, hm, b, F⟩ := M.ex
  refine ⟨fun pins s σ H Q I h => PySem.W.methodCall_KW (pl := pl) (thn (he.run pins s σ H _ I h) fun u s1 ⟨x, H1, J, rx, a, dx, fs, ex, ea, l, q⟩ => ?_) ht⟩
  subst ex
  obtain rfl : u = Value.ref a := rx
  refine getmeth_ok J ea c hm l (PySem.W.callWith_K (first := [.ref a]) (h₀ := X.base) I.ok.mod.kin hm.kp (thn (ha.run pos pins s1 σ H1 _ J q) fun us s2 ⟨vs, H2, J2, r, q2⟩ => ⟨J2.kIn, ?_⟩) hst hpl)
  exact run_fnS (E := WE W) (us := .ref a :: us) (vs := .ref a :: vs) F hr b (passAt tk σ) J2 (.cons rfl r) q2
theorem pe_mS0 {W : WX} {pl : Sem Bool} (M : Met X.prog X.w X.K X.mg X.base (L2.CX X.prog X.w) C k m ps sp) (tk : Takes X W) (hr : Room k X.A) (c : Cls X.K C) (he : PE X o ta)
    (ht : eval (.Call (.Attribute o m apos) [] [] pos) X.env = (do
      let w ← eval o X.env
      standAt apos.atName
      let (g, fst) ← holding [w] (getMethod w m pl)
      callWith pos g fst (backTo pos (starEach [] X.env)) (backToKw pos (keywordEach [] X.env))) := by rfl) :
    PE X (.Call (.Attribute o m apos) [] [] pos) (tMetS C m sp W ta tNil) := by
  obtain ⟨f, fd, hm, b, F⟩ := M.ex
  refine ⟨fun pins s σ H Q I h => PySem.W.methodCall_KW (pl := pl) (thn (he.run pins s σ H _ I h) fun u s1 ⟨x, H1, J, rx, a, dx, fs, ex, ea, l, q⟩ => ?_) ht⟩
  subst ex
  obtain rfl : u = Value.ref a := rx
  exact getmeth_ok J ea c hm l (PySem.W.callWith_K0 (first := [.ref a]) J.kIn hm.kp (run_fnS (E := WE W) (us := [.ref a]) (vs := [.ref a]) F hr b (passAt tk σ) J (.cons rfl .nil) q))
theorem pe_k (M : Mak X.prog X.w X.K X.mg X.base CX0 C k ps sp) (hr : Room (k + 1) X.A) (hg : Gl X x) (hm : X.mg x = some (.ref C)) (ha : PA X (e :: es) t) (hdb : (x == ("__debug__" : Str)) = false := by decide)
    (he : starEach (e :: es) X.env = (false, eval e X.env) :: starEach es X.env := by rfl) (hpl : (backTo pos (starEach es X.env)).any (·.1) = false := by rfl) : PE X (.Call (.Name x p) (e :: es) [] pos) (tMake C sp [] E0 t) := by
  obtain ⟨f, fd, mk, b, F⟩ := M.ex
  exact pe_make mk F hr hg hm b .nil pass0 ha hdb he hpl
theorem pe_k0 (M : Mak X.prog X.w X.K X.mg X.base CX0 C k ps sp) (hr : Room (k + 1) X.A) (hg : Gl X x) (hm : X.mg x = some (.ref C)) (hdb : (x == ("__debug__" : Str)) = false := by decide) : PE X (.Call (.Name x p) [] [] pos) (tMake C sp [] E0 tNil) := by
  obtain ⟨f, fd, mk, b, F⟩ := M.ex
  exact pe_make0 mk F hr hg hm b .nil pass0 hdb
end
section
variable {D : Ends} {σ : L2.St} {H : Hp} {ta : TE} {t : TA} {Q : VK} {C : Addr} {m : Str} {sp : Sp} {E : XK} {W : WX}
/-- the receiver is an instance of C whose own fields have no m -/
def recG (C : Addr) (m : Str) (x : V) (H : Hp) (R : Prop) : Prop := ∃ a dx fs, x = .ref a ∧ H a = some (.ins C dx fs) ∧ fs.lookup m = none ∧ R
theorem r_meth (h : ta σ H fun x H1 => recG C m x H1 (t σ H1 fun vs H2 => sp (x :: vs) H2 Q E)) : tMeth C m sp [] E ta t σ H Q := by
  unfold tMeth
  simp only [List.append_nil]
  exact h
theorem r_metS (h : ta σ H fun x H1 => recG C m x H1 (t σ H1 fun vs H2 => sp (x :: vs) H2 Q (WE W σ))) : tMetS C m sp W ta t σ H Q := h
theorem r_make (h : t σ H fun vs H1 => ∀ x dx, H1 x = none → H1 dx = none → dx ≠ x → sp (.ref x :: vs) (upd (upd H1 dx (.own x)) x (.ins C dx [])) (fun v H2 => v = .non ∧ Q (.ref x) H2) E) : tMake C sp [] E t σ H Q := by
  unfold tMake
  simp only [List.append_nil]
  exact h
theorem r_rec {a dx : Addr} {fs : List (Str × V)} {R : Prop} (ea : H a = some (.ins C dx fs)) (l : fs.lookup m = none) (h : R) : recG C m (.ref a) H R := ⟨a, dx, fs, rfl, ea, l, h⟩
end
/-! ### values of tests, fields that are put -/
section
variable {D : Ends} {K : PySem.W.Frag} {σ : L2.St} {H : Hp} {ta tb tc tv : TE} {Q : VK}
def boolG (x : V) (R : Bool → Prop) : Prop := ∃ c, x = .bl c ∧ R c
theorem r_bool {c : Bool} {R : Bool → Prop} (h : R c) : boolG (.bl c) R := ⟨c, rfl, h⟩
theorem r_andV (h : ta σ H fun x H1 => boolG x fun c => if c = true then tb σ H1 Q else Q (.bl false) H1) : tAndV ta tb σ H Q := h
theorem r_orV (h : ta σ H fun x H1 => boolG x fun c => if c = true then Q (.bl true) H1 else tb σ H1 Q) : tOrV ta tb σ H Q := h
theorem r_notV (h : ta σ H fun x H1 => boolG x fun c => Q (.bl (!c)) H1) : tNotV ta σ H Q := h
theorem r_chain {r r' : R2} (h : ta σ H fun x H1 => tb σ H1 fun y H2 => r x y H2 fun z H3 => boolG z fun k => if k = true then tc σ H3 fun w H4 => r' y w H4 Q else Q (.bl false) H3) : tChain r r' ta tb tc σ H Q := h
def fsetG (K : PySem.W.Frag) (f : Str) (x y : V) (H : Hp) (R : Hp → Prop) : Prop := ∃ a C dx fs, x = .ref a ∧ H a = some (.ins C dx fs) ∧ Cls K C ∧ NoAttr K C f ∧ fs.length < 1000 ∧ R (upd H a (.ins C dx (putF f y fs)))
theorem r_fset {f : Str} (h : tv σ H fun y H1 => ta σ H1 fun x H2 => fsetG K f x y H2 fun H3 => D.nx σ H3) : sFld K ta tv f D σ H := h
theorem r_fput {a C dx : Addr} {fs gs : List (Str × V)} {f : Str} {y : V} {R : Hp → Prop} (ha : H a = some (.ins C dx fs)) (c : Cls K C) (n : NoAttr K C f) (hl : fs.length < 1000) (e : putF f y fs = gs) (h : R (upd H a (.ins C dx gs))) : fsetG K f (.ref a) y H R :=
  ⟨a, C, dx, fs, rfl, ha, c, n, hl, by rw [e]; exact h⟩
end
theorem getD_of {α : Type} {l : List α} {i : Nat} {x d : α} (h : l[i]? = some x) : l.getD i d = x := by rw [List.getD_eq_getElem?_getD, h]; rfl
theorem lt_of_get {α : Type} {l : List α} {i : Nat} {x : α} (h : l[i]? = some x) : i < l.length := (List.getElem?_eq_some_iff.mp h).1

theorem typ_Exc : typeOf (.type "Exception") = pure (.type "type") := by kernel_rfl
theorem exc_same (Y : String) : ESX.exTail.contains (.type Y) = ([.type "Exception", .type "BaseException", .type "object"] : List Value).contains (.type Y) := rfl
section
variable {X : Cx} {pins : List (Addr × Obj)} {σ : L2.St} {H : Hp} {s : Shared} {a C fI dx : Addr} {y : V} {u : Value} {E : Value → Shared → Prop} {A : Around}
/-- Exception.__init__(self, ..) of one that is being made: all stays -/
theorem rf_base {us : List Value} {Q : Value → Shared → Prop} (R : RfC X.K C fI) (J : Inv X pins σ H s) (ea : H a = some (exo a C none)) (hz : us.length ≤ sizeLine) (k : ∀ s2, Inv X pins σ H s2 → Q .none s2) :
    wpAny (model X.prog X.w) A (call (.builtin "Exception.__init__") (.ref a :: us)) Q E s := by
  obtain ⟨n1, n2, n3, n4, n5, n6, n7, n8, n9, m0, m1, m2, m3, m5, eC⟩ := R.cls
  obtain ⟨t0, eo⟩ := exo_at J.hok ea
  obtain ⟨hp, gs, dr, tk, os⟩ := s
  refine wpAny_call (PySem.HandSPX.init_base F.excBase_Exception exc_same (J.kIn _ _ eC) eo hz fun hp2 t2 kp e2 => ?_)
  have J2 := J.write (t' := tk) (x := a) (e := a) (o := exo a C none) (by rw [ea]; trivial) (.inl rfl) kp ⟨_, e2⟩ (exo_ok e2)
  have same : upd H a (exo a C none) = H := funext fun b => if hb : b = a then by rw [hb, upd_same, ea] else by rw [upd_ne hb]
  rw [same] at J2
  exact k _ J2
/-- self.code = v, the first field of one that is being made -/
theorem rf_put {Q : Unit → Shared → Prop} (R : RfC X.K C fI) (J : Inv X pins σ H s) (ea : H a = some (exo a C none)) (ry : RelV y u)
    (k : ∀ dx s2, H dx = none → dx ≠ a → Inv X pins σ (upd (upd H dx (exd dx [(("code" : Str), y)])) a (exo a C (some dx))) s2 → Q () s2) : wpAny (model X.prog X.w) A (setAttr (.ref a) "code" u) Q E s := by
  obtain ⟨n1, n2, n3, n4, n5, n6, n7, n8, n9, m0, m1, m2, m3, m5, eC⟩ := R.cls
  have ecd : PySem.W.clsIn X.K C = some { name := n1, bases := n4, mro := .ref C :: ESX.exTail, ns := n3, qualname := n2, hasDict := true, slotNames := n5, subclasses := n6, abstract := n7, collection := n8, hasDel := false } := by
    unfold PySem.W.clsIn
    rw [eC]
  obtain ⟨t0, eo⟩ := exo_at J.hok ea
  obtain ⟨hp, gs, dr, tk, os⟩ := s
  refine PySem.W.set_plain J.kIn (ox := { cls := .ref C, dict := none, data := .fields #[.ref t0, .none, .none, .none, .bool false, .none] }) (od := none) ⟨eo, rfl, rfl, trivial⟩ R.sa ?_
  refine PySem.ESX.osa_new J.kIn eo ecd rfl rfl R.noc fun hp2 tk2 dx kp bign dna e2 ns2 => ?_
  have fd : H dx = none := J.hok.fresh bign
  have old : ∀ {b : Addr} {o : Obj}, hp.get? b = some o → b ≠ dx := fun {b o} z => Nat.ne_of_lt (Nat.lt_of_lt_of_le (Heap.lt_size z) bign)
  have nota : ∀ {b : Addr}, H b = none → b ≠ a := fun {b} z e => by
    rw [e, ea] at z
    cases z
  have un : Un X.fs [] H (upd (upd H dx (exd dx [(("code" : Str), y)])) a (exo a C (some dx))) hp hp2 :=
    { keep := fun b o z n _ _ => kp b o (nota n) z
      slot := fun b o z n _ _ => ⟨o.slots, kp b o (nota n) z⟩
      free := fun b o z n _ => by
        rw [upd_ne (nota n), upd_ne (old z)]
        exact n
      there := fun b o z _ => if hb : b = a then ⟨_, hb ▸ e2⟩ else ⟨o, kp b o hb z⟩
      tups := fun b xs z => by
        rw [upd_ne (at_ne ea z exo_tup), upd_ne (ne_of_none z fd)]
        exact z
      frzs := fun b o v z => by
        rw [upd_ne (at_ne ea z exo_frz), upd_ne (ne_of_none z fd)]
        exact z
      tbls := fun b ps z => ⟨#[], by
        rw [upd_ne (at_ne ea z exo_tbl), upd_ne (ne_of_none z fd), z]
        simp⟩ }
  refine k dx _ fd dna (J.un (t' := tk2) un fun b o z => ?_)
  by_cases hb : b = a
  · subst hb
    rw [upd_same] at z
    cases z
    exact exo_ok e2
  · rw [upd_ne hb] at z
    by_cases hd : b = dx
    · subst hd
      rw [upd_same] at z
      cases z
      exact exd_ok ns2 (relO_put (fs := []) ry fun _ => trivial)
    · rw [upd_ne hd] at z
      refine (J.hok b o z).stay (fun c v hc w => kp c v ?_ w) (fun c hc => ?_) (fun c xs hc => ?_)
      · rcases hc with hc | hc
        · rw [hc]
          exact hb
        · exact at_ne ea hc exo_own
      · rw [upd_ne (at_ne ea hc exo_own), upd_ne (ne_of_none hc fd)]
        exact hc
      · rw [upd_ne (at_ne ea hc exo_tup), upd_ne (ne_of_none hc fd)]
        exact hc
end
/-! ### readings and rules -/
def tExI (C : Addr) (ta : TA) : TE := fun σ H Q => ta σ H fun vs H1 => ∃ (a : Addr) (ws : List V), vs = .ref a :: ws ∧ ws.length ≤ 1000 ∧ H1 a = some (exo a C none) ∧ Q .non H1
def tExS (C : Addr) (to te : TE) : TS := fun D σ H => te σ H fun y H1 => to σ H1 fun x H2 => ∃ a : Addr, x = .ref a ∧ H2 a = some (exo a C none) ∧ ∀ dx, H2 dx = none → dx ≠ a → D.nx σ (upd (upd H2 dx (exd dx [(("code" : Str), y)])) a (exo a C (some dx)))
def tExM (C : Addr) (sp : Sp) (ta : TA) : L2.St → Hp → XK → Prop := fun σ H Q => ta σ H fun vs H1 => vs.length ≤ 1000 ∧ ∀ a, H1 a = none → sp (.ref a :: vs) (upd H1 a (exo a C none))
  (fun v H2 => v = .non ∧ ∃ (d : Addr) (fs : List (Str × V)), H2 a = some (exo a C (some d)) ∧ H2 d = some (exd d fs) ∧ H1 d = none ∧ Q (.ref C) (some d) (upd (L2.del H2 a) d (.xd fs))) (fun _ _ _ => False)
section
variable {X : Cx} {o e : Expr} {es : List Expr} {to te : TE} {ta : TA} {p p' p1 p2 pos : Pos} {C fI : Addr}
theorem pe_exinit {pl : Sem Bool} (R : RfC X.K C fI) (hg : Gl X "Exception") (hm : X.mg "Exception" = none) (vV : PySem.W.findCls X.K (.type "Exception") (.type "type") "__init__" = some (.val (.builtin "Exception.__init__"))) (ha : PA X (e :: es) ta)
    (hc : eval (.Call (.Attribute (.Name "Exception" p1) "__init__" p2) (e :: es) [] pos) X.env = (do
      let w ← eval (.Name "Exception" p1) X.env
      standAt p2.atName
      let (f, rest) ← holding [w] (getMethod w "__init__" pl)
      callWith pos f rest (backTo pos (starEach (e :: es) X.env)) (backToKw pos (keywordEach [] X.env))) := by rfl)
    (he : starEach (e :: es) X.env = (false, eval e X.env) :: starEach es X.env := by rfl) (hpl : (backTo pos (starEach es X.env)).any (·.1) = false := by rfl) :
    PE X (.Call (.Attribute (.Name "Exception" p1) "__init__" p2) (e :: es) [] pos) (tExI C ta) := by
  refine ⟨fun pins s σ H Q I h => ?_⟩
  refine PySem.W.methodCall_KW (ld_blt I hg hm PyProof.Rows.Boot.«Exception» ?_ (by decide) (by decide)) hc
  obtain ⟨m, fr⟩ := I.fr
  refine PySem.W.method_type fr I.ok.mod.kin typ_Exc (by decide +kernel) vV (by decide +kernel) ?_
  show wpAny _ _ (callWith pos (Value.builtin "Exception.__init__") [] (backTo pos (starEach (e :: es) X.env)) []) _ _ _
  refine PyProof.Rows.callWith_method1 (thn (ha.run pos pins _ σ H _ (I.tok _) h) fun us s1 ⟨vs, H1, J, rv, a, ws, ev, hl, ea, q⟩ => ?_) he hpl
  subst ev
  cases rv with
  | @cons _ u0 _ ur r0 rw' =>
    obtain rfl : u0 = Value.ref a := r0
    refine rf_base R J ea ?_ fun s2 J2 => ⟨.non, H1, J2, rfl, q⟩
    rw [← Paired.length rw', sizeLine_eq]
    omega
theorem ps_exset (R : RfC X.K C fI) (ho : PE X o to) (he : PE X e te) (hs : swapsWith e (some (.Attribute o "code" p')) pos.line X.env = pure false := by rfl) : PS X (.Assign [.Attribute o "code" p'] e pos) (tExS C to te) := by
  refine ⟨fun pins s σ H D I h => ?_⟩
  refine plainObj_wpAny_Assign_Attribute (thn (he.run pins s σ H _ I h) fun v s1 ⟨y, H1, J, ry, q1⟩ => thn (ho.run pins s1 σ H1 _ J q1) fun u s2 ⟨x, H2, J2, rx, a, ex, ea, q⟩ => ?_) hs
  subst ex
  obtain rfl : u = Value.ref a := rx
  exact rf_put R J2 ea ry fun dx s3 n ne J3 => ⟨σ, _, J3, q dx n ne⟩
/-- Refused(..) -/
theorem pmk_rf {CX : CXT} {k : Nat} {fd : FuncData} {ps : List Str} {sp : Sp} (R : RfC X.K C fI)
    (F1 : FnOk X.prog X.w X.K X.mg X.base CX k fI fd ps sp) (hr : Room (k + 1) X.A) (hb : Binds X.K fd ps []) (hx : Passes CX X (fun _ _ _ => False)) (hg : Gl X "Refused") (hm : X.mg "Refused" = some (.ref C)) (ha : PA X (e :: es) ta)
    (hdb : (("Refused" : Str) == ("__debug__" : Str)) = false := by decide) (he : starEach (e :: es) X.env = (false, eval e X.env) :: starEach es X.env := by rfl) (hpl : (backTo pos (starEach es X.env)).any (·.1) = false := by rfl) :
    PMk X (.Call (.Name "Refused" p) (e :: es) [] pos) (tExM C sp ta) := by
  intro pins s σ H Q I h
  obtain ⟨n1, n2, n3, n4, n5, n6, n7, n8, n9, m0, m1, m2, m3, m5, eC⟩ := R.cls
  refine wpAny_Call_Name_kw (ld_glob I hg hm ?_ hdb)
  refine PySem.W.callWith_K (h₀ := X.base) I.ok.mod.kin R.kC (thn (ha.run pos pins s σ H _ I h) fun us s1 ⟨vs, H1, J, rv, hz, q1⟩ => ⟨J.kIn, ?_⟩) he hpl
  show wpAny _ _ (call (.ref C) us) _ _ _
  obtain ⟨hp, gs, dr, tk, os⟩ := s1
  have big : hp.objs.size ≤ hp.objs.size + 1 := Nat.le_succ _
  have fr : H1 (hp.objs.size + 1) = none := J.hok.fresh big
  have hq := q1 (hp.objs.size + 1) fr
  generalize hnew : (hp.push (PySem.W.kdv_tup us)).push (PySem.HandSPX.excO C hp.objs.size) = hn at *
  have kp : ∀ b o, hp.get? b = some o → hn.get? b = some o := fun b o z => hnew ▸ Heap.get?_push_of_some _ (Heap.get?_push_of_some _ z)
  have got : hn.get? (hp.objs.size + 1) = some (PySem.HandSPX.excO C hp.objs.size) := by
    rw [← hnew]
    heap_get
  have J2 : Inv X pins σ (upd H1 (hp.objs.size + 1) (exo (hp.objs.size + 1) C none)) ⟨hn, gs, dr, tk, os⟩ := J.laid (t' := tk) kp big (exo_ok got)
  have rv2 : Vals (V.ref (hp.objs.size + 1) :: vs) (Value.ref (hp.objs.size + 1) :: us) := .cons rfl rv
  have hlen : (Value.ref (hp.objs.size + 1) :: us).length = ps.length := by
    have e := rv2.length
    rw [F1.len _ _ _ _ hq] at e
    exact e.symm
  have hus : us.length ≤ sizeLine := by
    rw [← Paired.length rv, sizeLine_eq]
    omega
  have bnd := hb ⟨hn, gs, dr, tk, os⟩ (Value.ref (hp.objs.size + 1) :: us) J2.kIn (by rw [List.append_nil]; exact hlen)
  rw [List.append_nil] at bnd
  have run := F1.run ((X.A.under (.builtin "type.__call__" ⟨.ref C :: us, []⟩))) X.stack _ _ ⟨Value.ref (hp.objs.size + 1) :: us, []⟩ (Value.ref (hp.objs.size + 1) :: us) _ _ (fun _ _ _ => False) (hr.make C us []) (J2.env0.make C us []) bnd rv2 hq
  refine wpAny_call (PySem.HandSPX.call_own F.excBase_Exception exc_same (J.kIn _ _ eC) (PySem.W.looks_findIn J.kIn R.iC) (fun self => PySem.W.bind_fn J.kIn self R.tI) hus ?_)
  rw [hnew]
  refine codeAny_mono run fun r s2 out => ?_
  cases r with
  | error er => exact hx pins σ _ _ er s2 J2 out
  | ok fl =>
    cases fl with
    | ret w =>
      obtain ⟨v, H2, os2, bare2, un2, hok2, rw2, ev, d, fs, ea, ed, nd, q2⟩ := out
      subst ev
      obtain ⟨h2, g2, d2, t2, os'⟩ := s2
      exact ⟨rw2, mk_end (raises_own R.xf.exC R.tyC) J big kp un2 hok2 os2 bare2 ea ed nd q2⟩
    | next => exact out.elim
    | brk => exact out.elim
    | cont => exact out.elim
end

def ownA (a : Addr) (l : Ls) : List Addr := [a, l.nodes, l.library, l.choices, l.changes, l.conflicts, l.needs, l.spares]
/-- all but what stands at the own addresses is kept -/
def KpO (O : List Addr) (H H' : Hp) : Prop := (∀ b o, b ∉ O → H b = some o → H' b = some o) ∧ ∀ b, H' b = none → H b = none
theorem KpO.of {O : List Addr} {H H' : Hp} (e : Same H H') : KpO O H H' := ⟨fun b o _ h => e b o h, fun _ h => e.free h⟩
theorem KpO.refl {O : List Addr} {H : Hp} : KpO O H H := ⟨fun b o _ h => h, fun _ h => h⟩
theorem KpO.trans {O : List Addr} {H H1 H2 : Hp} (a : KpO O H H1) (b : KpO O H1 H2) : KpO O H H2 := ⟨fun c o n h => b.1 c o n (a.1 c o n h), fun c h => a.2 c (b.2 c h)⟩
theorem KpO.put {O : List Addr} {H : Hp} {F : Addr} {o : HO} (h : F ∈ O) : KpO O H (upd H F o) := ⟨fun b u n e => by rw [upd_ne (fun (z : b = F) => n (by rw [z]; exact h))]; exact e, fun b e => by
  by_cases z : b = F
  · rw [z, upd_same] at e
    cases e
  · rw [upd_ne z] at e
    exact e⟩
theorem KpO.fin {O : List Addr} {H H1 : Hp} {q : Addr} {o : HO} (k : KpO O H H1) (hq : H1 q = none) : KpO O H (upd H1 q o) ∧ H q = none ∧ ∀ b ∈ O, b ∈ O ∨ H b = none := ⟨k.trans (.of (same_new hq)), k.2 _ hq, fun _ h => .inl h⟩
theorem KpO.finN {O O' : List Addr} {H H1 : Hp} {q : Addr} {o : HO} (k : KpO O H H1) (hq : H1 q = none) (h : ∀ b ∈ O', b ∈ O ∨ H b = none) : KpO O H (upd H1 q o) ∧ H q = none ∧ ∀ b ∈ O', b ∈ O ∨ H b = none := ⟨k.trans (.of (same_new hq)), k.2 _ hq, h⟩
section
variable {K : PySem.W.Frag} {Z : Cs} {H : Hp} {a b F : Addr} {d : Design} {l : Ls} {asg : Nat}
theorem TabA.putL {B : Type} {f : B → List Int} {ys : List B} {old new : List V} (hF : H F = some (.lst old)) (ne : b ≠ F) (h : TabA K H b f ys) : TabA K (upd H F (.lst new)) b f ys :=
  let ⟨xs, q, t⟩ := h
  ⟨xs, by rw [upd_ne ne]; exact q, t.mono fun _ _ r => Row.upd hF r⟩
theorem Row.updI {C C' dx dx' : Addr} {fs fs' : List (Str × V)} {x : V} {r : List Int} (hF : H F = some (.ins C dx fs)) (h : Row K H x r) : Row K (L2.upd H F (.ins C' dx' fs')) x r := by
  obtain ⟨p, e, t⟩ := h
  refine ⟨p, e, ?_⟩
  rcases t with (t | ⟨o, t⟩) | t
  · exact .inl (.inl (by rw [upd_ne (fun z => by rw [z, hF] at t; cases t)]; exact t))
  · exact .inl (.inr ⟨o, by rw [upd_ne (fun z => by rw [z, hF] at t; cases t)]; exact t⟩)
  · exact .inr t
theorem TabA.putI {B : Type} {f : B → List Int} {ys : List B} {C C' dx dx' : Addr} {fs fs' : List (Str × V)} (hF : H F = some (.ins C dx fs)) (h : TabA K H b f ys) : TabA K (upd H F (.ins C' dx' fs')) b f ys :=
  let ⟨xs, q, t⟩ := h; ⟨xs, by rw [upd_ne (fun z => by rw [z, hF] at q; cases q)]; exact q, t.mono fun _ _ r => r.updI hF⟩
theorem put_lst {C C' dx dx' : Addr} {fs fs' : List (Str × V)} {xs : List V} (hF : H F = some (.ins C dx fs)) (h : H b = some (.lst xs)) : upd H F (.ins C' dx' fs') b = some (.lst xs) := by
  rw [upd_ne (fun z => by rw [z, hF] at h; cases h)]
  exact h
/-- the object's fields are put anew: another design, other lists -/
theorem StAt.fields {C dx : Addr} {fs : List (Str × V)} {d' : Design} {l' : Ls} {asg' : Nat} (ha : H a = some (.ins C dx fs)) (h1 : TabA K H l'.nodes nodeRow d'.nodes) (h2 : TabA K H l'.library bufRow d'.library) (h3 : H l'.choices = some (.lst (d'.choices.map nv)))
    (h4 : TabA K H l'.changes chRow d'.repairs.changes) (h5 : TabA K H l'.conflicts cfRow d'.repairs.conflicts) (h6 : TabA K H l'.needs spRow d'.needs) (h7 : TabA K H l'.spares spRow d'.spares) : StAt K Z (upd H a (.ins Z.CS dx (stF d' l' asg'))) a d' l' asg' :=
  ⟨⟨dx, upd_same⟩, h1.putI ha, h2.putI ha, put_lst ha h3, h4.putI ha, h5.putI ha, h6.putI ha, h7.putI ha⟩
theorem own_mem (a : Addr) (l : Ls) : a ∈ ownA a l ∧ l.nodes ∈ ownA a l ∧ l.library ∈ ownA a l ∧ l.choices ∈ ownA a l ∧ l.changes ∈ ownA a l ∧ l.conflicts ∈ ownA a l ∧ l.needs ∈ ownA a l ∧ l.spares ∈ ownA a l := by simp [ownA]
theorem StAt.put_nodes (S : StAt K Z H a d l asg) (nd : (ownA a l).Nodup) {xs : List V} {ns : List Node} (hA : All2 (fun x n => Row K H x (nodeRow n)) xs ns) : StAt K Z (upd H l.nodes (.lst xs)) a { d with nodes := ns } l asg := by
  obtain ⟨old, ho, _⟩ := S.nodes
  have nd := nd
  simp only [ownA, List.nodup_cons, List.mem_cons, List.not_mem_nil, or_false, not_or] at nd
  obtain ⟨dx, hob⟩ := S.obj
  exact ⟨⟨dx, by rw [upd_ne (by rintro rfl; rw [hob] at ho; cases ho)]; exact hob⟩, ⟨xs, upd_same, hA.mono fun _ _ r => Row.upd ho r⟩, S.library.putL ho (by intro z; simp_all), by rw [upd_ne (by intro z; simp_all)]; exact S.choices, S.changes.putL ho (by intro z; simp_all), S.conflicts.putL ho (by intro z; simp_all), S.needs.putL ho (by intro z; simp_all), S.spares.putL ho (by intro z; simp_all)⟩
theorem StAt.put_library (S : StAt K Z H a d l asg) (nd : (ownA a l).Nodup) {xs : List V} {ns : List Buffer} (hA : All2 (fun x n => Row K H x (bufRow n)) xs ns) : StAt K Z (upd H l.library (.lst xs)) a { d with library := ns } l asg := by
  obtain ⟨old, ho, _⟩ := S.library
  have nd := nd
  simp only [ownA, List.nodup_cons, List.mem_cons, List.not_mem_nil, or_false, not_or] at nd
  obtain ⟨dx, hob⟩ := S.obj
  exact ⟨⟨dx, by rw [upd_ne (by rintro rfl; rw [hob] at ho; cases ho)]; exact hob⟩, S.nodes.putL ho (by intro z; simp_all), ⟨xs, upd_same, hA.mono fun _ _ r => Row.upd ho r⟩, by rw [upd_ne (by intro z; simp_all)]; exact S.choices, S.changes.putL ho (by intro z; simp_all), S.conflicts.putL ho (by intro z; simp_all), S.needs.putL ho (by intro z; simp_all), S.spares.putL ho (by intro z; simp_all)⟩
theorem StAt.put_changes (S : StAt K Z H a d l asg) (nd : (ownA a l).Nodup) {xs : List V} {ns : List Change} (hA : All2 (fun x n => Row K H x (chRow n)) xs ns) : StAt K Z (upd H l.changes (.lst xs)) a { d with repairs := { d.repairs with changes := ns } } l asg := by
  obtain ⟨old, ho, _⟩ := S.changes
  have nd := nd
  simp only [ownA, List.nodup_cons, List.mem_cons, List.not_mem_nil, or_false, not_or] at nd
  obtain ⟨dx, hob⟩ := S.obj
  exact ⟨⟨dx, by rw [upd_ne (by rintro rfl; rw [hob] at ho; cases ho)]; exact hob⟩, S.nodes.putL ho (by intro z; simp_all), S.library.putL ho (by intro z; simp_all), by rw [upd_ne (by intro z; simp_all)]; exact S.choices, ⟨xs, upd_same, hA.mono fun _ _ r => Row.upd ho r⟩, S.conflicts.putL ho (by intro z; simp_all), S.needs.putL ho (by intro z; simp_all), S.spares.putL ho (by intro z; simp_all)⟩
theorem StAt.put_conflicts (S : StAt K Z H a d l asg) (nd : (ownA a l).Nodup) {xs : List V} {ns : List (Nat × Nat)} (hA : All2 (fun x n => Row K H x (cfRow n)) xs ns) : StAt K Z (upd H l.conflicts (.lst xs)) a { d with repairs := { d.repairs with conflicts := ns } } l asg := by
  obtain ⟨old, ho, _⟩ := S.conflicts
  have nd := nd
  simp only [ownA, List.nodup_cons, List.mem_cons, List.not_mem_nil, or_false, not_or] at nd
  obtain ⟨dx, hob⟩ := S.obj
  exact ⟨⟨dx, by rw [upd_ne (by rintro rfl; rw [hob] at ho; cases ho)]; exact hob⟩, S.nodes.putL ho (by intro z; simp_all), S.library.putL ho (by intro z; simp_all), by rw [upd_ne (by intro z; simp_all)]; exact S.choices, S.changes.putL ho (by intro z; simp_all), ⟨xs, upd_same, hA.mono fun _ _ r => Row.upd ho r⟩, S.needs.putL ho (by intro z; simp_all), S.spares.putL ho (by intro z; simp_all)⟩
theorem StAt.put_needs (S : StAt K Z H a d l asg) (nd : (ownA a l).Nodup) {xs : List V} {ns : List Spot} (hA : All2 (fun x n => Row K H x (spRow n)) xs ns) : StAt K Z (upd H l.needs (.lst xs)) a { d with needs := ns } l asg := by
  obtain ⟨old, ho, _⟩ := S.needs
  have nd := nd
  simp only [ownA, List.nodup_cons, List.mem_cons, List.not_mem_nil, or_false, not_or] at nd
  obtain ⟨dx, hob⟩ := S.obj
  exact ⟨⟨dx, by rw [upd_ne (by rintro rfl; rw [hob] at ho; cases ho)]; exact hob⟩, S.nodes.putL ho (by intro z; simp_all), S.library.putL ho (by intro z; simp_all), by rw [upd_ne (by intro z; simp_all)]; exact S.choices, S.changes.putL ho (by intro z; simp_all), S.conflicts.putL ho (by intro z; simp_all), ⟨xs, upd_same, hA.mono fun _ _ r => Row.upd ho r⟩, S.spares.putL ho (by intro z; simp_all)⟩
theorem StAt.put_spares (S : StAt K Z H a d l asg) (nd : (ownA a l).Nodup) {xs : List V} {ns : List Spot} (hA : All2 (fun x n => Row K H x (spRow n)) xs ns) : StAt K Z (upd H l.spares (.lst xs)) a { d with spares := ns } l asg := by
  obtain ⟨old, ho, _⟩ := S.spares
  have nd := nd
  simp only [ownA, List.nodup_cons, List.mem_cons, List.not_mem_nil, or_false, not_or] at nd
  obtain ⟨dx, hob⟩ := S.obj
  exact ⟨⟨dx, by rw [upd_ne (by rintro rfl; rw [hob] at ho; cases ho)]; exact hob⟩, S.nodes.putL ho (by intro z; simp_all), S.library.putL ho (by intro z; simp_all), by rw [upd_ne (by intro z; simp_all)]; exact S.choices, S.changes.putL ho (by intro z; simp_all), S.conflicts.putL ho (by intro z; simp_all), S.needs.putL ho (by intro z; simp_all), ⟨xs, upd_same, hA.mono fun _ _ r => Row.upd ho r⟩⟩
theorem StAt.put_choices (S : StAt K Z H a d l asg) (nd : (ownA a l).Nodup) {ns : List Nat} : StAt K Z (upd H l.choices (.lst (ns.map nv))) a { d with choices := ns } l asg := by
  have ho := S.choices
  have nd := nd
  simp only [ownA, List.nodup_cons, List.mem_cons, List.not_mem_nil, or_false, not_or] at nd
  obtain ⟨dx, hob⟩ := S.obj
  exact ⟨⟨dx, by rw [upd_ne (by rintro rfl; rw [hob] at ho; cases ho)]; exact hob⟩, S.nodes.putL ho (by intro z; simp_all), S.library.putL ho (by intro z; simp_all), upd_same, S.changes.putL ho (by intro z; simp_all), S.conflicts.putL ho (by intro z; simp_all), S.needs.putL ho (by intro z; simp_all), S.spares.putL ho (by intro z; simp_all)⟩
end
/-! ### what an edit ends in -/
def Done (K : PySem.W.Frag) (Z : Cs) (a : Addr) (l : Ls) (H : Hp) (Q : VK) (d' : Design) (r : List Int) : Prop := ∀ p H2 l2, (KpO (ownA a l) H H2 ∧ H p = none ∧ ∀ b ∈ ownA a l2, b ∈ ownA a l ∨ H b = none) → StAt K Z H2 a d' l2 (asgOf d') → H2 p = some (.lst (r.map V.int)) → Q (.ref p) H2
def Fail (Z : Cs) (a : Addr) (l : Ls) (H : Hp) (E : XK) (c : Int) : Prop := ∀ dx H2, KpO (ownA a l) H H2 → H2 dx = some (.xd [(("code" : Str), .int c)]) → E (.ref Z.CR) (some dx) H2
def Chg (K : PySem.W.Frag) (Z : Cs) (a : Addr) (l : Ls) (H : Hp) (Q : VK) (E : XK) : Except Int (Design × Kpd9.Result) → Prop
  | .error c => Fail Z a l H E c
  | .ok (d', r) => Done K Z a l H Q d' (resL r)
theorem Fail.rai {Z : Cs} {a : Addr} {l : Ls} {H H1 : Hp} {E : XK} {c : Int} (h : Fail Z a l H E c) (k : KpO (ownA a l) H H1) : Rai Z.CR c H1 E := fun dx H2 s e => h dx H2 (k.trans (.of s)) e
theorem ends_same {H H1 : Hp} {p : Addr} {xs : List V} {n : Nat} (hp : H p = none) : upd H p (.lst xs) p = some (.lst xs) := upd_same

/-- the written table of rows: which operations have how many -/
def rowsKV : List (Int × Int) := [(5, 1), (9, 1), (10, 1), (19, 1), (25, 2)]
def rowsN (op : Int) : Option Int := (rowsKV.find? fun p => p.1 = op).map Prod.snd
/-- an entry: an int's key and value -/
def entI (e : DictEntry) (p : Int × Int) : Prop := e.hash = hashInt p.1 ∧ (∃ t, e.key = .int p.1 t) ∧ ∃ t, e.val = .int p.2 t
structure TY (K : PySem.W.Frag) (Z : Cs) : Prop where
  t_COUNTS : ∀ H, SqT K H Z.aCOUNTS (([2, 4, 3, 1, 4, 0, 0, 2, 0, 0, 0, 0, 0, 2, 2, 0, 1, 0, 0, 0, 1, 3, 3, 0, 0, 0, 0, 0, 0, 0, 0] : List Int).map V.int)
  t_EDITS : ∀ H, SqT K H Z.aEDITS (([1, 2, 3, 4, 10, 12, 13, 14, 20, 21, 22, 26] : List Int).map V.int)
  k_ROWS : ∃ e0 e1 e2 e3 e4 n, K.lookup Z.aROWS = some ⟨.type "dict", none, .dict #[e0, e1, e2, e3, e4] n, #[]⟩ ∧ entI e0 (5, 1) ∧ entI e1 (9, 1) ∧ entI e2 (10, 1) ∧ entI e3 (19, 1) ∧ entI e4 (25, 2)
  low : (Z.aROWS == sysModules) = false
theorem int_is {P : Program} {w : World} {i : Int} {t : Nat} : (PySem.intKind P w).is i (.int i t) = true := by
  show Value.isInt i (.int i t) = true
  simp [Value.isInt]
theorem rows_dict {K : PySem.W.Frag} {Z : Cs} (Y : TY K Z) (P : Program) (w : World) {h : Heap} (X : K.In h) : ∃ vs : List (Int × Value), h.DictOf (PySem.intKind P w) Z.aROWS vs ∧ ∀ op, (valueAt vs op).isSome = (rowsN op).isSome ∧ ∀ u, valueAt vs op = some u → ∃ j t, rowsN op = some j ∧ u = .int j t := by
  obtain ⟨e0, e1, e2, e3, e4, n, eK, ⟨h0, ⟨k0, q0⟩, v0, w0⟩, ⟨h1, ⟨k1, q1⟩, v1, w1⟩, ⟨h2, ⟨k2, q2⟩, v2, w2⟩, ⟨h3, ⟨k3, q3⟩, v3, w3⟩, h4, ⟨k4, q4⟩, v4, w4⟩ := Y.k_ROWS
  refine ⟨[(5, e0.val), (9, e1.val), (10, e2.val), (19, e3.val), (25, e4.val)], ⟨_, #[e0, e1, e2, e3, e4], n, X _ _ eK, ⟨rfl, rfl, rfl⟩, rfl, ?_, ?_, by simp⟩, fun op => ?_⟩
  · intro e he
    have he : e = e0 ∨ e = e1 ∨ e = e2 ∨ e = e3 ∨ e = e4 := by simpa using he
    rcases he with rfl | rfl | rfl | rfl | rfl
    · exact ⟨5, by rw [q0]; exact int_is, h0⟩
    · exact ⟨9, by rw [q1]; exact int_is, h1⟩
    · exact ⟨10, by rw [q2]; exact int_is, h2⟩
    · exact ⟨19, by rw [q3]; exact int_is, h3⟩
    · exact ⟨25, by rw [q4]; exact int_is, h4⟩
  · exact .cons (by rw [q0]; exact int_is) rfl (.cons (by rw [q1]; exact int_is) rfl (.cons (by rw [q2]; exact int_is) rfl (.cons (by rw [q3]; exact int_is) rfl (.cons (by rw [q4]; exact int_is) rfl .nil))))
  · rw [w0, w1, w2, w3, w4]
    unfold valueAt rowsN rowsKV
    simp only [List.find?_cons, List.find?_nil]
    by_cases c0 : (5 : Int) = op
    · simp [c0]
    by_cases c1 : (9 : Int) = op
    · simp [c1, c0]
    by_cases c2 : (10 : Int) = op
    · simp [c2, c1, c0]
    by_cases c3 : (19 : Int) = op
    · simp [c3, c2, c1, c0]
    by_cases c4 : (25 : Int) = op
    · simp [c4, c3, c2, c1, c0]
    simp [c0, c1, c2, c3, c4]
/-- op in ROWS -/
def rInRows (Z : Cs) : R2 := fun x y H Q => ∃ op : Int, x = .int op ∧ y = .ref Z.aROWS ∧ Q (.bl (rowsN op).isSome) H
theorem op_inRows {X : Cx} {K : PySem.W.Frag} {Z : Cs} (hK : X.K = K) (Y : TY K Z) : OpR X (compareOp .In) (rInRows Z) := by
  subst hK
  intro pins s σ H x y v u Q I rx ry h
  obtain ⟨op, rfl, rfl, q⟩ := h
  obtain ⟨t, rfl⟩ := rx
  cases ry
  obtain ⟨vs, dd, hv⟩ := rows_dict Y X.prog X.w I.kIn
  refine wpAny_in_of (knd := PySem.intKind X.prog X.w) (k := op) int_is Y.low dd.mapOf ?_
  rw [(hv op).1]
  exact ⟨.bl (rowsN op).isSome, H, I.tok _, rfl, q⟩
/-- ROWS.get(op, x) -/
def tRowsGet (Z : Cs) (td ty tx : TE) : TE := fun σ H Q => td σ H fun x H1 => x = .ref Z.aROWS ∧ ty σ H1 fun y H2 => tx σ H2 fun z H3 => ∃ op d : Int, y = .int op ∧ z = .int d ∧ Q (.int ((rowsN op).getD d)) H3
theorem pe_rowsGet {X : Cx} {K : PySem.W.Frag} {Z : Cs} {o e f : Expr} {apos cpos : Pos} {td ty tx : TE} (hK : X.K = K) (Y : TY K Z) (ho : PE X o td) (he : PE X e ty) (hf : PE X f tx) (m : M2 X o "get" apos e f cpos) : PE X (.Call (.Attribute o "get" apos) [e, f] [] cpos) (tRowsGet Z td ty tx) := by
  subst hK
  refine ⟨fun pins s σ H Q I h => ?_⟩
  refine wpAny_Call_method m.base m.few m.line PySem.F.plainAttrs_dict PySem.F.slot_dict_get PySem.F.type_dict_get (thn (ho.run pins s σ H _ I h) fun u s1 ⟨x, H1, J, rx, ex, q1⟩ => ?_)
  subst ex
  obtain rfl : u = Value.ref Z.aROWS := rx
  obtain ⟨vs1, dd1, _⟩ := rows_dict Y X.prog X.w J.kIn
  refine ⟨dd1.typeIs, fun b q => ?_, ?_⟩
  · cases q
    obtain ⟨ob, _, _, g1, g2, _⟩ := dd1
    exact ⟨ob, g1, g2.2.1⟩
  rw [m.trees]
  refine Calls.callWith_builtin rfl (Calls.evalArgs_plain (Calls.spliced_cons (thn (he.run pins s1 σ H1 _ J q1) fun iv s2 ⟨y, H2, J2, ry, q2⟩ =>
    Calls.spliced_cons (thn (hf.run pins s2 σ H2 _ J2 q2) fun fv s3 ⟨z, H3, J3, rz, op, d, ey, ez, q3⟩ => Calls.spliced_nil ?_))))
  subst ey ez
  obtain ⟨t, rfl⟩ := (show ∃ t, iv = Value.int op t from ry)
  obtain ⟨vs, dd, hv⟩ := rows_dict Y X.prog X.w J3.kIn
  refine call_meetsIn PySem.F.slot_dict_get dd.typeIs PySem.F.entry_dict_get (PySem.F.args_dict_get_3 _ _ _) (meets_dict_get_default (PySem.intKind X.prog X.w) Z.aROWS (k := op) int_is Y.low fv) ⟨_, dd.mapOf, ?_⟩
  refine ⟨.int ((rowsN op).getD d), H3, J3.tok _, ?_, q3⟩
  cases hc : valueAt vs op with
  | none =>
    have e1 := (hv op).1
    rw [hc] at e1
    have e2 : rowsN op = none := by
      cases hr : rowsN op with
      | none => rfl
      | some _ => rw [hr] at e1; cases e1
    rw [e2]
    exact rz
  | some u =>
    obtain ⟨j, t2, e1, rfl⟩ := (hv op).2 u hc
    rw [e1]
    exact ⟨t2, rfl⟩
theorem r_rowsGet {Z : Cs} {td ty tx : TE} {σ : L2.St} {H : Hp} {Q : VK} (h : td σ H fun x H1 => x = .ref Z.aROWS ∧ ty σ H1 fun y H2 => tx σ H2 fun z H3 => ∃ op d : Int, y = .int op ∧ z = .int d ∧ Q (.int ((rowsN op).getD d)) H3) : tRowsGet Z td ty tx σ H Q := h

local macro_rules | `(tactic| walk_at "rd1") => `(tactic| first
  | ((with_reducible refine' r_var ?hvar ?_); (case hvar => exact rfl)) | (with_reducible refine r_op ?_) | (with_reducible refine r_c ?_) | (with_reducible refine r_i0 ?_) | (with_reducible refine r_cons ?_) | (with_reducible refine r_nil ?_) | (with_reducible refine r_k ?_)
  | (with_reducible refine r_test ?_) | (with_reducible refine r_set ?_) | (with_reducible refine r_seq ?_) | (with_reducible refine r_fld ?_)
  | ((with_reducible show fldG _ _ _ _ _); (first | (with_reducible refine fI_state (by assumption) (by assumption) ?_) | (with_reducible refine fI_earlier (by assumption) (by assumption) ?_) | (with_reducible refine fI_undone (by assumption) (by assumption) ?_) | (with_reducible refine fS_nodes (by assumption) (by assumption) ?_) | (with_reducible refine fS_library (by assumption) (by assumption) ?_) | (with_reducible refine fS_choices (by assumption) (by assumption) ?_) | (with_reducible refine fS_driver (by assumption) (by assumption) ?_) | (with_reducible refine fS_violations (by assumption) (by assumption) ?_) | (with_reducible refine fS_changes (by assumption) (by assumption) ?_) | (with_reducible refine fS_conflicts (by assumption) (by assumption) ?_) | (with_reducible refine fS_applied (by assumption) (by assumption) ?_) | (with_reducible refine fS_needs (by assumption) (by assumption) ?_) | (with_reducible refine fS_spares (by assumption) (by assumption) ?_) | (with_reducible refine fS_budget (by assumption) (by assumption) ?_) | (with_reducible refine fS_assigned (by assumption) (by assumption) ?_)))
  | (with_reducible refine r_call ?_) | (with_reducible refine r_asg ?_) | (with_reducible refine r_gcons ?_) | (with_reducible refine r_gname ?_) | (with_reducible refine r_gnil ?_) | (with_reducible refine r_ifs ?_) | (with_reducible refine r_if ?_) | (with_reducible refine r_ret ?_)
  | (with_reducible refine r_tup ?_) | (with_reducible refine r_lst ?_) | (with_reducible refine r_cb ?_) | (with_reducible refine r_eq ?_) | (with_reducible refine r_ne ?_) | (with_reducible refine r_un ?_) | (with_reducible refine r_u ?_) | (with_reducible refine r_drop ?_) | (with_reducible refine r_next ?_)
  | (with_reducible refine r_cut ?_) | (with_reducible refine r_callS ?_) | (with_reducible refine r_tb ?_) | (with_reducible refine r_or ?_) | (with_reducible refine r_and ?_) | (with_reducible refine r_not ?_) | (with_reducible refine r_par ?_) | (with_reducible refine r_parE ?_)
  | (with_reducible refine r_gsub ?_) | (with_reducible refine r_bm ?_) | (with_reducible refine r_dget ?_) | (with_reducible refine r_dget2 ?_) | (with_reducible refine r_dput ?_) | (with_reducible refine r_iList ?_) | (with_reducible refine r_iRng1 ?_) | (with_reducible refine r_iRng3 ?_) | (with_reducible refine r_iEnum ?_) | (with_reducible refine r_iZip ?_)
  | (with_reducible refine r_rowsGet ?_) | (with_reducible refine r_meth ?_) | (with_reducible refine r_metS ?_) | (with_reducible refine r_make ?_) | (with_reducible refine r_andV ?_) | (with_reducible refine r_orV ?_) | (with_reducible refine r_notV ?_) | (with_reducible refine r_bool ?_) | (with_reducible refine r_chain ?_) | (with_reducible refine r_fset ?_) | (with_reducible refine r_sl ?_) | (with_reducible refine r_oN ?_) | (with_reducible refine r_oS ?_) | (with_reducible refine r_oi ?_))
local macro_rules | `(tactic| walk_at "rd") => `(tactic| repeat (first | walk_at "rd1" | dsimp only))
abbrev s_halves : Stmt := top 1
abbrev N_halves : List Str := ["number"]
theorem sc_halves : FnScope N_halves ["number"] (defScope s_halves) := ⟨rfl, rfl, rfl, by decide +kernel, rfl, by decide +kernel, by decide +kernel⟩
def sp_halves (K : PySem.W.Frag) (Z : Cs) : Sp := sp1 fun x H Q _ => ∃ z : Int, x = .int z ∧ RetL ((halvesM z).map V.int) H Q
set_option maxHeartbeats 4000000 in
theorem ok_halves {P : Program} {w : World} {K : PySem.W.Frag} {mg : Str → Option Value} {base : Heap} {Z : Cs} (T : TX K mg Z)  {f : Addr} {fd : FuncData} (F : Fun K "halves" "halves" s_halves f fd) : FnOk P w K mg base CX0 1 f fd ["number"] (sp_halves K Z) := by
  refine F.ok sc_halves len1 (fun cdv A outer s H vs Q E hr h => ⟨_, (pss_one (ps_ret (pe_ifExp (pt_cmpR op_eq (pe_op op_mod (pv 0) pe_int) pe_int (nomark _)) (pe_lst (pa_cons (pe_op op_fdiv (pv 0) pe_int) (pa_cons pe_int pa_nil))) (pe_lst (pa_cons (pv 0) (pa_cons pe_int pa_nil)))))), ?_⟩)
  obtain ⟨_, rfl, z, rfl, k⟩ := h
  walk_at "rd"
  refine r_i (by decide) ?_
  walk_at "rd"
  refine ifE (fun c => ?_) (fun c => ?_)
  · walk_at "rd"
    refine r_i ⟨by decide, by decide⟩ ?_
    walk_at "rd"
    refine ⟨lineR rfl, fun p hp => ?_⟩
    have e : halvesM z = [z / 2, 1] := if_pos c
    exact k p _ hp (same_new hp) (by rw [e]; exact upd_same)
  · walk_at "rd"
    refine ⟨lineR rfl, fun p hp => ?_⟩
    have e : halvesM z = [z, 2] := if_neg c
    exact k p _ hp (same_new hp) (by rw [e]; exact upd_same)
theorem c_halves {P : Program} {w : World} {K : PySem.W.Frag} {mg : Str → Option Value} {base : Heap} {Z : Cs} (T : TX K mg Z)  {f : Addr} {fd : FuncData} (g : mg "halves" = some (.ref f)) (F : Fun K "halves" "halves" s_halves f fd) : Cal P w K mg base CX0 1 "halves" ["number"] (sp_halves K Z) :=
  ⟨f, fd, g, F.kp, F.binds (ps := ["number"]) (fun _ _ _ _ _ _ us hl => match us, hl with | [_], _ => rfl), ok_halves T  F⟩
abbrev s_has_sinks : Stmt := top 2
abbrev N_has_sinks : List Str := ["nodes", "node"]
theorem sc_has_sinks : FnScope N_has_sinks ["nodes"] (defScope s_has_sinks) := ⟨rfl, rfl, rfl, by decide +kernel, rfl, by decide +kernel, by decide +kernel⟩
def sp_has_sinks (K : PySem.W.Frag) (Z : Cs) : Sp := sp1 fun x H Q _ => ∃ (a : Addr) (nodes : List Node), x = .ref a ∧ TabA K H a nodeRow nodes ∧ nodes.length ≤ 1000 ∧ RetV (.bl (nodes.any fun n => n.sink.isSome)) H Q
set_option maxHeartbeats 4000000 in
theorem ok_has_sinks {P : Program} {w : World} {K : PySem.W.Frag} {mg : Str → Option Value} {base : Heap} {Z : Cs} (T : TX K mg Z)  {f : Addr} {fd : FuncData} (F : Fun K "has_sinks" "has_sinks" s_has_sinks f fd) : FnOk P w K mg base CX0 1 f fd ["nodes"] (sp_has_sinks K Z) := by
  refine F.ok sc_has_sinks len1 (fun cdv A outer s H vs Q E hr h => ⟨_, (pss_one (ps_ret (pe_callB (cr_any rfl) (by rfl) T.b_any (by decide +kernel) (pa_cons (pe_lc (own := [("node", 1)]) (by rfl) sc_has_sinks.nd (pi_list (pv 0)) (blkOk_by (own := [("node", 1)]) (N := N_has_sinks) (sc := defScope s_has_sinks) (by decide +kernel)) (fun _ _ _ _ _ => (pg_name (i := 1) sc_has_sinks.nd rfl (Or.inl rfl))) (fun _ _ _ _ _ => pts_nil) (fun _ _ _ _ _ => (pe_cmpR op_eq (pe_ix (ixT (K := K) rfl) (pv 1) pe_int (fun _ _ => rfl)) pe_int (nomark _)))) pa_nil)))), ?_⟩)
  obtain ⟨_, rfl, a, nodes, rfl, ⟨xs, hx, hA⟩, hl, k⟩ := h
  walk_at "rd"
  refine EvL.go (lcM (fun n : Node => .bl (n.sink.isSome)) (Evl.ev_var rfl) (SqL.of hx) hA (by omega) (fun x => rfl) fun i x n H1 e hi hy r => ?_) fun p H2 hp e hp2 => ?_
  · obtain ⟨q, rfl, hr⟩ := r
    refine Evl.ev_is (Evl.ev_op (Evl.ev_op (Evl.ev_var rfl) Evl.ev_c (Evl.rv_ixT (v := .int (if n.sink.isSome then 1 else 0)) (Same.sqt e hr) rfl)) Evl.ev_c (Evl.rv_eq rfl)) ?_
    cases n.sink <;> rfl
  · walk_at "rd"
    refine ⟨p, nodes.map fun n => n.sink.isSome, rfl, SqL.of (by rw [List.map_map]; exact hp2), ?_⟩
    rw [List.any_map]
    exact k H2 e
theorem c_has_sinks {P : Program} {w : World} {K : PySem.W.Frag} {mg : Str → Option Value} {base : Heap} {Z : Cs} (T : TX K mg Z)  {f : Addr} {fd : FuncData} (g : mg "has_sinks" = some (.ref f)) (F : Fun K "has_sinks" "has_sinks" s_has_sinks f fd) : Cal P w K mg base CX0 1 "has_sinks" ["nodes"] (sp_has_sinks K Z) :=
  ⟨f, fd, g, F.kp, F.binds (ps := ["nodes"]) (fun _ _ _ _ _ _ us hl => match us, hl with | [_], _ => rfl), ok_has_sinks T  F⟩
theorem sum_allowed (nodes : List Node) : (nodes.map fun n => if n.isAllowed = true then (1 : Int) else 0).sum = ((nodes.filter Node.isAllowed).length : Int) := by
  induction nodes with
  | nil => rfl
  | cons n r ih =>
    rw [List.map_cons, List.sum_cons, ih, List.filter_cons]
    by_cases h : n.isAllowed = true
    · simp only [h, if_true, List.length_cons]; omega
    · simp [h]
abbrev s_permitted_count : Stmt := top 3
abbrev N_permitted_count : List Str := ["nodes", "node"]
theorem sc_permitted_count : FnScope N_permitted_count ["nodes"] (defScope s_permitted_count) := ⟨rfl, rfl, rfl, by decide +kernel, rfl, by decide +kernel, by decide +kernel⟩
def sp_permitted_count (K : PySem.W.Frag) (Z : Cs) : Sp := sp1 fun x H Q _ => ∃ (a : Addr) (nodes : List Node), x = .ref a ∧ TabA K H a nodeRow nodes ∧ nodes.length ≤ 1000 ∧ RetV (.int ((nodes.filter Node.isAllowed).length : Int)) H Q
set_option maxHeartbeats 4000000 in
theorem ok_permitted_count {P : Program} {w : World} {K : PySem.W.Frag} {mg : Str → Option Value} {base : Heap} {Z : Cs} (T : TX K mg Z)  {f : Addr} {fd : FuncData} (F : Fun K "permitted_count" "permitted_count" s_permitted_count f fd) : FnOk P w K mg base CX0 1 f fd ["nodes"] (sp_permitted_count K Z) := by
  refine F.ok sc_permitted_count len1 (fun cdv A outer s H vs Q E hr h => ⟨_, (pss_one (ps_ret (pe_callB (cr_sum rfl) (by rfl) T.b_sum (by decide +kernel) (pa_cons (pe_lc (own := [("node", 1)]) (by rfl) sc_permitted_count.nd (pi_list (pv 0)) (blkOk_by (own := [("node", 1)]) (N := N_permitted_count) (sc := defScope s_permitted_count) (by decide +kernel)) (fun _ _ _ _ _ => (pg_name (i := 1) sc_permitted_count.nd rfl (Or.inl rfl))) (fun _ _ _ _ _ => pts_nil) (fun _ _ _ _ _ => (pe_ix (ixT (K := K) rfl) (pv 1) pe_int (fun _ _ => rfl)))) pa_nil)))), ?_⟩)
  obtain ⟨_, rfl, a, nodes, rfl, ⟨xs, hx, hA⟩, hl, k⟩ := h
  walk_at "rd"
  refine EvL.go (lcM (fun n : Node => .int (if n.isAllowed then 1 else 0)) (Evl.ev_var rfl) (SqL.of hx) hA (by omega) (fun x => rfl) fun i x n H1 e hi hy r => ?_) fun p H2 hp e hp2 => ?_
  · obtain ⟨q, rfl, hr⟩ := r
    exact Evl.ev_op (Evl.ev_var rfl) Evl.ev_c (Evl.rv_ixT (Same.sqt e hr) rfl)
  · walk_at "rd"
    refine ⟨p, nodes.map fun n => if n.isAllowed then 1 else 0, rfl, SqL.of (by rw [List.map_map]; exact hp2), ?_⟩
    rw [sum_allowed]
    exact k H2 e
theorem c_permitted_count {P : Program} {w : World} {K : PySem.W.Frag} {mg : Str → Option Value} {base : Heap} {Z : Cs} (T : TX K mg Z)  {f : Addr} {fd : FuncData} (g : mg "permitted_count" = some (.ref f)) (F : Fun K "permitted_count" "permitted_count" s_permitted_count f fd) : Cal P w K mg base CX0 1 "permitted_count" ["nodes"] (sp_permitted_count K Z) :=
  ⟨f, fd, g, F.kp, F.binds (ps := ["nodes"]) (fun _ _ _ _ _ _ us hl => match us, hl with | [_], _ => rfl), ok_permitted_count T  F⟩
abbrev s_own_times : Stmt := top 4
abbrev N_own_times : List Str := ["nodes", "node"]
theorem sc_own_times : FnScope N_own_times ["nodes"] (defScope s_own_times) := ⟨rfl, rfl, rfl, by decide +kernel, rfl, by decide +kernel, by decide +kernel⟩
def sp_own_times (K : PySem.W.Frag) (Z : Cs) : Sp := sp1 fun x H Q _ => ∃ (a : Addr) (nodes : List Node), x = .ref a ∧ TabA K H a nodeRow nodes ∧ nodes.length ≤ 1000 ∧ RetL (nodes.map fun n => tmV (ownI n).2) H Q
set_option maxHeartbeats 4000000 in
theorem ok_own_times {P : Program} {w : World} {K : PySem.W.Frag} {mg : Str → Option Value} {base : Heap} {Z : Cs} (T : TX K mg Z)  {f : Addr} {fd : FuncData} (F : Fun K "own_times" "own_times" s_own_times f fd) : FnOk P w K mg base CX0 1 f fd ["nodes"] (sp_own_times K Z) := by
  refine F.ok sc_own_times len1 (fun cdv A outer s H vs Q E hr h => ⟨_, (pss_one (ps_ret (pe_lc (own := [("node", 1)]) (by rfl) sc_own_times.nd (pi_list (pv 0)) (blkOk_by (own := [("node", 1)]) (N := N_own_times) (sc := defScope s_own_times) (by decide +kernel)) (fun _ _ _ _ _ => (pg_name (i := 1) sc_own_times.nd rfl (Or.inl rfl))) (fun _ _ _ _ _ => pts_nil) (fun _ _ _ _ _ => (pe_ifExp (pt_cmpR op_eq (pe_ix (ixT (K := K) rfl) (pv 1) pe_int (fun _ _ => rfl)) pe_int (nomark _)) (pe_op op_mul pe_int (pe_ix (ixT (K := K) rfl) (pv 1) pe_int (fun _ _ => rfl))) pe_non))))), ?_⟩)
  obtain ⟨_, rfl, a, nodes, rfl, ⟨xs, hx, hA⟩, hl, k⟩ := h
  walk_at "rd"
  refine EvL.go (lcM (fun n : Node => tmV (ownI n).2) (Evl.ev_var rfl) (SqL.of hx) hA (by omega) (fun x => rfl) fun i x n H1 e hi hy r => ?_) fun p H2 hp e hp2 => ?_
  · obtain ⟨q, rfl, hr⟩ := r
    refine Evl.ev_if (b := n.sink.isSome) (Evl.et_is (Evl.et_test (Evl.ev_op (Evl.ev_op (Evl.ev_var rfl) Evl.ev_c (Evl.rv_ixT (v := .int (if n.sink.isSome then 1 else 0)) (Same.sqt e hr) rfl)) Evl.ev_c (Evl.rv_eq rfl))) ?_) (fun h1 => ?_) (fun h1 => ?_)
    · cases n.sink <;> rfl
    · obtain ⟨sk, es⟩ := Option.isSome_iff_exists.mp h1
      refine Evl.ev_is (Evl.ev_op Evl.ev_c (Evl.ev_op (Evl.ev_var rfl) Evl.ev_c (Evl.rv_ixT (v := .int (((n.sink.map Prod.snd).getD 0 : Nat) : Int)) (Same.sqt e hr) rfl)) (Evl.rv_I (.inl ⟨by decide, by decide⟩))) ?_
      unfold ownI
      rw [es]
      rfl
    · have es : n.sink = none := by simpa using h1
      refine Evl.ev_is Evl.ev_c ?_
      unfold ownI
      rw [es]
      rfl
  · exact k p H2 hp e hp2
theorem c_own_times {P : Program} {w : World} {K : PySem.W.Frag} {mg : Str → Option Value} {base : Heap} {Z : Cs} (T : TX K mg Z)  {f : Addr} {fd : FuncData} (g : mg "own_times" = some (.ref f)) (F : Fun K "own_times" "own_times" s_own_times f fd) : Cal P w K mg base CX0 1 "own_times" ["nodes"] (sp_own_times K Z) :=
  ⟨f, fd, g, F.kp, F.binds (ps := ["nodes"]) (fun _ _ _ _ _ _ us hl => match us, hl with | [_], _ => rfl), ok_own_times T  F⟩
abbrev s_smaller_time : Stmt := top 5
abbrev N_smaller_time : List Str := ["one", "other"]
theorem sc_smaller_time : FnScope N_smaller_time ["one", "other"] (defScope s_smaller_time) := ⟨rfl, rfl, rfl, by decide +kernel, rfl, by decide +kernel, by decide +kernel⟩
def sp_smaller_time (K : PySem.W.Frag) (Z : Cs) : Sp := sp2 fun x y H Q _ => ∃ (one : Tm) (other : Int), x = tmV one ∧ y = .int other ∧ Q (.int (smaller one other)) H
set_option maxHeartbeats 4000000 in
theorem ok_smaller_time {P : Program} {w : World} {K : PySem.W.Frag} {mg : Str → Option Value} {base : Heap} {Z : Cs} (T : TX K mg Z)  {f : Addr} {fd : FuncData} (F : Fun K "smaller_time" "smaller_time" s_smaller_time f fd) : FnOk P w K mg base CX0 1 f fd ["one", "other"] (sp_smaller_time K Z) := by
  refine F.ok sc_smaller_time len2 (fun cdv A outer s H vs Q E hr h => ⟨_, (pss_one (ps_ret (pe_ifExp (PW.pt (pw_or (pt_cmpR op_isN (pv 0) pe_non (nomark _)) (pw_or1 (pt_cmpR op_lt (pv 1) (pv 0) (nomark _))))) (pv 1) (pv 0)))), ?_⟩)
  obtain ⟨_, _, rfl, one, other, rfl, rfl, k⟩ := h
  walk_at "rd"
  cases one with
  | none =>
    dsimp only [tmV]
    refine ⟨rfl, true, rfl, iteT (iteT ?_)⟩
    walk_at "rd"
    exact k
  | some z =>
    dsimp only [tmV]
    refine ⟨rfl, false, rfl, iteF ?_⟩
    walk_at "rd"
    refine ifd (fun c => ?_) (fun c => ?_)
    · walk_at "rd"
      have e : smaller (some z) other = other := if_pos c
      rw [e] at k
      exact k
    · walk_at "rd"
      have e : smaller (some z) other = z := if_neg c
      rw [e] at k
      exact k
theorem c_smaller_time {P : Program} {w : World} {K : PySem.W.Frag} {mg : Str → Option Value} {base : Heap} {Z : Cs} (T : TX K mg Z)  {f : Addr} {fd : FuncData} (g : mg "smaller_time" = some (.ref f)) (F : Fun K "smaller_time" "smaller_time" s_smaller_time f fd) : Cal P w K mg base CX0 1 "smaller_time" ["one", "other"] (sp_smaller_time K Z) :=
  ⟨f, fd, g, F.kp, F.binds (ps := ["one", "other"]) (fun _ _ _ _ _ _ us hl => match us, hl with | [_, _], _ => rfl), ok_smaller_time T  F⟩
abbrev s_behind_buffer : Stmt := top 6
abbrev N_behind_buffer : List Str := ["buffer", "load", "time", "capacitance", "resistance", "delay", "cost"]
theorem sc_behind_buffer : FnScope N_behind_buffer ["buffer", "load", "time"] (defScope s_behind_buffer) := ⟨rfl, rfl, rfl, by decide +kernel, rfl, by decide +kernel, by decide +kernel⟩
def sp_behind_buffer (K : PySem.W.Frag) (Z : Cs) : Sp := sp3 fun x y z H Q _ => ∃ (a : Addr) (b : Buffer) (load : Int) (t : Tm), x = .ref a ∧ y = .int load ∧ z = tmV t ∧ SqT K H a ((bufRow b).map V.int) ∧ b.resistance ≤ 1000000 ∧ RetT [.int (bufI b (load, t)).1, tmV (bufI b (load, t)).2] H Q
set_option maxHeartbeats 4000000 in
theorem ok_behind_buffer {P : Program} {w : World} {K : PySem.W.Frag} {mg : Str → Option Value} {base : Heap} {Z : Cs} (T : TX K mg Z)  {f : Addr} {fd : FuncData} (F : Fun K "behind_buffer" "behind_buffer" s_behind_buffer f fd) : FnOk P w K mg base CX0 1 f fd ["buffer", "load", "time"] (sp_behind_buffer K Z) := by
  refine F.ok sc_behind_buffer len3 (fun cdv A outer s H vs Q E hr h => ⟨_, (pss_cons (ps_asg (pv 0) (pgT (K := K) (n := 4) rfl (by rfl) (pgs_cons (pg_name (i := 3) sc_behind_buffer.nd rfl (Or.inl rfl)) (pgs_cons (pg_name (i := 4) sc_behind_buffer.nd rfl (Or.inl rfl)) (pgs_cons (pg_name (i := 5) sc_behind_buffer.nd rfl (Or.inl rfl)) (pgs_cons (pg_name (i := 6) sc_behind_buffer.nd rfl (Or.inl rfl)) pgs_nil))))))
    (pss_one (ps_ret (pe_tup (pa_cons (pv 3) (pa_cons (pe_ifExp (pt_cmpR op_isN (pv 2) pe_non (nomark _)) pe_non (pe_op op_sub (pv 2) (pe_op op_mul pe_int (pe_op op_add (pv 5) (pe_op op_mul (pv 4) (pv 1)))))) pa_nil)))))), ?_⟩)
  obtain ⟨_, _, _, rfl, a, b, load, t, rfl, rfl, rfl, hb, hr1, k⟩ := h
  walk_at "rd"
  refine r_tupg (xs := [.int (b.capacitance : Int), .int (b.resistance : Int), .int (b.delay : Int), .int (b.cost : Int)]) hb rfl ?_
  walk_at "rd"
  cases t with
  | none =>
    dsimp only [tmV]
    refine ⟨rfl, true, rfl, iteT ?_⟩
    walk_at "rd"
    refine ⟨lineR rfl, fun p hp => k p _ hp (same_new hp) upd_same⟩
  | some z =>
    dsimp only [tmV]
    refine ⟨rfl, false, rfl, iteF ?_⟩
    walk_at "rd"
    refine r_i (.inl ⟨by omega, by omega⟩) ?_
    walk_at "rd"
    refine r_i (.inl ⟨by omega, by omega⟩) ?_
    walk_at "rd"
    refine ⟨lineR rfl, fun p hp => k p _ hp (same_new hp) upd_same⟩
theorem c_behind_buffer {P : Program} {w : World} {K : PySem.W.Frag} {mg : Str → Option Value} {base : Heap} {Z : Cs} (T : TX K mg Z)  {f : Addr} {fd : FuncData} (g : mg "behind_buffer" = some (.ref f)) (F : Fun K "behind_buffer" "behind_buffer" s_behind_buffer f fd) : Cal P w K mg base CX0 1 "behind_buffer" ["buffer", "load", "time"] (sp_behind_buffer K Z) :=
  ⟨f, fd, g, F.kp, F.binds (ps := ["buffer", "load", "time"]) (fun _ _ _ _ _ _ us hl => match us, hl with | [_, _, _], _ => rfl), ok_behind_buffer T  F⟩
abbrev s_behind_wire : Stmt := top 7
abbrev N_behind_wire : List Str := ["node", "load", "time", "resistance", "capacitance"]
theorem sc_behind_wire : FnScope N_behind_wire ["node", "load", "time"] (defScope s_behind_wire) := ⟨rfl, rfl, rfl, by decide +kernel, rfl, by decide +kernel, by decide +kernel⟩
def sp_behind_wire (K : PySem.W.Frag) (Z : Cs) : Sp := sp3 fun x y z H Q _ => ∃ (a : Addr) (n : Node) (load : Int) (t : Tm), x = .ref a ∧ y = .int load ∧ z = tmV t ∧ SqT K H a ((nodeRow n).map V.int) ∧ n.resistance ≤ 1000000 ∧ RetT [.int (wireI n (load, t)).1, tmV (wireI n (load, t)).2] H Q
set_option maxHeartbeats 4000000 in
theorem ok_behind_wire {P : Program} {w : World} {K : PySem.W.Frag} {mg : Str → Option Value} {base : Heap} {Z : Cs} (T : TX K mg Z)  {f : Addr} {fd : FuncData} (F : Fun K "behind_wire" "behind_wire" s_behind_wire f fd) : FnOk P w K mg base CX0 1 f fd ["node", "load", "time"] (sp_behind_wire K Z) := by
  refine F.ok sc_behind_wire len3 (fun cdv A outer s H vs Q E hr h => ⟨_, (pss_cons (ps_par (i := 3) (j := 4) (by rfl) sc_behind_wire.nd rfl rfl (by decide) rfl rfl (pa_cons (pe_ix (ixT (K := K) rfl) (pv 0) pe_int (fun _ _ => rfl)) (pa_cons (pe_ix (ixT (K := K) rfl) (pv 0) pe_int (fun _ _ => rfl)) pa_nil)) (by rfl))
    (pss_one (ps_ret (pe_tup (pa_cons (pe_op op_add (pv 4) (pv 1)) (pa_cons (pe_ifExp (pt_cmpR op_isN (pv 2) pe_non (nomark _)) pe_non (pe_op op_sub (pv 2) (pe_op op_mul (pv 3) (pe_op op_add (pv 4) (pe_op op_mul pe_int (pv 1)))))) pa_nil)))))), ?_⟩)
  obtain ⟨_, _, _, rfl, a, n, load, t, rfl, rfl, rfl, hb, hr1, k⟩ := h
  walk_at "rd"
  refine r_ixT hb rfl ?_
  walk_at "rd"
  refine r_ixT hb rfl ?_
  walk_at "rd"
  cases t with
  | none =>
    dsimp only [tmV]
    refine ⟨rfl, true, rfl, iteT ?_⟩
    walk_at "rd"
    refine ⟨lineR rfl, fun p hp => k p _ hp (same_new hp) upd_same⟩
  | some z =>
    dsimp only [tmV]
    refine ⟨rfl, false, rfl, iteF ?_⟩
    walk_at "rd"
    refine r_i (.inl ⟨by omega, by omega⟩) ?_
    walk_at "rd"
    refine r_i (.inl ⟨by omega, by omega⟩) ?_
    walk_at "rd"
    refine ⟨lineR rfl, fun p hp => k p _ hp (same_new hp) upd_same⟩
theorem c_behind_wire {P : Program} {w : World} {K : PySem.W.Frag} {mg : Str → Option Value} {base : Heap} {Z : Cs} (T : TX K mg Z)  {f : Addr} {fd : FuncData} (g : mg "behind_wire" = some (.ref f)) (F : Fun K "behind_wire" "behind_wire" s_behind_wire f fd) : Cal P w K mg base CX0 1 "behind_wire" ["node", "load", "time"] (sp_behind_wire K Z) :=
  ⟨f, fd, g, F.kp, F.binds (ps := ["node", "load", "time"]) (fun _ _ _ _ _ _ us hl => match us, hl with | [_, _, _], _ => rfl), ok_behind_wire T  F⟩
structure RInv (H : Hp) (L M : Addr) (A : List (Int × Tm)) (H' : Hp) : Prop where
  same : Same H H'
  l : H' L = some (.lst (A.map fun s => V.int s.1))
  m : H' M = some (.lst (A.map fun s => tmV s.2))
theorem RInv.mono {H H' H2 : Hp} {L M : Addr} {A : List (Int × Tm)} (I : RInv H L M A H') (e : Same H' H2) : RInv H L M A H2 := ⟨I.same.trans e, e _ _ I.l, e _ _ I.m⟩
theorem RInv.set {H H' : Hp} {L M : Addr} {A : List (Int × Tm)} (I : RInv H L M A H') (hL : H L = none) (hM : H M = none) (ne : L ≠ M) (k : Nat) (x : Int) (t : Tm) :
    RInv H L M (A.set k (x, t)) (upd (upd H' L (.lst ((A.map fun s => V.int s.1).set k (.int x)))) M (.lst ((A.map fun s => tmV s.2).set k (tmV t)))) := by
  refine ⟨same_mut (same_mut I.same hL) hM, ?_, ?_⟩
  · rw [upd_ne ne, upd_same, List.map_set]
  · rw [upd_same, List.map_set]
theorem RInv.setL {H H' : Hp} {L M : Addr} {A : List (Int × Tm)} (I : RInv H L M A H') (hL : H L = none) (ne : L ≠ M) {k : Nat} (hk : k < A.length) (x : Int) :
    RInv H L M (A.set k (x, (A.getD k (0, none)).2)) (upd H' L (.lst ((A.map fun s => V.int s.1).set k (.int x)))) := by
  refine ⟨same_mut I.same hL, ?_, ?_⟩
  · rw [upd_same, List.map_set]
  · rw [upd_ne ne.symm, I.m, List.map_set]
    have : (A.map fun s => tmV s.2).set k (tmV (A.getD k (0, none)).2) = A.map fun s => tmV s.2 := by
      refine List.ext_getElem? fun i => ?_
      rw [List.getElem?_set]
      by_cases h : k = i
      · subst h
        simp [hk]
      · simp [h]
    rw [this]
theorem set_getD {A : List (Int × Tm)} {k : Nat} (h : k < A.length) : A.set k (A.getD k (0, none)) = A := by
  refine List.ext_getElem? fun i => ?_
  rw [List.getElem?_set]
  by_cases e : k = i
  · subst e
    simp [h]
  · simp [e]
theorem down_len {lib : List Buffer} {nodes : List Node} {ch : List Nat} : ∀ (ks : List Nat) (A : List (Int × Tm)), (ks.foldl (turnI lib nodes ch) A).length = A.length
  | [], _ => rfl
  | k :: r, A => by rw [List.foldl_cons, down_len r, turn_len]
theorem down_more {lib : List Buffer} {nodes : List Node} {ch : List Nat} {i : Nat} (hi : i < nodes.length) : downI lib nodes ch ((List.range nodes.length).reverse.take (i + 1)) = turnI lib nodes ch (downI lib nodes ch ((List.range nodes.length).reverse.take i)) (nodes.length - 1 - i) := by
  have h : (List.range nodes.length).reverse[i]? = some (nodes.length - 1 - i) := by
    rw [List.getElem?_reverse (by simpa using hi), List.length_range, List.getElem?_range (by omega)]
  unfold downI
  rw [take_more h, List.foldl_append]
  rfl
abbrev s_root_values : Stmt := top 8
abbrev N_root_values : List Str := ["nodes", "library", "choices", "loads", "times", "k", "load", "time", "parent", "node"]
theorem sc_root_values : FnScope N_root_values ["nodes", "library", "choices"] (defScope s_root_values) := ⟨rfl, rfl, rfl, by decide +kernel, rfl, by decide +kernel, by decide +kernel⟩
def sp_root_values (K : PySem.W.Frag) (Z : Cs) : Sp := sp3 fun x y z H Q _ => ∃ (a b c : Addr) (nodes : List Node) (lib : List Buffer) (ch : List Nat), x = .ref a ∧ y = .ref b ∧ z = .ref c ∧ TabA K H a nodeRow nodes ∧ TabA K H b bufRow lib ∧ H c = some (.lst (ch.map nv)) ∧
  TOk nodes lib ∧ ChOk nodes lib ch ∧ RetT [.int (rootI lib nodes ch).1, tmV (rootI lib nodes ch).2] H Q
set_option maxHeartbeats 4000000 in
theorem ok_root_values {P : Program} {w : World} {K : PySem.W.Frag} {mg : Str → Option Value} {base : Heap} {Z : Cs} (T : TX K mg Z) (c_behind_buffer : Cal P w K mg base CX0 1 "behind_buffer" ["buffer", "load", "time"] (sp_behind_buffer K Z)) (c_behind_wire : Cal P w K mg base CX0 1 "behind_wire" ["node", "load", "time"] (sp_behind_wire K Z)) (c_own_times : Cal P w K mg base CX0 1 "own_times" ["nodes"] (sp_own_times K Z)) (c_smaller_time : Cal P w K mg base CX0 1 "smaller_time" ["one", "other"] (sp_smaller_time K Z)) {f : Addr} {fd : FuncData} (F : Fun K "root_values" "root_values" s_root_values f fd) : FnOk P w K mg base CX0 2 f fd ["nodes", "library", "choices"] (sp_root_values K Z) := by
  refine F.ok sc_root_values len3 (fun cdv A outer s H vs Q E hr h => ⟨_, (pss_cons (ps_par (i := 3) (j := 4) (by rfl) sc_root_values.nd rfl rfl (by decide) rfl rfl (pa_cons (pe_lc (own := [("node", 9)]) (by rfl) sc_root_values.nd (pi_list (pv 0)) (blkOk_by (own := [("node", 9)]) (N := N_root_values) (sc := defScope s_root_values) (by decide +kernel)) (fun _ _ _ _ _ => (pg_name (i := 9) sc_root_values.nd rfl (Or.inl rfl))) (fun _ _ _ _ _ => pts_nil) (fun _ _ _ _ _ => (pe_ix (ixT (K := K) rfl) (pv 9) pe_int (fun _ _ => rfl)))) (pa_cons (pe_c c_own_times (hr.mono (by decide)) (by rfl) (pa_cons (pv 0) pa_nil)) pa_nil)) (by rfl))
    (pss_cons (ps_for PassesOwn.never rfl (pi_range3 (by rfl) T.b_range (pa_cons (pe_op op_sub (pe_callB (lenK (K := K) rfl) (by rfl) T.b_len PySem.boot_len (pa_cons (pv 0) pa_nil)) pe_int) (pa_cons (pe_un un_neg pe_int) (pa_cons (pe_un un_neg pe_int) pa_nil)))) (pg_name (i := 5) sc_root_values.nd rfl (Or.inl rfl)) (Evl.pss_cut (ps_if (pt_cmpR op_gt (pe_ix (ixL (K := K) rfl) (pv 2) (pv 5) (fun _ _ => rfl)) pe_int (nomark _)) (pss_one (ps_asg (pe_c c_behind_buffer (hr.mono (by decide)) (by rfl) (pa_cons (pe_ix (ixL (K := K) rfl) (pv 1) (pe_op op_sub (pe_ix (ixL (K := K) rfl) (pv 2) (pv 5) (fun _ _ => rfl)) pe_int) (fun _ _ => rfl)) (pa_cons (pe_ix (ixL (K := K) rfl) (pv 3) (pv 5) (fun _ _ => rfl)) (pa_cons (pe_ix (ixL (K := K) rfl) (pv 4) (pv 5) (fun _ _ => rfl)) pa_nil)))) (pgT (K := K) (n := 2) rfl (by rfl) (pgs_cons (pg_sub (pv 3) (pv 5) set_list) (pgs_cons (pg_sub (pv 4) (pv 5) set_list) pgs_nil))))) pss_nil)
    (pss_one (ps_if (pt_cmpR op_gt (pv 5) pe_int (nomark _)) (pss_cons (ps_asg (pe_c c_behind_wire (hr.mono (by decide)) (by rfl) (pa_cons (pe_ix (ixL (K := K) rfl) (pv 0) (pv 5) (fun _ _ => rfl)) (pa_cons (pe_ix (ixL (K := K) rfl) (pv 3) (pv 5) (fun _ _ => rfl)) (pa_cons (pe_ix (ixL (K := K) rfl) (pv 4) (pv 5) (fun _ _ => rfl)) pa_nil)))) (pgT (K := K) (n := 2) rfl (by rfl) (pgs_cons (pg_name (i := 6) sc_root_values.nd rfl (Or.inl rfl)) (pgs_cons (pg_name (i := 7) sc_root_values.nd rfl (Or.inl rfl)) pgs_nil))))
    (pss_cons (ps_set (i := 8) sc_root_values.nd rfl (Or.inl rfl) (pe_ix (ixT (K := K) rfl) (pe_ix (ixL (K := K) rfl) (pv 0) (pv 5) (fun _ _ => rfl)) pe_int (fun _ _ => rfl)))
    (pss_cons (ps_asg (pe_op op_add (pe_ix (ixL (K := K) rfl) (pv 3) (pv 8) (fun _ _ => rfl)) (pv 6)) (pg_sub (pv 3) (pv 8) set_list))
    (pss_one (ps_if (pt_cmpR op_notN (pv 7) pe_non (nomark _)) (pss_one (ps_asg (pe_c c_smaller_time (hr.mono (by decide)) (by rfl) (pa_cons (pe_ix (ixL (K := K) rfl) (pv 4) (pv 8) (fun _ _ => rfl)) (pa_cons (pv 7) pa_nil))) (pg_sub (pv 4) (pv 8) set_list))) pss_nil))))) pss_nil))))
    (pss_one (ps_ret (pe_tup (pa_cons (pe_ix (ixL (K := K) rfl) (pv 3) pe_int (fun _ _ => rfl)) (pa_cons (pe_ix (ixL (K := K) rfl) (pv 4) pe_int (fun _ _ => rfl)) pa_nil))))))), ?_⟩)
  obtain ⟨_, _, _, rfl, a, b, c, nodes, lib, ch, rfl, rfl, rfl, hN, hB, hC, ok, chok, k⟩ := h
  have hN' := hN
  obtain ⟨xs, hx, hA⟩ := hN'
  have n1 := ok.n1
  walk_at "rd"
  -- loads, times = ..
  refine EvL.go (lcM (fun n : Node => .int (ownI n).1) (Evl.ev_var rfl) (SqL.of hx) hA (by omega) (fun x => rfl) fun i x n H1 e hi hy r => ?_) fun L H2 hL e2 hp2 => ?_
  · obtain ⟨q, rfl, hr⟩ := r
    refine Evl.ev_is (Evl.ev_op (Evl.ev_var rfl) Evl.ev_c (Evl.rv_ixT (v := .int (((n.sink.map Prod.fst).getD 0 : Nat) : Int)) (Same.sqt e hr) rfl)) ?_
    unfold ownI
    cases n.sink <;> rfl
  walk_at "rd"
  refine ⟨_, rfl, a, nodes, rfl, hN.mono e2, by omega, fun M H3 hM e3 hp3 => ?_⟩
  walk_at "rd"
  have hM0 : H M = none := e2.free hM
  have neLM : L ≠ M := ne_of_none hp2 hM
  have s3 : Same H H3 := e2.trans e3
  have I0 : RInv H L M (nodes.map ownI) H3 := ⟨s3, by rw [e3 _ _ hp2, List.map_map]; rfl, by rw [hp3, List.map_map]; rfl⟩
  refine r_for fun D' hD => ?_
  walk_at "rd"
  refine ⟨a, xs, rfl, .inl (SqL.of (s3 _ _ hx)), ?_⟩
  walk_at "rd"
  rw [hA.1]
  have e0 : ((nodes.length : Int) - 1 - -1).toNat = nodes.length := by omega
  refine ⟨_, _, _, _, rfl, RgC.neg (by omega) (by omega) (by decide) (by decide), ?_⟩
  rw [e0]
  refine for_rangeC (D := D') (fun i σ H' => (∃ vk vl vt vp : Option V, σ = [some (.ref a), some (.ref b), some (.ref c), some (.ref L), some (.ref M), vk, vl, vt, vp, none]) ∧ RInv H L M (downI lib nodes ch ((List.range nodes.length).reverse.take i)) H') ⟨⟨none, none, none, none, rfl⟩, I0⟩ ?_ ?_
  · rintro i σ H' hi ⟨⟨vk, vl, vt, vp, rfl⟩, I⟩
    subst hD
    dsimp only
    rw [down_more hi]
    generalize hAA : downI lib nodes ch ((List.range nodes.length).reverse.take i) = A at I ⊢
    have lenA : A.length = nodes.length := by rw [← hAA]; unfold downI; rw [down_len, List.length_map]
    have ek : (nodes.length : Int) - 1 + (i : Nat) * -1 = ((nodes.length - 1 - i : Nat) : Int) := by omega
    rw [ek]
    have hk : nodes.length - 1 - i < nodes.length := by omega
    generalize nodes.length - 1 - i = kk at hk ⊢
    have hkA : kk < A.length := by omega
    have hkc : kk < ch.length := by rw [chok.1]; exact hk
    have hc := I.same _ _ hC
    have eN : nodes[kk]? = some (nodes.getD kk node0) := by simp [List.getD_eq_getElem?_getD, hk]
    obtain ⟨xn, exn, pn, rfl, rn⟩ := hA.got eN
    have memN : nodes.getD kk node0 ∈ nodes := List.mem_of_getElem? eN
    walk_at "rd"
    refine ⟨fun σm Hm => σm = [some (.ref a), some (.ref b), some (.ref c), some (.ref L), some (.ref M), some (.int (kk : Int)), vl, vt, vp, none] ∧ RInv H L M (A.set kk (chosenI lib (ch.getD kk 0) (A.getD kk (0, none)))) Hm, ?_, ?_⟩
    · walk_at "rd"
      refine r_ixL (SqL.of hc) (at_map (d := 0) hkc) ?_
      walk_at "rd"
      have hcl : ch.getD kk 0 ≤ lib.length := chok.2 _ (List.mem_of_getElem? (i := kk) (by simp [List.getD_eq_getElem?_getD, hkc]))
      refine ifd (fun cpos => ?_) (fun cneg => ?_)
      · walk_at "rd"
        have hcp : 0 < ch.getD kk 0 := by omega
        obtain ⟨ys, hy, hB2⟩ := hB
        have hcb : ch.getD kk 0 - 1 < lib.length := by omega
        have eB : lib[ch.getD kk 0 - 1]? = some lib[ch.getD kk 0 - 1] := by simp [hcb]
        generalize lib[ch.getD kk 0 - 1] = bf at eB
        obtain ⟨xb, exb, pb, rfl, rb⟩ := hB2.got eB
        refine r_ixL (SqL.of hc) (at_map (d := 0) hkc) ?_
        walk_at "rd"
        refine r_ixL (SqL.of (I.same _ _ hy)) (at_of (j := ch.getD kk 0 - 1) (by omega) exb) ?_
        walk_at "rd"
        refine r_ixL (SqL.of I.l) (at_map (d := (0, none)) hkA) ?_
        walk_at "rd"
        refine r_ixL (SqL.of I.m) (at_map (d := (0, none)) hkA) ?_
        walk_at "rd"
        refine ⟨_, _, _, rfl, pb, bf, _, _, rfl, rfl, rfl, Same.sqt I.same rb, ok.br _ (List.mem_of_getElem? eB), fun p H4 hp e4 hp4 => ?_⟩
        have I4 := I.mono e4
        refine r_tupg (SqT.of hp4) rfl ?_
        walk_at "rd"
        refine r_setL I4.l (ix_nat (by simpa using hkA)) ?_
        walk_at "rd"
        refine r_setL (by rw [upd_ne neLM.symm]; exact I4.m) (ix_nat (by simpa using hkA)) ?_
        walk_at "rd"
        refine ⟨rfl, ?_⟩
        have e5 : chosenI lib (ch.getD kk 0) (A.getD kk (0, none)) = bufI bf (A.getD kk (0, none)) := by
          unfold chosenI
          rw [if_neg (by omega), eB]
        rw [e5]
        exact I4.set hL hM0 neLM kk _ _
      · walk_at "rd"
        have e5 : chosenI lib (ch.getD kk 0) (A.getD kk (0, none)) = A.getD kk (0, none) := if_pos (by omega)
        rw [e5, set_getD hkA]
        exact ⟨rfl, I⟩
    · rintro σm Hm ⟨rfl, Im⟩
      have et : turnI lib nodes ch A kk = if kk = 0 then A.set kk (chosenI lib (ch.getD kk 0) (A.getD kk (0, none))) else (A.set kk (chosenI lib (ch.getD kk 0) (A.getD kk (0, none)))).set (nodes.getD kk node0).parent (joinI ((A.set kk (chosenI lib (ch.getD kk 0) (A.getD kk (0, none)))).getD (nodes.getD kk node0).parent (0, none)) (wireI (nodes.getD kk node0) (chosenI lib (ch.getD kk 0) (A.getD kk (0, none))))) := rfl
      rw [et]
      generalize chosenI lib (ch.getD kk 0) (A.getD kk (0, none)) = sk at Im ⊢
      have esk : (A.set kk sk).getD kk (0, none) = sk := getD_set_self' hkA
      have lenB : (A.set kk sk).length = nodes.length := by rw [List.length_set]; exact lenA
      generalize A.set kk sk = Bm at Im esk lenB ⊢
      have hkB : kk < Bm.length := by omega
      have tree := ok.tree kk _ eN
      have nres := ok.nr _ memN
      generalize nodes.getD kk node0 = nd at rn nres tree ⊢
      walk_at "rd"
      refine ifd (fun cpos => ?_) (fun cneg => ?_)
      · have hk0 : ¬ kk = 0 := by omega
        have hp := tree (by omega)
        have hpB : nd.parent < Bm.length := by omega
        rw [if_neg hk0]
        walk_at "rd"
        refine r_ixL (SqL.of (Im.same _ _ hx)) (atI_nat exn) ?_
        walk_at "rd"
        refine r_ixL (SqL.of Im.l) (at_map (d := (0, none)) hkB) ?_
        walk_at "rd"
        refine r_ixL (SqL.of Im.m) (at_map (d := (0, none)) hkB) ?_
        walk_at "rd"
        refine ⟨_, _, _, rfl, pn, nd, _, _, rfl, rfl, rfl, Same.sqt Im.same rn, nres, fun p H4 hp4 e4 hpt => ?_⟩
        have I4 := Im.mono e4
        rw [esk] at hpt
        generalize wireI nd sk = wv at hpt ⊢
        refine r_tupg (SqT.of hpt) rfl ?_
        walk_at "rd"
        refine r_ixL (SqL.of (I4.same _ _ hx)) (atI_nat exn) ?_
        walk_at "rd"
        refine r_ixT (v := .int (nd.parent : Int)) (Same.sqt I4.same rn) rfl ?_
        walk_at "rd"
        refine r_ixL (SqL.of I4.l) (at_map (d := (0, none)) hpB) ?_
        walk_at "rd"
        refine r_setL I4.l (ix_nat (by simpa using hpB)) ?_
        walk_at "rd"
        have I5 := I4.setL hL neLM hpB ((Bm.getD nd.parent (0, none)).1 + wv.1)
        obtain ⟨wl, wt⟩ := wv
        cases wt with
        | none =>
          dsimp only [tmV]
          refine ⟨rfl, false, rfl, iteF ?_⟩
          walk_at "rd"
          exact ⟨⟨_, _, _, _, rfl⟩, I5⟩
        | some wz =>
          dsimp only [tmV]
          refine ⟨rfl, true, rfl, iteT ?_⟩
          walk_at "rd"
          refine r_ixL (SqL.of I5.m) (at_map (d := (0, none)) (by rw [List.length_set]; exact hpB)) ?_
          walk_at "rd"
          refine ⟨_, _, rfl, _, wz, rfl, rfl, ?_⟩
          walk_at "rd"
          refine r_setL I5.m (ix_nat (by simpa using hpB)) ?_
          walk_at "rd"
          refine ⟨⟨_, _, _, _, rfl⟩, ⟨same_mut I5.same hM0, ?_, ?_⟩⟩
          · rw [upd_ne neLM, I5.l, List.map_set, List.map_set]
            rfl
          · rw [upd_same, getD_set_self' hpB, List.map_set, List.map_set]
            simp only [List.set_set]
            rfl
      · walk_at "rd"
        rw [if_pos (by omega)]
        exact ⟨⟨_, _, _, _, rfl⟩, Im⟩
  · rintro σ H' ⟨⟨vk, vl, vt, vp, rfl⟩, I⟩
    subst hD
    rw [List.take_of_length_le (by simp)] at I
    have hl0 : 0 < (downI lib nodes ch (List.range nodes.length).reverse).length := by unfold downI; rw [down_len, List.length_map]; exact ok.n0
    walk_at "rd"
    refine r_ixL (SqL.of I.l) (at_map (k := 0) (d := (0, none)) hl0) ?_
    walk_at "rd"
    refine r_ixL (SqL.of I.m) (at_map (k := 0) (d := (0, none)) hl0) ?_
    walk_at "rd"
    exact ⟨lineR rfl, fun p hp => k p _ (I.same.free hp) (I.same.trans (same_new hp)) upd_same⟩
theorem c_root_values {P : Program} {w : World} {K : PySem.W.Frag} {mg : Str → Option Value} {base : Heap} {Z : Cs} (T : TX K mg Z) (c_behind_buffer : Cal P w K mg base CX0 1 "behind_buffer" ["buffer", "load", "time"] (sp_behind_buffer K Z)) (c_behind_wire : Cal P w K mg base CX0 1 "behind_wire" ["node", "load", "time"] (sp_behind_wire K Z)) (c_own_times : Cal P w K mg base CX0 1 "own_times" ["nodes"] (sp_own_times K Z)) (c_smaller_time : Cal P w K mg base CX0 1 "smaller_time" ["one", "other"] (sp_smaller_time K Z)) {f : Addr} {fd : FuncData} (g : mg "root_values" = some (.ref f)) (F : Fun K "root_values" "root_values" s_root_values f fd) : Cal P w K mg base CX0 2 "root_values" ["nodes", "library", "choices"] (sp_root_values K Z) :=
  ⟨f, fd, g, F.kp, F.binds (ps := ["nodes", "library", "choices"]) (fun _ _ _ _ _ _ us hl => match us, hl with | [_, _, _], _ => rfl), ok_root_values T c_behind_buffer c_behind_wire c_own_times c_smaller_time F⟩
theorem slackI_eq {driver : Nat} {lib : List Buffer} {nodes : List Node} {ch : List Nat} {z : Int} (h : slackI driver lib nodes ch = some z) : ∃ t, (rootI lib nodes ch).2 = some t ∧ z = t - 2 * (driver : Int) * (rootI lib nodes ch).1 := by
  unfold slackI at h
  cases e : (rootI lib nodes ch).2 with
  | none => rw [e] at h; cases h
  | some t => rw [e] at h; exact ⟨t, rfl, (Option.some.inj h).symm⟩
abbrev s_double_slack : Stmt := top 9
abbrev N_double_slack : List Str := ["driver", "nodes", "library", "choices", "load", "time"]
theorem sc_double_slack : FnScope N_double_slack ["driver", "nodes", "library", "choices"] (defScope s_double_slack) := ⟨rfl, rfl, rfl, by decide +kernel, rfl, by decide +kernel, by decide +kernel⟩
def sp_double_slack (K : PySem.W.Frag) (Z : Cs) : Sp := sp4 fun w x y z H Q _ => ∃ (driver : Nat) (a b c : Addr) (nodes : List Node) (lib : List Buffer) (ch : List Nat) (sl : Int), w = .int (driver : Int) ∧ x = .ref a ∧ y = .ref b ∧ z = .ref c ∧ TabA K H a nodeRow nodes ∧ TabA K H b bufRow lib ∧ H c = some (.lst (ch.map nv)) ∧
  TOk nodes lib ∧ ChOk nodes lib ch ∧ driver ≤ 1000000 ∧ slackI driver lib nodes ch = some sl ∧ RetV (.int sl) H Q
set_option maxHeartbeats 4000000 in
theorem ok_double_slack {P : Program} {w : World} {K : PySem.W.Frag} {mg : Str → Option Value} {base : Heap} {Z : Cs} (T : TX K mg Z) (c_root_values : Cal P w K mg base CX0 2 "root_values" ["nodes", "library", "choices"] (sp_root_values K Z)) {f : Addr} {fd : FuncData} (F : Fun K "double_slack" "double_slack" s_double_slack f fd) : FnOk P w K mg base CX0 3 f fd ["driver", "nodes", "library", "choices"] (sp_double_slack K Z) := by
  refine F.ok sc_double_slack len4 (fun cdv A outer s H vs Q E hr h => ⟨_, (pss_cons (ps_asg (pe_c c_root_values (hr.mono (by decide)) (by rfl) (pa_cons (pv 1) (pa_cons (pv 2) (pa_cons (pv 3) pa_nil)))) (pgT (K := K) (n := 2) rfl (by rfl) (pgs_cons (pg_name (i := 4) sc_double_slack.nd rfl (Or.inl rfl)) (pgs_cons (pg_name (i := 5) sc_double_slack.nd rfl (Or.inl rfl)) pgs_nil))))
    (pss_one (ps_ret (pe_op op_sub (pv 5) (pe_op op_mul (pe_op op_mul pe_int (pv 0)) (pv 4)))))), ?_⟩)
  obtain ⟨_, _, _, _, rfl, driver, a, b, c, nodes, lib, ch, sl, rfl, rfl, rfl, rfl, hN, hB, hC, ok, chok, hd, hs, k⟩ := h
  obtain ⟨t, et, ez⟩ := slackI_eq hs
  walk_at "rd"
  refine ⟨_, _, _, rfl, a, b, c, nodes, lib, ch, rfl, rfl, rfl, hN, hB, hC, ok, chok, fun p H2 hp e2 hp2 => ?_⟩
  rw [et] at hp2
  refine r_tupg (SqT.of hp2) rfl ?_
  walk_at "rd"
  dsimp only [tmV]
  refine r_i (.inl ⟨by decide, by decide⟩) ?_
  walk_at "rd"
  refine r_i (.inl ⟨by omega, by omega⟩) ?_
  walk_at "rd"
  rw [ez] at k
  exact k H2 e2
theorem c_double_slack {P : Program} {w : World} {K : PySem.W.Frag} {mg : Str → Option Value} {base : Heap} {Z : Cs} (T : TX K mg Z) (c_root_values : Cal P w K mg base CX0 2 "root_values" ["nodes", "library", "choices"] (sp_root_values K Z)) {f : Addr} {fd : FuncData} (g : mg "double_slack" = some (.ref f)) (F : Fun K "double_slack" "double_slack" s_double_slack f fd) : Cal P w K mg base CX0 3 "double_slack" ["driver", "nodes", "library", "choices"] (sp_double_slack K Z) :=
  ⟨f, fd, g, F.kp, F.binds (ps := ["driver", "nodes", "library", "choices"]) (fun _ _ _ _ _ _ us hl => match us, hl with | [_, _, _, _], _ => rfl), ok_double_slack T c_root_values F⟩


abbrev s_are_choices : Stmt := top 12
abbrev N_are_choices : List Str := ["nodes", "library", "numbers", "node", "number"]
theorem sc_are_choices : FnScope N_are_choices ["nodes", "library", "numbers"] (defScope s_are_choices) := ⟨rfl, rfl, rfl, by decide +kernel, rfl, by decide +kernel, by decide +kernel⟩
def sp_are_choices (K : PySem.W.Frag) (Z : Cs) : Sp := sp3 fun x y z H Q _ => ∃ (a b c : Addr) (nodes : List Node) (lib : List Buffer) (nums : List Nat), x = .ref a ∧ y = .ref b ∧ z = .ref c ∧ TabA K H a nodeRow nodes ∧ TabA K H b bufRow lib ∧ H c = some (.lst (nums.map nv)) ∧
  nodes.length ≤ 1000 ∧ lib.length ≤ 1000 ∧ RetV (.bl (Kpd9.areChoices lib nodes nums)) H Q
set_option maxHeartbeats 4000000 in
theorem ok_are_choices {P : Program} {w : World} {K : PySem.W.Frag} {mg : Str → Option Value} {base : Heap} {Z : Cs} (T : TX K mg Z)  {f : Addr} {fd : FuncData} (F : Fun K "are_choices" "are_choices" s_are_choices f fd) : FnOk P w K mg base CX0 1 f fd ["nodes", "library", "numbers"] (sp_are_choices K Z) := by
  refine F.ok sc_are_choices len3 (fun cdv A outer s H vs Q E hr h => ⟨_, (pss_cons (ps_if (pt_cmpR op_ne (pe_callB (lenK (K := K) rfl) (by rfl) T.b_len PySem.boot_len (pa_cons (pv 2) pa_nil)) (pe_callB (lenK (K := K) rfl) (by rfl) T.b_len PySem.boot_len (pa_cons (pv 0) pa_nil)) (nomark _)) (pss_one (ps_ret pe_bl)) pss_nil)
    (pss_one (ps_ret (pe_callB (cr_all rfl) (by rfl) T.b_all (by decide +kernel) (pa_cons (pe_lc (own := [("node", 3), ("number", 4)]) (by rfl) sc_are_choices.nd (pi_zip (by rfl) T.b_zip (pa_cons (pv 0) (pa_cons (pv 2) pa_nil))) (blkOk_by (own := [("node", 3), ("number", 4)]) (N := N_are_choices) (sc := defScope s_are_choices) (by decide +kernel)) (fun _ _ _ _ _ => (pgT (K := K) (n := 2) rfl (by rfl) (pgs_cons (pg_name (i := 3) sc_are_choices.nd rfl (Or.inl rfl)) (pgs_cons (pg_name (i := 4) sc_are_choices.nd rfl (Or.inl rfl)) pgs_nil)))) (fun _ _ _ _ _ => pts_nil) (fun _ _ _ _ _ => (pe_cmpR op_le (pv 4) (pe_op op_mul (pe_callB (lenK (K := K) rfl) (by rfl) T.b_len PySem.boot_len (pa_cons (pv 1) pa_nil)) (pe_ix (ixT (K := K) rfl) (pv 3) pe_int (fun _ _ => rfl))) (nomark _)))) pa_nil))))), ?_⟩)
  obtain ⟨_, _, _, rfl, a, b, c, nodes, lib, nums, rfl, rfl, rfl, ⟨xs, hx, hA⟩, ⟨ys, hy, hB⟩, hC, n1, n2, k⟩ := h
  rw [areChoices_eq] at k
  walk_at "rd"
  refine ⟨c, _, rfl, .inl (SqL.of hC), ?_⟩
  walk_at "rd"
  refine ⟨a, _, rfl, .inl (SqL.of hx), ?_⟩
  walk_at "rd"
  rw [List.length_map, hA.1]
  refine ifN (fun ne => ?_) (fun e => ?_)
  · walk_at "rd"
    rw [if_neg (by omega)] at k
    exact k H (Same.refl H)
  · have e' : nums.length = nodes.length := by omega
    rw [if_pos e'] at k
    walk_at "rd"
    refine lcP2 (J := Itz K a c) (fun R r => ?_) (walk_zip (n := nodes.length) (by rw [List.length_map, hA.1, e', Nat.min_self])) (fun _ => true) (fun i => .bl (decide ((nums.getD i 0 : Int) ≤ (lib.length : Int) * (if (nodes.getD i node0).isAllowed = true then 1 else 0)))) (fun H1 s => ⟨SqL.of (s _ _ hx), SqL.of (s _ _ hC)⟩) (by omega) (by intro _ _; rfl) (fun _ _ _ _ _ _ => et_yes) ?_ ?_
    · walk_at "rd"
      exact ⟨a, c, xs, nums.map nv, rfl, SqL.of hx, SqL.of hC, r⟩
    · intro i x y hi ex ey _
      obtain ⟨n, hn, p, rfl, hp⟩ := hA.get ex
      have hin : i < nums.length := by omega
      have ey' : y = nv (nums.getD i 0) := by
        rw [List.getElem?_map, List.getElem?_eq_getElem hin] at ey
        rw [List.getD_eq_getElem?_getD, List.getElem?_eq_getElem hin]
        exact (Option.some.inj ey).symm
      have en : nodes.getD i node0 = n := by rw [List.getD_eq_getElem?_getD, hn]; rfl
      subst ey'
      rw [en, ← hB.1]
      exact Evl.ev_op (Evl.ev_var rfl) (Evl.ev_op (Evl.ev_len (Evl.ev_var rfl) (SqL.of hy)) (Evl.ev_op (Evl.ev_var rfl) Evl.ev_c (Evl.rv_ixT (v := .int (if n.isAllowed = true then 1 else 0)) hp rfl)) (Evl.rv_I (.inl ⟨by rw [hB.1]; omega, by rw [hB.1]; omega⟩))) Evl.rv_I0
    · intro D H1 hD s1 hD1
      rw [given_all] at hD1
      walk_at "rd"
      refine ⟨D, (List.range nodes.length).map fun i => decide ((nums.getD i 0 : Int) ≤ (lib.length : Int) * (if (nodes.getD i node0).isAllowed = true then 1 else 0)), rfl, SqL.of (by rw [List.map_map]; exact hD1), k H1 s1⟩
theorem c_are_choices {P : Program} {w : World} {K : PySem.W.Frag} {mg : Str → Option Value} {base : Heap} {Z : Cs} (T : TX K mg Z)  {f : Addr} {fd : FuncData} (g : mg "are_choices" = some (.ref f)) (F : Fun K "are_choices" "are_choices" s_are_choices f fd) : Cal P w K mg base CX0 1 "are_choices" ["nodes", "library", "numbers"] (sp_are_choices K Z) :=
  ⟨f, fd, g, F.kp, F.binds (ps := ["nodes", "library", "numbers"]) (fun _ _ _ _ _ _ us hl => match us, hl with | [_, _, _], _ => rfl), ok_are_choices T  F⟩
abbrev s_cost_of_buffers : Stmt := top 13
abbrev N_cost_of_buffers : List Str := ["library", "choices", "choice"]
theorem sc_cost_of_buffers : FnScope N_cost_of_buffers ["library", "choices"] (defScope s_cost_of_buffers) := ⟨rfl, rfl, rfl, by decide +kernel, rfl, by decide +kernel, by decide +kernel⟩
def sp_cost_of_buffers (K : PySem.W.Frag) (Z : Cs) : Sp := sp2 fun x y H Q _ => ∃ (a b : Addr) (lib : List Buffer) (ch : List Nat), x = .ref a ∧ y = .ref b ∧ TabA K H a bufRow lib ∧ H b = some (.lst (ch.map nv)) ∧ ch.length ≤ 1000 ∧ (∀ c ∈ ch, c ≤ lib.length) ∧ RetV (nv (Kpd9.costOf lib ch)) H Q
set_option maxHeartbeats 4000000 in
theorem ok_cost_of_buffers {P : Program} {w : World} {K : PySem.W.Frag} {mg : Str → Option Value} {base : Heap} {Z : Cs} (T : TX K mg Z)  {f : Addr} {fd : FuncData} (F : Fun K "cost_of" "cost_of" s_cost_of_buffers f fd) : FnOk P w K mg base CX0 1 f fd ["library", "choices"] (sp_cost_of_buffers K Z) := by
  refine F.ok sc_cost_of_buffers len2 (fun cdv A outer s H vs Q E hr h => ⟨_, (pss_one (ps_ret (pe_callB (cr_sum rfl) (by rfl) T.b_sum (by decide +kernel) (pa_cons (pe_lc (own := [("choice", 2)]) (by rfl) sc_cost_of_buffers.nd (pi_list (pv 1)) (blkOk_by (own := [("choice", 2)]) (N := N_cost_of_buffers) (sc := defScope s_cost_of_buffers) (by decide +kernel)) (fun _ _ _ _ _ => (pg_name (i := 2) sc_cost_of_buffers.nd rfl (Or.inl rfl))) (fun _ _ _ _ _ => (pts_one (pt_cmpR op_gt (pv 2) pe_int (nomark _)))) (fun _ _ _ _ _ => (pe_ix (ixT (K := K) rfl) (pe_ix (ixL (K := K) rfl) (pv 0) (pe_op op_sub (pv 2) pe_int) (fun _ _ => rfl)) pe_int (fun _ _ => rfl)))) pa_nil)))), ?_⟩)
  obtain ⟨_, _, rfl, a, b, lib, ch, rfl, rfl, ⟨ys, hy, hB⟩, hC, n1, hle, k⟩ := h
  walk_at "rd"
  have hA : All2 (fun x (c : Nat) => x = nv c) (ch.map nv) ch := ⟨by simp, fun i x c h1 h2 => by rw [List.getElem?_map, h2] at h1; exact (Option.some.inj h1).symm⟩
  refine EvL.go (lcA (fun c => decide (0 < c)) (fun c => nv ((lib[c - 1]?.map Buffer.cost).getD 0)) (Evl.ev_var rfl) (SqL.of hC) hA (by omega) (fun x => rfl) (fun i x c H1 e hi hc r => ?_) (fun i x c H1 e hi hc r hp => ?_)) fun p H2 hp e hp2 => ?_
  · subst r
    refine Evl.et_is (Evl.et_test (Evl.ev_op (Evl.ev_var rfl) Evl.ev_c Evl.rv_I0)) ?_
    refine decide_eq_decide.mpr ?_
    omega
  · subst r
    have hp := of_decide_eq_true hp
    have hcl := hle c (List.mem_of_getElem? hc)
    have hcb : c - 1 < lib.length := by omega
    have eB : lib[c - 1]? = some lib[c - 1] := by simp [hcb]
    rw [eB]
    generalize lib[c - 1] = bf at eB
    obtain ⟨xb, exb, pb, rfl, rb⟩ := hB.got eB
    exact Evl.ev_op (Evl.ev_op (Evl.ev_var rfl) (Evl.ev_op (Evl.ev_var rfl) Evl.ev_c Evl.rv_I0) (Evl.rv_ixL (SqL.of (e _ _ hy)) (at_of (j := c - 1) (by omega) exb))) Evl.ev_c (Evl.rv_ixT (Same.sqt e rb) rfl)
  · walk_at "rd"
    refine ⟨p, (ch.filter fun c => decide (0 < c)).map fun c => (((lib[c - 1]?.map Buffer.cost).getD 0 : Nat) : Int), rfl, SqL.of (by rw [List.map_map]; exact hp2), ?_⟩
    rw [cost_eq]
    exact k H2 e
theorem c_cost_of_buffers {P : Program} {w : World} {K : PySem.W.Frag} {mg : Str → Option Value} {base : Heap} {Z : Cs} (T : TX K mg Z)  {f : Addr} {fd : FuncData} (g : mg "cost_of_buffers" = some (.ref f)) (F : Fun K "cost_of" "cost_of" s_cost_of_buffers f fd) : Cal P w K mg base CX0 1 "cost_of_buffers" ["library", "choices"] (sp_cost_of_buffers K Z) :=
  ⟨f, fd, g, F.kp, F.binds (ps := ["library", "choices"]) (fun _ _ _ _ _ _ us hl => match us, hl with | [_, _], _ => rfl), ok_cost_of_buffers T  F⟩
abbrev s_all_choices : Stmt := top 15
abbrev N_all_choices : List Str := ["nodes", "library", "found", "node", "longer", "begun", "choice"]
theorem sc_all_choices : FnScope N_all_choices ["nodes", "library"] (defScope s_all_choices) := ⟨rfl, rfl, rfl, by decide +kernel, rfl, by decide +kernel, by decide +kernel⟩
def sp_all_choices (K : PySem.W.Frag) (Z : Cs) : Sp := sp2 fun x y H Q _ => ∃ (a b : Addr) (nodes : List Node) (lib : List Buffer), x = .ref a ∧ y = .ref b ∧ TabA K H a nodeRow nodes ∧ TabA K H b bufRow lib ∧ nodes.length ≤ 1000 ∧ lib.length ≤ 1000 ∧ (∀ i, (bfs lib.length (nodes.take i)).length ≤ 1024) ∧
  ∀ L H2 xs, H L = none → Same H H2 → H2 L = some (.lst xs) → All2 (LstR (fun p => H p = none) H2) xs (bfs lib.length nodes) → Q (.ref L) H2
set_option maxHeartbeats 4000000 in
theorem ok_all_choices {P : Program} {w : World} {K : PySem.W.Frag} {mg : Str → Option Value} {base : Heap} {Z : Cs} (T : TX K mg Z)  {f : Addr} {fd : FuncData} (F : Fun K "all_choices" "all_choices" s_all_choices f fd) : FnOk P w K mg base CX0 1 f fd ["nodes", "library"] (sp_all_choices K Z) := by
  refine F.ok sc_all_choices len2 (fun cdv A outer s H vs Q E hr h => ⟨_, (pss_cons (ps_set (i := 2) sc_all_choices.nd rfl (Or.inl rfl) (pe_lst (pa_cons (pe_lst pa_nil) pa_nil)))
    (pss_cons (ps_for PassesOwn.never rfl (pi_list (pv 0)) (pg_name (i := 3) sc_all_choices.nd rfl (Or.inl rfl)) (pss_cons (ps_set (i := 4) sc_all_choices.nd rfl (Or.inl rfl) (pe_lst pa_nil))
    (pss_cons (ps_for PassesOwn.never rfl (pi_list (pv 2)) (pg_name (i := 5) sc_all_choices.nd rfl (Or.inr rfl)) (pss_one (ps_expr (pe_bm PySem.F.plainAttrs_list PySem.F.slot_list_extend PySem.F.type_list_extend mt_extend (pv 4) (pa_cons (pe_lc (own := [("choice", 6)]) (by rfl) sc_all_choices.nd (pi_range1 (by rfl) T.b_range (pa_cons (pe_op op_add pe_int (pe_op op_mul (pe_callB (lenK (K := K) rfl) (by rfl) T.b_len PySem.boot_len (pa_cons (pv 1) pa_nil)) (pe_ix (ixT (K := K) rfl) (pv 3) pe_int (fun _ _ => rfl)))) pa_nil)) (blkOk_by (own := [("choice", 6)]) (N := N_all_choices) (sc := defScope s_all_choices) (by decide +kernel)) (fun _ _ _ _ _ => (pg_name (i := 6) sc_all_choices.nd rfl (Or.inl rfl))) (fun _ _ _ _ _ => pts_nil) (fun _ _ _ _ _ => (pe_op op_cat (pv 5) (pe_lst (pa_cons (pv 6) pa_nil))))) pa_nil)))))
    (pss_one (ps_set (i := 2) sc_all_choices.nd rfl (Or.inl rfl) (pv 4))))))
    (pss_one (ps_ret (pv 2))))), ?_⟩)
  obtain ⟨_, _, rfl, a, b, nodes, lib, rfl, rfl, ⟨xs, hx, hA⟩, ⟨ys, hy, hB⟩, n1, n2, hz, k⟩ := h
  walk_at "rd"
  refine ⟨lineR rfl, fun p hp => ?_⟩
  walk_at "rd"
  refine ⟨lineR rfl, fun F0 hF0 => ?_⟩
  walk_at "rd"
  have s0 : Same H (upd (upd H p (.lst [])) F0 (.lst [.ref p])) := (same_new hp).trans (same_new hF0)
  have hF0' : H F0 = none := (same_new hp).free hF0
  have nep : p ≠ F0 := fun z => by rw [← z, upd_same] at hF0; cases hF0
  refine r_for fun D' hD => ?_
  walk_at "rd"
  refine ⟨a, rfl, ⟨_, SqL.of (s0 _ _ hx)⟩, for_list (D := D') (xs := xs) (fun i σ H' => ∃ (F : Addr) (vn vg vb : Option V), σ = [some (.ref a), some (.ref b), some (.ref F), vn, vg, vb, none] ∧ Same H H' ∧ H F = none ∧ ∃ fs, H' F = some (.lst fs) ∧ All2 (LstR (fun p => H p = none) H') fs (bfs lib.length (nodes.take i))) ?_ ?_ ?_ ?_⟩
  · refine ⟨F0, none, none, none, rfl, s0, hF0', [.ref p], upd_same, All2.one ⟨p, rfl, hp, ?_⟩⟩
    rw [upd_ne nep, upd_same]
    rfl
  · rintro i σ H' _ ⟨F, vn, vg, vb, rfl, s1, _⟩
    exact SqL.of (s1 _ _ hx)
  · rintro i x σ H' hi ⟨F, vn, vg, vb, rfl, s1, hF, fs, hfs, hFA⟩
    subst hD
    obtain ⟨n, hn, pn, rfl, hpn⟩ := hA.get hi
    have hi2 := (List.getElem?_eq_some_iff.mp hn).1
    have htake := take_more hn
    walk_at "rd"
    refine ⟨lineR rfl, fun G hG => ?_⟩
    walk_at "rd"
    have s2 := same_new (o := HO.lst []) hG
    refine r_for fun D2 hD2 => ?_
    walk_at "rd"
    refine ⟨F, rfl, ⟨_, SqL.of (s2 _ _ hfs)⟩, for_list (D := D2) (xs := fs) (fun j σ H2 => (∃ vb, σ = [some (.ref a), some (.ref b), some (.ref F), some (.ref pn), some (.ref G), vb, none]) ∧ Same H' H2 ∧ ∃ zs, H2 G = some (.lst zs) ∧ All2 (LstR (fun p => H' p = none ∧ p ≠ G) H2) zs (((bfs lib.length (nodes.take i)).take j).flatMap fun b => (pick lib.length n).map fun c => b ++ [c])) ?_ ?_ ?_ ?_⟩
    · exact ⟨⟨_, rfl⟩, s2, [], upd_same, .nil⟩
    · rintro j σ H2 _ ⟨_, s3, _⟩
      exact SqL.of (s3 _ _ hfs)
    · rintro j x σ H2 hj ⟨⟨vb, rfl⟩, s3, zs, hzs, hZ⟩
      subst hD2
      obtain ⟨bs, hbs, pb, rfl, hpb0, hpb⟩ := hFA.get hj
      have hj2 := (List.getElem?_eq_some_iff.mp hbs).1
      have hzi := hz i
      have hzi1 := hz (i + 1)
      rw [bfs_more htake] at hzi1
      have hbl : bs.length ≤ 1000 := by
        have hm : bs ∈ bfs lib.length (nodes.take i) := List.mem_of_getElem? hbs
        rw [bfs_eq] at hm
        rw [(allChoices_ok hm).1, List.length_take]
        omega
      have ejm := take_more hbs
      have hpart : ((((bfs lib.length (nodes.take i)).take (j + 1)).flatMap fun b => (pick lib.length n).map fun c => b ++ [c])).length ≤ 1024 := by
        refine Nat.le_trans ?_ hzi1
        rw [← List.take_append_drop (j + 1) (bfs lib.length (nodes.take i))]
        simp only [List.take_append_drop, List.length_flatMap, List.length_map]
        rw [← List.take_append_drop (j + 1) (bfs lib.length (nodes.take i)), List.map_append, List.sum_append]
        simp only [List.take_append_drop]
        omega
      rw [ejm, List.flatMap_append, List.length_append] at hpart
      simp only [List.flatMap_cons, List.flatMap_nil, List.append_nil, List.length_map] at hpart
      walk_at "rd"
      refine ⟨ty_list hzs, ?_⟩
      walk_at "rd"
      have epick : pick lib.length n = List.range (1 + (lib.length : Int) * (if n.isAllowed = true then 1 else 0)).toNat := by
        unfold pick
        by_cases ha : n.isAllowed = true
        · rw [if_pos ha, if_pos ha]
          congr 1
          omega
        · rw [if_neg ha, if_neg ha]
          rfl
      have ebnd : -(2 ^ 62) ≤ 1 + (lib.length : Int) * (if n.isAllowed = true then 1 else 0) ∧ 1 + (lib.length : Int) * (if n.isAllowed = true then 1 else 0) < 2000 := by
        split <;> omega
      rw [epick] at hpart hzi1 hZ ⊢
      rw [List.length_range] at hpart
      refine lcNew (J := Itr 0 (1 + (lib.length : Int) * (if n.isAllowed = true then 1 else 0)).toNat) (fun R r => ?_) (x := fun c => .int (0 + (c : Nat))) walk_range (fun _ _ _ _ _ h => h) (fun c => bs.map nv ++ [.int (0 + (c : Nat))]) (fun _ _ => trivial) (by omega) (by intro _; rfl) (fun c hc => ?_) ?_
      · walk_at "rd"
        refine ⟨b, ys, rfl, .inl (SqL.of (s3 _ _ (s1 _ _ hy))), ?_⟩
        walk_at "rd"
        refine r_ixT (v := .int (if n.isAllowed = true then 1 else 0)) (Same.sqt (s1.trans s3) hpn) rfl ?_
        walk_at "rd"
        rw [hB.1]
        refine r_i (.inl ⟨by omega, by omega⟩) ?_
        walk_at "rd"
        exact ⟨_, rfl, ebnd.1, by omega, r⟩
      · exact el_cat1 rfl (s3 _ _ hpb) (by rw [List.length_map]; omega) (Evl.ev_var rfl)
      · intro D H3 ws hD0 s4 hD1 hW
        walk_at "rd"
        have hG3 := s4 _ _ hzs
        refine ⟨G, D, zs, ws, rfl, rfl, hG3, hD1, line2 ?_, ?_⟩
        · rw [hZ.1, hW.1, List.length_map, List.length_range]
          omega
        walk_at "rd"
        have neGD : D ≠ G := fun z => by rw [z, hzs] at hD0; cases hD0
        refine ⟨⟨_, rfl⟩, same_mut (s3.trans s4) hG, zs ++ ws, upd_same, ?_⟩
        rw [ejm, List.flatMap_append]
        simp only [List.flatMap_cons, List.flatMap_nil, List.append_nil]
        refine All2.app (hZ.mono ?_) ?_
        · rintro y cs ⟨p, rfl, ⟨h1, h2⟩, h3⟩
          exact ⟨p, rfl, ⟨h1, h2⟩, by rw [upd_ne h2]; exact s4 _ _ h3⟩
        · refine All2.map ((All2.unmap hW).mono ?_)
          rintro y c ⟨p, rfl, h1, h2, h3⟩
          have hne : p ≠ G := fun z => by rw [z, hzs] at h1; cases h1
          refine ⟨p, rfl, ⟨s3.free h1, hne⟩, ?_⟩
          rw [upd_ne hne, h3, List.map_append]
          congr 4
          simp
    · rintro σ H2 ⟨⟨vb, rfl⟩, s3, zs, hzs, hZ⟩
      subst hD2
      rw [List.take_of_length_le (by rw [← hFA.1]; exact Nat.le_refl _)] at hZ
      walk_at "rd"
      refine ⟨G, _, _, _, rfl, s1.trans s3, s1.free hG, zs, hzs, ?_⟩
      rw [bfs_more htake]
      exact hZ.mono fun y cs h => h.imp fun p hp => s1.free hp.1
  · rintro σ H' ⟨F, vn, vg, vb, rfl, s1, hF, fs, hfs, hFA⟩
    subst hD
    rw [List.take_of_length_le (by rw [hA.1]; exact Nat.le_refl _)] at hFA
    walk_at "rd"
    exact k F H' fs hF s1 hfs hFA
theorem c_all_choices {P : Program} {w : World} {K : PySem.W.Frag} {mg : Str → Option Value} {base : Heap} {Z : Cs} (T : TX K mg Z)  {f : Addr} {fd : FuncData} (g : mg "all_choices" = some (.ref f)) (F : Fun K "all_choices" "all_choices" s_all_choices f fd) : Cal P w K mg base CX0 1 "all_choices" ["nodes", "library"] (sp_all_choices K Z) :=
  ⟨f, fd, g, F.kp, F.binds (ps := ["nodes", "library"]) (fun _ _ _ _ _ _ us hl => match us, hl with | [_, _], _ => rfl), ok_all_choices T  F⟩


/-- an offer, its objects at places of which P holds -/
def OffR (P : Addr → Prop) (H : Hp) (x : V) (o : Off) : Prop := ∃ p q, x = .ref p ∧ P p ∧ P q ∧ H p = some (.tup [nv o.1, .int o.2.1, .ref q]) ∧ H q = some (.lst (o.2.2.map nv))
theorem OffR.mono {P : Addr → Prop} {H H' : Hp} {x : V} {o : Off} (e : Same H H') (h : OffR P H x o) : OffR P H' x o := let ⟨p, q, a, b, c, u, v⟩ := h; ⟨p, q, a, b, c, e _ _ u, e _ _ v⟩
theorem OffR.imp {P P' : Addr → Prop} {H : Hp} {x : V} {o : Off} (e : ∀ p, P p → P' p) (h : OffR P H x o) : OffR P' H x o := let ⟨p, q, a, b, c, u, v⟩ := h; ⟨p, q, a, e _ b, e _ c, u, v⟩
theorem OffR.kp {P : Addr → Prop} {F : Addr} {H H' : Hp} {x : V} {o : Off} (e : Kp F H H') (n : ∀ p, P p → p ≠ F) (h : OffR P H x o) : OffR P H' x o := let ⟨p, q, a, b, c, u, v⟩ := h; ⟨p, q, a, b, c, e _ _ (n _ b) u, e _ _ (n _ c) v⟩
abbrev Any : Addr → Prop := fun _ => True
def CheapV (H : Hp) (v : V) : Option Off → Prop
  | none => v = .non
  | some o => OffR Any H v o
theorem choices_ok {d : Design} (W : Wf d) {c : List Nat} (h : c ∈ Kpd9.allChoices d.library.length d.nodes) : ChOk d.nodes d.library c ∧ c.length ≤ 10 :=
  ⟨⟨(allChoices_ok h).1, (allChoices_ok h).2⟩, by rw [(allChoices_ok h).1]; exact W.n1⟩
theorem offers_le {d : Design} (W : Wf d) : (offersM d.driver d.library d.nodes).length ≤ 1024 := by
  have h := bfs_le W.lib W.per d.nodes.length
  rw [List.take_of_length_le (Nat.le_refl _), bfs_eq] at h
  unfold offersM
  rw [List.length_map]
  exact h
abbrev s_offers : Stmt := top 16
abbrev N_offers : List Str := ["state", "found", "choices", "slack"]
theorem sc_offers : FnScope N_offers ["state"] (defScope s_offers) := ⟨rfl, rfl, rfl, by decide +kernel, rfl, by decide +kernel, by decide +kernel⟩
def sp_offers (K : PySem.W.Frag) (Z : Cs) : Sp := sp1 fun x H Q _ => ∃ (a : Addr) (d : Design) (l : Ls) (asg : Nat), x = .ref a ∧ StAt K Z H a d l asg ∧ Wf d ∧ sinks d.nodes = true ∧
  ∀ L H2 xs, H L = none → Same H H2 → H2 L = some (.lst xs) → All2 (OffR Any H2) xs (offersM d.driver d.library d.nodes) → Q (.ref L) H2
set_option maxHeartbeats 4000000 in
theorem ok_offers {P : Program} {w : World} {K : PySem.W.Frag} {mg : Str → Option Value} {base : Heap} {Z : Cs} (T : TX K mg Z) (c_all_choices : Cal P w K mg base CX0 1 "all_choices" ["nodes", "library"] (sp_all_choices K Z)) (c_cost_of_buffers : Cal P w K mg base CX0 1 "cost_of_buffers" ["library", "choices"] (sp_cost_of_buffers K Z)) (c_double_slack : Cal P w K mg base CX0 3 "double_slack" ["driver", "nodes", "library", "choices"] (sp_double_slack K Z)) {f : Addr} {fd : FuncData} (F : Fun K "offers" "offers" s_offers f fd) : FnOk P w K mg base CX0 4 f fd ["state"] (sp_offers K Z) := by
  refine F.ok sc_offers len1 (fun cdv A outer s H vs Q E hr h => ⟨_, (pss_cons (ps_set (i := 1) sc_offers.nd rfl (Or.inl rfl) (pe_lst pa_nil))
    (pss_cons (ps_for PassesOwn.never rfl (pi_list (pe_c c_all_choices (hr.mono (by decide)) (by rfl) (pa_cons (fldK (K := K) rfl (pv 0) rfl) (pa_cons (fldK (K := K) rfl (pv 0) rfl) pa_nil)))) (pg_name (i := 2) sc_offers.nd rfl (Or.inl rfl)) (pss_cons (ps_set (i := 3) sc_offers.nd rfl (Or.inl rfl) (pe_c c_double_slack (hr.mono (by decide)) (by rfl) (pa_cons (fldK (K := K) rfl (pv 0) rfl) (pa_cons (fldK (K := K) rfl (pv 0) rfl) (pa_cons (fldK (K := K) rfl (pv 0) rfl) (pa_cons (pv 2) pa_nil))))))
    (pss_one (ps_expr (pe_bm PySem.F.plainAttrs_list PySem.F.slot_list_append PySem.F.type_list_append mt_append (pv 1) (pa_cons (pe_tup (pa_cons (pe_c c_cost_of_buffers (hr.mono (by decide)) (by rfl) (pa_cons (fldK (K := K) rfl (pv 0) rfl) (pa_cons (pv 2) pa_nil))) (pa_cons (pv 3) (pa_cons (pv 2) pa_nil)))) pa_nil))))))
    (pss_one (ps_ret (pv 1))))), ?_⟩)
  obtain ⟨_, rfl, a, d, l, asg, rfl, S, W, hs, k⟩ := h
  walk_at "rd"
  refine ⟨lineR rfl, fun F hF => ?_⟩
  have e1 := same_new (o := HO.lst []) hF
  have S1 := S.mono e1
  walk_at "rd"
  refine r_for fun D' hD => ?_
  walk_at "rd"
  refine ⟨_, _, rfl, l.nodes, l.library, d.nodes, d.library, rfl, rfl, S1.nodes, S1.library, by have := W.n1; omega, by have := W.lib; omega, fun i => bfs_le W.lib W.per i, fun L H2 xs hL e2 hx hA => ?_⟩
  rw [bfs_eq] at hA
  have hle := offers_le W
  have elen : (offersM d.driver d.library d.nodes).length = (Kpd9.allChoices d.library.length d.nodes).length := by unfold offersM; rw [List.length_map]
  have hF2 : H2 F = some (.lst []) := e2 _ _ upd_same
  have neLF : L ≠ F := fun z => by rw [z, upd_same] at hL; cases hL
  have s02 : Same H H2 := e1.trans e2
  refine ⟨L, rfl, ⟨_, SqL.of hx⟩, for_list (D := D') (xs := xs) (fun i σ H' => (∃ vc vs, σ = [some (.ref a), some (.ref F), vc, vs]) ∧ Kp F H2 H' ∧ ∃ ys, H' F = some (.lst ys) ∧ All2 (OffR (fun p => p ≠ F) H') ys ((offersM d.driver d.library d.nodes).take i)) ?_ ?_ ?_ ?_⟩
  · exact ⟨⟨_, _, rfl⟩, fun b o _ h => h, [], hF2, .nil⟩
  · rintro i σ H' _ ⟨_, k2, _⟩
    exact SqL.of (k2 _ _ neLF hx)
  · rintro i x σ H' hi ⟨⟨vc, vs, rfl⟩, k2, ys, hys, hY⟩
    subst hD
    obtain ⟨c, hc, pc, rfl, hpc0, hpc⟩ := hA.get hi
    have nepF : pc ≠ F := fun z => by rw [z, upd_same] at hpc0; cases hpc0
    have hpc' := k2 _ _ nepF hpc
    have s1 : Same H H' := Kp.same s02 k2 hF
    have S' := S.mono s1
    obtain ⟨cok, clen⟩ := choices_ok W (List.mem_of_getElem? hc)
    have ho : (offersM d.driver d.library d.nodes)[i]? = some (Kpd9.costOf d.library c, (slackI d.driver d.library d.nodes c).getD 0, c) := by
      unfold offersM
      rw [List.getElem?_map, hc]
      rfl
    have hi2 := (List.getElem?_eq_some_iff.mp hi).1
    have hl2 := hA.1
    walk_at "rd"
    refine ⟨_, _, _, _, rfl, d.driver, l.nodes, l.library, pc, d.nodes, d.library, c, _, rfl, rfl, rfl, rfl, S'.nodes, S'.library, hpc', W.tok, cok, by have := W.drv; omega, slackI_some W.tree W.n0 hs, fun H3 e3 => ?_⟩
    walk_at "rd"
    have S3 := S'.mono e3
    refine ⟨ty_list (e3 _ _ hys), ?_⟩
    walk_at "rd"
    refine ⟨_, _, rfl, l.library, pc, d.library, c, rfl, rfl, S3.library, e3 _ _ hpc', by omega, cok.2, fun H4 e4 => ?_⟩
    walk_at "rd"
    refine ⟨lineR rfl, fun T hT => ?_⟩
    walk_at "rd"
    have hF4 : H4 F = some (.lst ys) := e4 _ _ (e3 _ _ hys)
    have neTF : T ≠ F := fun z => by rw [z, hF4] at hT; cases hT
    refine ⟨F, ys, _, rfl, rfl, by rw [upd_ne neTF.symm]; exact hF4, line1 (by rw [hY.1, List.length_take]; omega), ?_⟩
    have s34 : Same H' (upd H4 T (.tup [nv (Kpd9.costOf d.library c), .int ((slackI d.driver d.library d.nodes c).getD 0), .ref pc])) := (e3.trans e4).trans (same_new hT)
    have k3 : Kp F H' (upd (upd H4 T (.tup [nv (Kpd9.costOf d.library c), .int ((slackI d.driver d.library d.nodes c).getD 0), .ref pc])) F (.lst (ys ++ [.ref T]))) := (Kp.of s34).trans Kp.upd
    walk_at "rd"
    refine ⟨⟨_, _, rfl⟩, k2.trans k3, _, upd_same, ?_⟩
    rw [take_more ho]
    refine All2.snoc (hY.mono fun _ _ h => h.kp k3 fun _ h => h) ⟨T, pc, rfl, neTF, nepF, ?_, ?_⟩
    · rw [upd_ne neTF, upd_same]
    · exact k3 _ _ nepF hpc'
  · rintro σ H' ⟨⟨vc, vs, rfl⟩, k2, ys, hys, hY⟩
    subst hD
    rw [List.take_of_length_le (by rw [hA.1]; omega)] at hY
    walk_at "rd"
    exact k F H' ys hF (Kp.same s02 k2 hF) hys (hY.mono fun _ _ h => h.imp fun _ _ => trivial)
theorem c_offers {P : Program} {w : World} {K : PySem.W.Frag} {mg : Str → Option Value} {base : Heap} {Z : Cs} (T : TX K mg Z) (c_all_choices : Cal P w K mg base CX0 1 "all_choices" ["nodes", "library"] (sp_all_choices K Z)) (c_cost_of_buffers : Cal P w K mg base CX0 1 "cost_of_buffers" ["library", "choices"] (sp_cost_of_buffers K Z)) (c_double_slack : Cal P w K mg base CX0 3 "double_slack" ["driver", "nodes", "library", "choices"] (sp_double_slack K Z)) {f : Addr} {fd : FuncData} (g : mg "offers" = some (.ref f)) (F : Fun K "offers" "offers" s_offers f fd) : Cal P w K mg base CX0 4 "offers" ["state"] (sp_offers K Z) :=
  ⟨f, fd, g, F.kp, F.binds (ps := ["state"]) (fun _ _ _ _ _ _ us hl => match us, hl with | [_], _ => rfl), ok_offers T c_all_choices c_cost_of_buffers c_double_slack F⟩
abbrev s_cheapest_offer : Stmt := top 17
abbrev N_cheapest_offer : List Str := ["some", "found", "offer"]
theorem sc_cheapest_offer : FnScope N_cheapest_offer ["some"] (defScope s_cheapest_offer) := ⟨rfl, rfl, rfl, by decide +kernel, rfl, by decide +kernel, by decide +kernel⟩
def sp_cheapest_offer (K : PySem.W.Frag) (Z : Cs) : Sp := sp1 fun x H Q _ => ∃ (a : Addr) (xs : List V) (os : List Off), x = .ref a ∧ H a = some (.lst xs) ∧ All2 (OffR Any H) xs os ∧ ∀ v, CheapV H v (cheapM os) → Q v H
set_option maxHeartbeats 4000000 in
theorem ok_cheapest_offer {P : Program} {w : World} {K : PySem.W.Frag} {mg : Str → Option Value} {base : Heap} {Z : Cs} (T : TX K mg Z)  {f : Addr} {fd : FuncData} (F : Fun K "cheapest_offer" "cheapest_offer" s_cheapest_offer f fd) : FnOk P w K mg base CX0 1 f fd ["some"] (sp_cheapest_offer K Z) := by
  refine F.ok sc_cheapest_offer len1 (fun cdv A outer s H vs Q E hr h => ⟨_, (pss_cons (ps_set (i := 1) sc_cheapest_offer.nd rfl (Or.inl rfl) pe_non)
    (pss_cons (ps_for PassesOwn.never rfl (pi_list (pv 0)) (pg_name (i := 2) sc_cheapest_offer.nd rfl (Or.inl rfl)) (pss_one (ps_if (PW.pt (pw_or (pt_cmpR op_isN (pv 1) pe_non (nomark _)) (pw_or1 (pt_cmpR op_lt (pe_ix (ixT (K := K) rfl) (pv 2) pe_int (fun _ _ => rfl)) (pe_ix (ixT (K := K) rfl) (pv 1) pe_int (fun _ _ => rfl)) (nomark _))))) (pss_one (ps_set (i := 1) sc_cheapest_offer.nd rfl (Or.inl rfl) (pv 2))) pss_nil)))
    (pss_one (ps_ret (pv 1))))), ?_⟩)
  obtain ⟨_, rfl, a, xs, os, rfl, hx, hA, k⟩ := h
  walk_at "rd"
  refine r_for fun D' hD => ?_
  walk_at "rd"
  refine ⟨a, rfl, ⟨_, SqL.of hx⟩, for_list (D := D') (xs := xs) (fun i σ H' => H' = H ∧ ∃ v vo, σ = [some (.ref a), some v, vo] ∧ CheapV H v (cheapM (os.take i))) ⟨rfl, _, _, rfl, rfl⟩ ?_ ?_ ?_⟩
  · rintro i σ H' _ ⟨rfl, _⟩
    exact SqL.of hx
  · rintro i x σ H' hi ⟨rfl, v, vo, rfl, hv⟩
    subst hD
    obtain ⟨o, ho, r⟩ := hA.get hi
    have r' := r
    obtain ⟨p, q, rfl, _, _, hp, hq⟩ := r'
    have et := take_more ho
    walk_at "rd"
    cases ec : cheapM (os.take i) with
    | none =>
      rw [ec] at hv
      have ev : v = .non := hv
      subst ev
      refine ⟨rfl, true, rfl, iteT (iteT ?_)⟩
      walk_at "rd"
      refine ⟨rfl, _, _, rfl, ?_⟩
      rw [et, cheap_snoc, ec]
      exact r
    | some z =>
      rw [ec] at hv
      have hv' := hv
      obtain ⟨p2, q2, rfl, _, _, hp2, hq2⟩ := hv'
      refine ⟨rfl, false, rfl, iteF ?_⟩
      walk_at "rd"
      refine r_ixT (SqT.of hp) rfl ?_
      walk_at "rd"
      refine r_ixT (SqT.of hp2) rfl ?_
      walk_at "rd"
      refine ifd (fun c => ?_) (fun c => ?_)
      · walk_at "rd"
        refine ⟨rfl, _, _, rfl, ?_⟩
        rw [et, cheap_snoc, ec]
        dsimp only
        rw [if_pos (by omega)]
        exact r
      · walk_at "rd"
        refine ⟨rfl, _, _, rfl, ?_⟩
        rw [et, cheap_snoc, ec]
        dsimp only
        rw [if_neg (by omega)]
        exact hv
  · rintro σ H' ⟨rfl, v, vo, rfl, hv⟩
    subst hD
    rw [List.take_of_length_le (by rw [hA.1]; exact Nat.le_refl _)] at hv
    walk_at "rd"
    exact k v hv
theorem c_cheapest_offer {P : Program} {w : World} {K : PySem.W.Frag} {mg : Str → Option Value} {base : Heap} {Z : Cs} (T : TX K mg Z)  {f : Addr} {fd : FuncData} (g : mg "cheapest_offer" = some (.ref f)) (F : Fun K "cheapest_offer" "cheapest_offer" s_cheapest_offer f fd) : Cal P w K mg base CX0 1 "cheapest_offer" ["some"] (sp_cheapest_offer K Z) :=
  ⟨f, fd, g, F.kp, F.binds (ps := ["some"]) (fun _ _ _ _ _ _ us hl => match us, hl with | [_], _ => rfl), ok_cheapest_offer T  F⟩
abbrev s_target_offer : Stmt := top 19
abbrev N_target_offer : List Str := ["state", "target", "divisor", "offer"]
theorem sc_target_offer : FnScope N_target_offer ["state", "target", "divisor"] (defScope s_target_offer) := ⟨rfl, rfl, rfl, by decide +kernel, rfl, by decide +kernel, by decide +kernel⟩
def sp_target_offer (K : PySem.W.Frag) (Z : Cs) : Sp := sp3 fun x y z H Q _ => ∃ (a : Addr) (d : Design) (l : Ls) (asg : Nat) (t : Int) (v : Nat), x = .ref a ∧ y = .int t ∧ z = nv v ∧ StAt K Z H a d l asg ∧ Wf d ∧ sinks d.nodes = true ∧ v ≤ 1000 ∧
  ∀ u H2, Same H H2 → CheapV H2 u (cheapM ((offersM d.driver d.library d.nodes).filter fun o => decide (2 * t ≤ o.2.1 * (v : Int)))) → Q u H2
set_option maxHeartbeats 4000000 in
theorem ok_target_offer {P : Program} {w : World} {K : PySem.W.Frag} {mg : Str → Option Value} {base : Heap} {Z : Cs} (T : TX K mg Z) (c_cheapest_offer : Cal P w K mg base CX0 1 "cheapest_offer" ["some"] (sp_cheapest_offer K Z)) (c_offers : Cal P w K mg base CX0 4 "offers" ["state"] (sp_offers K Z)) {f : Addr} {fd : FuncData} (F : Fun K "target_offer" "target_offer" s_target_offer f fd) : FnOk P w K mg base CX0 5 f fd ["state", "target", "divisor"] (sp_target_offer K Z) := by
  refine F.ok sc_target_offer len3 (fun cdv A outer s H vs Q E hr h => ⟨_, (pss_one (ps_ret (pe_c c_cheapest_offer (hr.mono (by decide)) (by rfl) (pa_cons (pe_lc (own := [("offer", 3)]) (by rfl) sc_target_offer.nd (pi_list (pe_c c_offers (hr.mono (by decide)) (by rfl) (pa_cons (pv 0) pa_nil))) (blkOk_by (own := [("offer", 3)]) (N := N_target_offer) (sc := defScope s_target_offer) (by decide +kernel)) (fun _ _ _ _ _ => (pg_name (i := 3) sc_target_offer.nd rfl (Or.inl rfl))) (fun _ _ _ _ _ => (pts_one (pt_cmpR op_ge (pe_op op_mul (pe_ix (ixT (K := K) rfl) (pv 3) pe_int (fun _ _ => rfl)) (pv 2)) (pe_op op_mul pe_int (pv 1)) (nomark _)))) (fun _ _ _ _ _ => (pv 3))) pa_nil)))), ?_⟩)
  obtain ⟨_, _, _, rfl, a, d, l, asg, t, v, rfl, rfl, rfl, S, W, hs, hv, k⟩ := h
  walk_at "rd"
  refine r_lc ?_
  walk_at "rd"
  refine ⟨_, rfl, a, d, l, asg, rfl, S, W, hs, fun L H2 xs hL e2 hx hA => ?_⟩
  have hle := offers_le W
  refine ⟨L, rfl, ⟨_, SqL.of hx⟩, ?_⟩
  refine lcF (fun o => decide (2 * t ≤ o.2.1 * (v : Int))) (SqL.of hx) hA (by omega) (by intro _; rfl) (by intro _; rfl) ?_ ?_
  · rintro i x o hi ho ⟨p, q, rfl, _, _, hp, hq⟩
    exact Evl.et_test (Evl.ev_op (Evl.ev_op (Evl.ev_op (Evl.ev_var rfl) Evl.ev_c (Evl.rv_ixT (v := .int o.2.1) (SqT.of hp) rfl)) (Evl.ev_var rfl) (Evl.rv_I (.inr ⟨by omega, by omega⟩))) (Evl.ev_op Evl.ev_c (Evl.ev_var rfl) (Evl.rv_I (.inl ⟨by decide, by decide⟩))) Evl.rv_I0)
  · intro D H3 zs hD e3 hz hZ
    walk_at "rd"
    exact ⟨_, rfl, D, zs, _, rfl, hz, hZ.mono fun _ _ h => h.mono e3, fun u hu => k u H3 (e2.trans e3) hu⟩
theorem c_target_offer {P : Program} {w : World} {K : PySem.W.Frag} {mg : Str → Option Value} {base : Heap} {Z : Cs} (T : TX K mg Z) (c_cheapest_offer : Cal P w K mg base CX0 1 "cheapest_offer" ["some"] (sp_cheapest_offer K Z)) (c_offers : Cal P w K mg base CX0 4 "offers" ["state"] (sp_offers K Z)) {f : Addr} {fd : FuncData} (g : mg "target_offer" = some (.ref f)) (F : Fun K "target_offer" "target_offer" s_target_offer f fd) : Cal P w K mg base CX0 5 "target_offer" ["state", "target", "divisor"] (sp_target_offer K Z) :=
  ⟨f, fd, g, F.kp, F.binds (ps := ["state", "target", "divisor"]) (fun _ _ _ _ _ _ us hl => match us, hl with | [_, _, _], _ => rfl), ok_target_offer T c_cheapest_offer c_offers F⟩


theorem offers_ne {d : Design} (W : Wf d) : offersM d.driver d.library d.nodes ≠ [] := by
  have h : (Kpd9.allChoices d.library.length d.nodes).length = (d.library.length + 1) ^ (d.nodes.filter Node.isAllowed).length := allChoices_len _ _
  have hp : 0 < (d.library.length + 1) ^ (d.nodes.filter Node.isAllowed).length := Nat.pow_pos (by omega)
  intro z
  have : (offersM d.driver d.library d.nodes).length = (Kpd9.allChoices d.library.length d.nodes).length := by unfold offersM; rw [List.length_map]
  rw [z, h] at this
  simp only [List.length_nil] at this
  omega
abbrev s_best_offer : Stmt := top 18
abbrev N_best_offer : List Str := ["state", "some", "greatest", "cost", "slack", "choices", "offer"]
theorem sc_best_offer : FnScope N_best_offer ["state"] (defScope s_best_offer) := ⟨rfl, rfl, rfl, by decide +kernel, rfl, by decide +kernel, by decide +kernel⟩
def sp_best_offer (K : PySem.W.Frag) (Z : Cs) : Sp := sp1 fun x H Q _ => ∃ (a : Addr) (d : Design) (l : Ls) (asg : Nat), x = .ref a ∧ StAt K Z H a d l asg ∧ Wf d ∧ sinks d.nodes = true ∧
  ∀ u H2 g, Same H H2 → (∃ o, o ∈ offersM d.driver d.library d.nodes ∧ o.2.1 = g) → (∀ o, o ∈ offersM d.driver d.library d.nodes → o.2.1 ≤ g) → CheapV H2 u (cheapM ((offersM d.driver d.library d.nodes).filter fun o => decide (o.2.1 = g))) → Q u H2
set_option maxHeartbeats 4000000 in
theorem ok_best_offer {P : Program} {w : World} {K : PySem.W.Frag} {mg : Str → Option Value} {base : Heap} {Z : Cs} (T : TX K mg Z) (c_cheapest_offer : Cal P w K mg base CX0 1 "cheapest_offer" ["some"] (sp_cheapest_offer K Z)) (c_offers : Cal P w K mg base CX0 4 "offers" ["state"] (sp_offers K Z)) {f : Addr} {fd : FuncData} (F : Fun K "best_offer" "best_offer" s_best_offer f fd) : FnOk P w K mg base CX0 5 f fd ["state"] (sp_best_offer K Z) := by
  refine F.ok sc_best_offer len1 (fun cdv A outer s H vs Q E hr h => ⟨_, (pss_cons (ps_set (i := 1) sc_best_offer.nd rfl (Or.inl rfl) (pe_c c_offers (hr.mono (by decide)) (by rfl) (pa_cons (pv 0) pa_nil)))
    (pss_cons (ps_set (i := 2) sc_best_offer.nd rfl (Or.inr rfl) (pe_callB (cr_max rfl) (by rfl) T.b_max (by decide +kernel) (pa_cons (pe_lc (own := [("cost", 3), ("slack", 4), ("choices", 5)]) (by rfl) sc_best_offer.nd (pi_list (pv 1)) (blkOk_by (own := [("cost", 3), ("slack", 4), ("choices", 5)]) (N := N_best_offer) (sc := defScope s_best_offer) (by decide +kernel)) (fun _ _ _ _ _ => (pgT (K := K) (n := 3) rfl (by rfl) (pgs_cons (pg_name (i := 3) sc_best_offer.nd rfl (Or.inl rfl)) (pgs_cons (pg_name (i := 4) sc_best_offer.nd rfl (Or.inl rfl)) (pgs_cons (pg_name (i := 5) sc_best_offer.nd rfl (Or.inl rfl)) pgs_nil))))) (fun _ _ _ _ _ => pts_nil) (fun _ _ _ _ _ => (pv 4))) pa_nil)))
    (pss_one (ps_ret (pe_c c_cheapest_offer (hr.mono (by decide)) (by rfl) (pa_cons (pe_lc (own := [("offer", 6)]) (by rfl) sc_best_offer.nd (pi_list (pv 1)) (blkOk_by (own := [("offer", 6)]) (N := N_best_offer) (sc := defScope s_best_offer) (by decide +kernel)) (fun _ _ _ _ _ => (pg_name (i := 6) sc_best_offer.nd rfl (Or.inl rfl))) (fun _ _ _ _ _ => (pts_one (pt_cmpR op_eq (pe_ix (ixT (K := K) rfl) (pv 6) pe_int (fun _ _ => rfl)) (pv 2) (nomark _)))) (fun _ _ _ _ _ => (pv 6))) pa_nil)))))), ?_⟩)
  obtain ⟨_, rfl, a, d, l, asg, rfl, S, W, hs, k⟩ := h
  walk_at "rd"
  refine ⟨_, rfl, a, d, l, asg, rfl, S, W, hs, fun L H2 xs hL e2 hx hA => ?_⟩
  have hle := offers_le W
  have hne := offers_ne W
  generalize offersM d.driver d.library d.nodes = os at hA hle hne k
  walk_at "rd"
  refine r_lc ?_
  walk_at "rd"
  refine ⟨L, rfl, ⟨_, SqL.of hx⟩, ?_⟩
  obtain ⟨qf, hqf⟩ : ∃ qf : Nat → Addr, ∀ (i : Nat) (x : V) (o : Off), xs[i]? = some x → os[i]? = some o → ∃ p, x = .ref p ∧ H2 p = some (.tup [nv o.1, .int o.2.1, .ref (qf i)]) := by
    refine Classical.axiomOfChoice (r := fun (i : Nat) (q : Addr) => ∀ (x : V) (o : Off), xs[i]? = some x → os[i]? = some o → ∃ p, x = V.ref p ∧ H2 p = some (.tup [nv o.1, .int o.2.1, .ref q])) fun i => ?_
    cases e1 : xs[i]? with
    | none => exact ⟨0, fun x o h => by cases h⟩
    | some x =>
      obtain ⟨o, ho, p, q, rfl, _, _, hp, _⟩ := hA.get e1
      exact ⟨q, fun x' o' h h' => by
        cases h
        rw [ho] at h'
        cases h'
        exact ⟨p, rfl, hp⟩⟩
  refine lcG (fx := fun i => xs[i]?) (s2 := fun i => [some (.ref a), some (.ref L), none, some (nv (os.getD i (0, 0, [])).1), some (.int (os.getD i (0, 0, [])).2.1), some (.ref (qf i)), none]) walk_list (fun i H1 y H1' _ h => h) (fun _ => true) (fun i => .int (os.getD i (0, 0, [])).2.1) (fun H1 s => SqL.of (s _ _ hx)) (by rw [hA.1]; omega) ?_ (by intro i _; rfl) (fun i x _ _ => et_yes) (fun i x _ _ _ => Evl.ev_var rfl) ?_
  · intro i x H1 R hi s1 ex r
    obtain ⟨o, ho, _⟩ := hA.get ex
    obtain ⟨p, rfl, hp⟩ := hqf i x o ex ho
    have eo : os.getD i (0, 0, []) = o := by rw [List.getD_eq_getElem?_getD, ho]; rfl
    rw [eo] at r
    exact r_tupg (SqT.of (s1 _ _ hp)) rfl (r_gcons (r_gname (r_gcons (r_gname (r_gcons (r_gname (r_gnil r)))))))
  · intro D H3 hD e3 hD3
    rw [given_all, hA.1] at hD3
    walk_at "rd"
    have en : (List.range os.length).map (fun i => V.int (os.getD i (0, 0, [])).2.1) = (os.map fun o => o.2.1).map V.int := by
      refine List.ext_getElem? fun i => ?_
      by_cases h : i < os.length
      · simp [h, List.getD_eq_getElem?_getD]
      · simp [h]
    rw [en] at hD3
    refine ⟨D, os.map fun o => o.2.1, rfl, SqL.of hD3, ?_, fun m hm hmle => ?_⟩
    · rw [List.length_map]
      exact List.length_pos_iff.mpr hne
    walk_at "rd"
    refine r_lc ?_
    walk_at "rd"
    refine ⟨L, rfl, ⟨_, SqL.of (e3 _ _ hx)⟩, ?_⟩
    refine lcF (fun o => decide (o.2.1 = m)) (SqL.of (e3 _ _ hx)) (hA.mono fun _ _ h => h.mono e3) (by omega) (by intro _; rfl) (by intro _; rfl) ?_ ?_
    · rintro i x o hi ho ⟨p, q, rfl, _, _, hp, hq⟩
      refine Evl.et_is (Evl.et_test (Evl.ev_op (Evl.ev_op (Evl.ev_var rfl) Evl.ev_c (Evl.rv_ixT (v := .int o.2.1) (SqT.of hp) rfl)) (Evl.ev_var rfl) (Evl.rv_eq rfl))) ?_
      exact decide_eq_decide.mpr ⟨fun h => V.int.inj h, fun h => congrArg _ h⟩
    · intro D2 H4 zs hD2 e4 hz hZ
      walk_at "rd"
      refine ⟨_, rfl, D2, zs, _, rfl, hz, hZ.mono fun _ _ h => h.mono e4, fun u hu => ?_⟩
      refine k u H4 m ((e2.trans e3).trans e4) ?_ ?_ hu
      · obtain ⟨o, ho, eo⟩ := List.mem_map.mp hm
        exact ⟨o, ho, eo⟩
      · exact fun o ho => hmle _ (List.mem_map.mpr ⟨o, ho, rfl⟩)
theorem c_best_offer {P : Program} {w : World} {K : PySem.W.Frag} {mg : Str → Option Value} {base : Heap} {Z : Cs} (T : TX K mg Z) (c_cheapest_offer : Cal P w K mg base CX0 1 "cheapest_offer" ["some"] (sp_cheapest_offer K Z)) (c_offers : Cal P w K mg base CX0 4 "offers" ["state"] (sp_offers K Z)) {f : Addr} {fd : FuncData} (g : mg "best_offer" = some (.ref f)) (F : Fun K "best_offer" "best_offer" s_best_offer f fd) : Cal P w K mg base CX0 5 "best_offer" ["state"] (sp_best_offer K Z) :=
  ⟨f, fd, g, F.kp, F.binds (ps := ["state"]) (fun _ _ _ _ _ _ us hl => match us, hl with | [_], _ => rfl), ok_best_offer T c_cheapest_offer c_offers F⟩
structure GInv (os : List Off) (kvs : List (Key × V)) (ks : List Nat) : Prop where
  keys : kvs.map (·.1) = ks.map fun (k : Nat) => (Sum.inl (k : Int) : Key)
  nd : ks.Nodup
  mem : ∀ k, k ∈ ks ↔ ∃ o ∈ os, o.1 = k
  val : ∀ k ∈ ks, valV kvs (.inl (k : Int)) = some (.int (slackAt os k))
theorem valV_mem {kvs : List (Key × V)} {k : Key} : (valV kvs k).isSome = true ↔ k ∈ kvs.map (·.1) := by
  rw [← valV_any, List.any_eq_true]
  simp only [List.mem_map, decide_eq_true_eq]
theorem GInv.has {os : List Off} {kvs : List (Key × V)} {ks : List Nat} (I : GInv os kvs ks) {k : Nat} : (valV kvs (.inl (k : Int))).isSome = true ↔ k ∈ ks := by
  rw [valV_mem, I.keys]
  simp only [List.mem_map, Sum.inl.injEq]
  exact ⟨fun ⟨a, h, e⟩ => by have : a = k := by omega
                             subst this; exact h, fun h => ⟨k, h, rfl⟩⟩
theorem put_keys_old {kvs : List (Key × V)} {k : Key} {v : V} (h : (valV kvs k).isSome = true) : (putK kvs k v).map (·.1) = kvs.map (·.1) := by
  unfold putK
  rw [valV_any, if_pos h, List.map_map]
  refine List.map_congr_left fun p _ => ?_
  simp only [Function.comp]
  split <;> rfl
theorem GInv.step {os : List Off} {kvs : List (Key × V)} {ks : List Nat} (I : GInv os kvs ks) (o : Off) :
    ∃ ks', GInv (os ++ [o]) (putK kvs (.inl (o.1 : Int)) (.int (slackAt (os ++ [o]) o.1))) ks' := by
  have hmem : ∀ k, (∃ p ∈ os ++ [o], p.1 = k) ↔ k ∈ ks ∨ o.1 = k := fun k => by
    rw [I.mem k]
    constructor
    · rintro ⟨p, hp, e⟩
      rcases List.mem_append.mp hp with h | h
      · exact .inl ⟨p, h, e⟩
      · have : p = o := by simpa using h
        subst this
        exact .inr e
    · rintro (⟨p, hp, e⟩ | e)
      · exact ⟨p, by simp [hp], e⟩
      · exact ⟨o, by simp, e⟩
  have hval : ∀ k, k ∈ ks ∨ o.1 = k → valV (putK kvs (.inl (o.1 : Int)) (.int (slackAt (os ++ [o]) o.1))) (.inl (k : Int)) = some (.int (slackAt (os ++ [o]) k)) := fun k hk => by
    rw [valV_put]
    by_cases e : o.1 = k
    · subst e
      rw [if_pos rfl]
    · rw [if_neg (fun z => e (by have := Sum.inl.inj z; omega)), slackAt_other e]
      exact I.val k (hk.resolve_right e)
  by_cases hk : o.1 ∈ ks
  · refine ⟨ks, ?_, I.nd, fun k => ?_, fun k h => hval k (.inl h)⟩
    · rw [put_keys_old (I.has.mpr hk)]
      exact I.keys
    · rw [hmem k]
      exact ⟨fun h => .inl h, fun h => h.elim id fun e => e ▸ hk⟩
  · refine ⟨ks ++ [o.1], ?_, ?_, fun k => ?_, fun k h => hval k ?_⟩
    · have hn : valV kvs (.inl (o.1 : Int)) = none := by
        cases e : valV kvs (.inl (o.1 : Int)) with
        | none => rfl
        | some x => exact absurd (I.has.mp (by rw [e]; rfl)) hk
      rw [putK_new _ hn, List.map_append, List.map_append, I.keys]
      rfl
    · refine List.nodup_append.mpr ⟨I.nd, by simp, fun a ha b hb => ?_⟩
      have : b = o.1 := by simpa using hb
      subst this
      exact fun e => hk (e ▸ ha)
    · rw [hmem k]
      simp [eq_comm]
    · simpa [eq_comm] using h
theorem GInv.len {os : List Off} {kvs : List (Key × V)} {ks : List Nat} (I : GInv os kvs ks) : kvs.length = ks.length := by
  have := congrArg List.length I.keys
  simpa using this
theorem nodup_le {os : List Off} {ks : List Nat} (hn : ks.Nodup) (h : ∀ k ∈ ks, ∃ o ∈ os, o.1 = k) : ks.length ≤ os.length := by
  have := nodup_len (m := os.map fun o => o.1) hn fun k hk => by
    obtain ⟨o, ho, e⟩ := h k hk
    exact List.mem_map.mpr ⟨o, ho, e⟩
  simpa using this
abbrev s_greatest_slacks : Stmt := top 20
abbrev N_greatest_slacks : List Str := ["some", "found", "cost", "slack", "choices"]
theorem sc_greatest_slacks : FnScope N_greatest_slacks ["some"] (defScope s_greatest_slacks) := ⟨rfl, rfl, rfl, by decide +kernel, rfl, by decide +kernel, by decide +kernel⟩
def sp_greatest_slacks (K : PySem.W.Frag) (Z : Cs) : Sp := sp1 fun x H Q _ => ∃ (a : Addr) (xs : List V) (os : List Off), x = .ref a ∧ H a = some (.lst xs) ∧ All2 (OffR Any H) xs os ∧ os.length ≤ 2000 ∧
  ∀ G H2 kvs ks, H G = none → Same H H2 → H2 G = some (.dK kvs) → GInv os kvs ks → Q (.ref G) H2
set_option maxHeartbeats 4000000 in
theorem ok_greatest_slacks {P : Program} {w : World} {K : PySem.W.Frag} {mg : Str → Option Value} {base : Heap} {Z : Cs} (T : TX K mg Z)  {f : Addr} {fd : FuncData} (F : Fun K "greatest_slacks" "greatest_slacks" s_greatest_slacks f fd) : FnOk P w K mg base CX0 1 f fd ["some"] (sp_greatest_slacks K Z) := by
  refine F.ok sc_greatest_slacks len1 (fun cdv A outer s H vs Q E hr h => ⟨_, (pss_cons (ps_set (i := 1) sc_greatest_slacks.nd rfl (Or.inl rfl) pe_dnewK)
    (pss_cons (ps_for PassesOwn.never rfl (pi_list (pv 0)) (pgT (K := K) (n := 3) rfl (by rfl) (pgs_cons (pg_name (i := 2) sc_greatest_slacks.nd rfl (Or.inl rfl)) (pgs_cons (pg_name (i := 3) sc_greatest_slacks.nd rfl (Or.inl rfl)) (pgs_cons (pg_name (i := 4) sc_greatest_slacks.nd rfl (Or.inl rfl)) pgs_nil)))) (pss_one (ps_dput (hu_of hr) (pv 1) (pv 2) (pe_callB (call_max2 rfl) (by rfl) T.b_max (by decide +kernel) (pa_cons (pv 3) (pa_cons (pe_dget2 (hu_of hr) (pv 1) (pv 2) (pv 3) ⟨rfl, rfl, rfl, rfl⟩) pa_nil))) rfl)))
    (pss_one (ps_ret (pv 1))))), ?_⟩)
  obtain ⟨_, rfl, a, xs, os, rfl, hx, hA, hle, k⟩ := h
  walk_at "rd"
  intro G hG
  refine r_for fun D' hD => ?_
  have e1 := same_new (o := HO.dK []) hG
  walk_at "rd"
  refine ⟨a, rfl, ⟨_, SqL.of (e1 _ _ hx)⟩, for_list (D := D') (xs := xs) (fun i σ H' => (∃ v1 v2 v3, σ = [some (.ref a), some (.ref G), v1, v2, v3]) ∧ Same H H' ∧ ∃ kvs ks, H' G = some (.dK kvs) ∧ GInv (os.take i) kvs ks) ?_ ?_ ?_ ?_⟩
  · exact ⟨⟨_, _, _, rfl⟩, e1, [], [], upd_same, ⟨rfl, List.nodup_nil, fun k => by simp, fun k h => by cases h⟩⟩
  · rintro i σ H' _ ⟨_, e2, _⟩
    exact SqL.of (e2 _ _ hx)
  · rintro i x σ H' hi ⟨⟨v1, v2, v3, rfl⟩, e2, kvs, ks, hk, I⟩
    subst hD
    obtain ⟨o, ho, p, q, rfl, _, _, hp, hq⟩ := hA.get hi
    refine r_tupg (SqT.of (e2 _ _ hp)) rfl ?_
    walk_at "rd"
    refine ⟨G, rfl, .inl ⟨kvs, .inl hk⟩, ?_⟩
    walk_at "rd"
    refine ⟨valV kvs (.inl (o.1 : Int)), DGet.k (k := Sum.inl (o.1 : Int)) hk, ?_⟩
    walk_at "rd"
    have hl1 := nodup_le I.nd fun k h => (I.mem k).mp h
    rw [List.length_take] at hl1
    have hl2 := I.len
    have step := I.step o
    rw [← take_more ho] at step
    obtain ⟨ks', I'⟩ := step
    cases hv : valV kvs (.inl (o.1 : Int)) with
    | none =>
      dsimp only [Option.getD]
      refine ⟨_, _, rfl, ?_⟩
      walk_at "rd"
      have hn : ¬ ∃ p ∈ os.take i, p.1 = o.1 := fun h => by
        have := I.has.mpr ((I.mem _).mpr h)
        rw [hv] at this
        cases this
      have ev := slackAt_new hn
      rw [← take_more ho] at ev
      refine ⟨G, _, rfl, DPut.k (k := Sum.inl (o.1 : Int)) hk (line1 (by omega)), ⟨_, _, _, rfl⟩, same_mut e2 hG, _, ks', upd_same, ?_⟩
      rw [if_neg (Int.lt_irrefl _), ← ev]
      exact I'
    | some x =>
      have hin := I.has.mp (by rw [hv]; rfl)
      have hx2 := I.val _ hin
      rw [hv] at hx2
      cases hx2
      dsimp only [Option.getD]
      refine ⟨_, _, rfl, ?_⟩
      walk_at "rd"
      have ev := slackAt_old ((I.mem _).mp hin)
      rw [← take_more ho] at ev
      refine ⟨G, _, rfl, DPut.k (k := Sum.inl (o.1 : Int)) hk (line1 (by omega)), ⟨_, _, _, rfl⟩, same_mut e2 hG, _, ks', upd_same, ?_⟩
      rw [← ev]
      exact I'
  · rintro σ H' ⟨⟨v1, v2, v3, rfl⟩, e2, kvs, ks, hk, I⟩
    subst hD
    rw [List.take_of_length_le (by rw [hA.1]; exact Nat.le_refl _)] at I
    walk_at "rd"
    exact k G H' kvs ks hG e2 hk I
theorem c_greatest_slacks {P : Program} {w : World} {K : PySem.W.Frag} {mg : Str → Option Value} {base : Heap} {Z : Cs} (T : TX K mg Z)  {f : Addr} {fd : FuncData} (g : mg "greatest_slacks" = some (.ref f)) (F : Fun K "greatest_slacks" "greatest_slacks" s_greatest_slacks f fd) : Cal P w K mg base CX0 1 "greatest_slacks" ["some"] (sp_greatest_slacks K Z) :=
  ⟨f, fd, g, F.kp, F.binds (ps := ["some"]) (fun _ _ _ _ _ _ us hl => match us, hl with | [_], _ => rfl), ok_greatest_slacks T  F⟩
/-- a pair of a cost and a slack -/
def FrR (H : Hp) (x : V) (p : Nat × Int) : Prop := ∃ q, x = .ref q ∧ H q = some (.tup [nv p.1, .int p.2])
theorem FrR.mono {H H' : Hp} {x : V} {p : Nat × Int} (e : Same H H') (h : FrR H x p) : FrR H' x p := let ⟨q, a, b⟩ := h; ⟨q, a, e _ _ b⟩
theorem FrR.upd {H : Hp} {F : Addr} {ys zs : List V} {x : V} {p : Nat × Int} (hF : H F = some (.lst ys)) (h : FrR H x p) : FrR (upd H F (.lst zs)) x p := by
  obtain ⟨q, a, b⟩ := h
  have ne : q ≠ F := fun z => by
    rw [z, hF] at b
    cases b
  exact ⟨q, a, by rw [upd_ne ne]; exact b⟩
theorem sorted_costs {os : List Off} {ks : List Nat} {ys : List Int} (hn : ks.Nodup) (hm : ∀ k, k ∈ ks ↔ ∃ o ∈ os, o.1 = k) (hp : ys.Perm (ks.map fun (k : Nat) => (k : Int))) (hs : ys.Pairwise (· ≤ ·)) : ys = (costsM os).map fun (k : Nat) => (k : Int) := by
  have hz : ys = (ys.map Int.toNat).map fun (k : Nat) => (k : Int) := by
    rw [List.map_map]
    refine (List.map_id _).symm.trans (List.map_congr_left fun y hy => ?_)
    obtain ⟨k, _, rfl⟩ := List.mem_map.mp (hp.mem_iff.mp hy)
    simp
  have hnd : ys.Nodup := hp.nodup_iff.mpr (by
    rw [List.nodup_iff_pairwise_ne] at hn ⊢
    rw [List.pairwise_map]
    exact hn.imp fun h e => h (by omega))
  have hlt : (ys.map Int.toNat).Pairwise (· < ·) := by
    rw [List.pairwise_map]
    rw [List.nodup_iff_pairwise_ne] at hnd
    refine (hs.and hnd).imp_of_mem ?_
    intro a b ha hb h
    obtain ⟨k, _, rfl⟩ := List.mem_map.mp (hp.mem_iff.mp ha)
    obtain ⟨j, _, rfl⟩ := List.mem_map.mp (hp.mem_iff.mp hb)
    have := h.1
    have := h.2
    omega
  rw [hz]
  congr 1
  refine sorted_same hlt (costs_sorted os) fun x => ?_
  rw [costs_mem, ← hm, List.mem_map]
  constructor
  · rintro ⟨y, hy, rfl⟩
    obtain ⟨k, hk, rfl⟩ := List.mem_map.mp (hp.mem_iff.mp hy)
    simpa using hk
  · intro hx
    exact ⟨(x : Int), hp.mem_iff.mpr (List.mem_map.mpr ⟨x, hx, rfl⟩), by simp⟩
theorem front_snoc (S : Nat → Int) (ks : List Nat) (k : Nat) : frontM S (ks ++ [k]) = match (frontM S ks).getLast? with
  | none => [(k, S k)]
  | some z => if z.2 < S k then frontM S ks ++ [(k, S k)] else frontM S ks := by
  unfold frontM
  rw [List.foldl_append]
  rfl
theorem front_len (S : Nat → Int) (ks : List Nat) : (frontM S ks).length ≤ ks.length := by
  refine snoc_ind (P := fun ks => (frontM S ks).length ≤ ks.length) (Nat.le_refl _) (fun l k ih => ?_) ks
  rw [front_snoc]
  split
  · simp
  · split <;> simp <;> omega
abbrev s_frontier : Stmt := top 21
abbrev N_frontier : List Str := ["state", "slacks", "found", "cost"]
theorem sc_frontier : FnScope N_frontier ["state"] (defScope s_frontier) := ⟨rfl, rfl, rfl, by decide +kernel, rfl, by decide +kernel, by decide +kernel⟩
def sp_frontier (K : PySem.W.Frag) (Z : Cs) : Sp := sp1 fun x H Q _ => ∃ (a : Addr) (d : Design) (l : Ls) (asg : Nat), x = .ref a ∧ StAt K Z H a d l asg ∧ Wf d ∧ sinks d.nodes = true ∧
  ∀ L H2 xs, H L = none → Same H H2 → H2 L = some (.lst xs) → All2 (FrR H2) xs (frontM (slackAt (offersM d.driver d.library d.nodes)) (costsM (offersM d.driver d.library d.nodes))) → Q (.ref L) H2
set_option maxHeartbeats 4000000 in
theorem ok_frontier {P : Program} {w : World} {K : PySem.W.Frag} {mg : Str → Option Value} {base : Heap} {Z : Cs} (T : TX K mg Z) (c_greatest_slacks : Cal P w K mg base CX0 1 "greatest_slacks" ["some"] (sp_greatest_slacks K Z)) (c_offers : Cal P w K mg base CX0 4 "offers" ["state"] (sp_offers K Z)) {f : Addr} {fd : FuncData} (F : Fun K "frontier" "frontier" s_frontier f fd) : FnOk P w K mg base CX0 5 f fd ["state"] (sp_frontier K Z) := by
  refine F.ok sc_frontier len1 (fun cdv A outer s H vs Q E hr h => ⟨_, (pss_cons (ps_par (i := 1) (j := 2) (by rfl) sc_frontier.nd rfl rfl (by decide) rfl rfl (pa_cons (pe_c c_greatest_slacks (hr.mono (by decide)) (by rfl) (pa_cons (pe_c c_offers (hr.mono (by decide)) (by rfl) (pa_cons (pv 0) pa_nil)) pa_nil)) (pa_cons (pe_lst pa_nil) pa_nil)) (by rfl))
    (pss_cons (ps_for PassesOwn.never rfl (pi_list (pe_callB (call_sortedDI rfl) (by rfl) T.b_sorted (by decide +kernel) (pa_cons (pv 1) pa_nil))) (pg_name (i := 3) sc_frontier.nd rfl (Or.inl rfl)) (pss_one (ps_if (PW.pt (pw_or (pt_cmpR (op_eqE (K := K) rfl hr.units0) (pv 2) (pe_lst pa_nil) (nomark _)) (pw_or1 (pt_cmpR op_gt (pe_dget (hu_of hr) (pv 1) (pv 3) (fun _ _ => rfl)) (pe_ix (ixT (K := K) rfl) (pe_ix (ixL (K := K) rfl) (pv 2) (pe_un un_neg pe_int) (fun _ _ => rfl)) pe_int (fun _ _ => rfl)) (nomark _))))) (pss_one (ps_expr (pe_bm PySem.F.plainAttrs_list PySem.F.slot_list_append PySem.F.type_list_append mt_append (pv 2) (pa_cons (pe_tup (pa_cons (pv 3) (pa_cons (pe_dget (hu_of hr) (pv 1) (pv 3) (fun _ _ => rfl)) pa_nil))) pa_nil)))) pss_nil)))
    (pss_one (ps_ret (pv 2))))), ?_⟩)
  obtain ⟨_, rfl, a, d, l, asg, rfl, S, W, hs, k⟩ := h
  walk_at "rd"
  refine ⟨_, rfl, a, d, l, asg, rfl, S, W, hs, fun L H2 xs hL e2 hx hA => ?_⟩
  have hle := offers_le W
  walk_at "rd"
  refine ⟨_, rfl, L, xs, _, rfl, hx, hA, by omega, fun G H3 kvs ks hG e3 hk I => ?_⟩
  walk_at "rd"
  refine ⟨lineR rfl, fun F hF => ?_⟩
  walk_at "rd"
  have e4 := same_new (o := HO.lst []) hF
  have h56 := costs_le (driver := d.driver) W.lib W.per I.nd fun k h => (I.mem k).mp h
  generalize hos : offersM d.driver d.library d.nodes = os at *
  have hk4 := e4 _ _ hk
  have s4 : Same H (upd H3 F (.lst [])) := (e2.trans e3).trans e4
  have hF0 : H F = none := (e2.trans e3).free hF
  refine r_for fun D' hD => ?_
  walk_at "rd"
  refine ⟨G, kvs, ks.map fun (k : Nat) => (k : Int), rfl, .inl hk4, by rw [I.keys, List.map_map]; rfl, by rw [List.length_map]; omega, fun ys p hp hsort hpn => ?_⟩
  have hys := sorted_costs I.nd I.mem hp hsort
  subst hys
  have e5 := same_new (o := HO.lst (((costsM os).map fun (k : Nat) => (k : Int)).map V.int)) hpn
  have nepF : p ≠ F := fun z => by rw [z, upd_same] at hpn; cases hpn
  have neGF : G ≠ F := fun z => by rw [← z, hk] at hF; cases hF
  have hc56 : (costsM os).length ≤ 56 := by
    have := hp.length_eq
    rw [List.length_map, List.length_map] at this
    omega
  refine ⟨p, rfl, ⟨_, SqL.of upd_same⟩, for_list (D := D') (xs := ((costsM os).map fun (k : Nat) => (k : Int)).map V.int) (fun i σ H' => (∃ vc, σ = [some (.ref a), some (.ref G), some (.ref F), vc]) ∧ Kp F (upd (upd H3 F (.lst [])) p (.lst (((costsM os).map fun (k : Nat) => (k : Int)).map V.int))) H' ∧ ∃ fs, H' F = some (.lst fs) ∧ All2 (FrR H') fs (frontM (slackAt os) ((costsM os).take i))) ?_ ?_ ?_ ?_⟩
  · exact ⟨⟨_, rfl⟩, fun b o _ h => h, [], by rw [upd_ne nepF.symm, upd_same], .nil⟩
  · rintro i σ H' _ ⟨_, k5, _⟩
    exact SqL.of (k5 _ _ nepF upd_same)
  · rintro i x σ H' hi ⟨⟨vc, rfl⟩, k5, fs, hfs, hFA⟩
    subst hD
    obtain ⟨c, hc, rfl⟩ : ∃ c, (costsM os)[i]? = some c ∧ x = nv c := by
      rw [List.map_map, List.getElem?_map] at hi
      cases e : (costsM os)[i]? with
      | none => rw [e] at hi; cases hi
      | some c => rw [e] at hi; exact ⟨c, rfl, (Option.some.inj hi).symm⟩
    have hi2 := (List.getElem?_eq_some_iff.mp hc).1
    have hG5 := k5 _ _ neGF (e5 _ _ hk4)
    have hval := I.val c ((I.mem c).mpr ((costs_mem os c).mp (List.mem_of_getElem? hc)))
    have hfl := front_len (slackAt os) ((costsM os).take i)
    rw [List.length_take] at hfl
    have et := take_more hc
    walk_at "rd"
    refine ⟨lineR rfl, fun E0 hE0 => ?_⟩
    have e6 := same_new (o := HO.lst []) hE0
    refine ⟨F, E0, fs, rfl, rfl, SqL.of (e6 _ _ hfs), SqL.of upd_same, ?_⟩
    walk_at "rd"
    rw [et, front_snoc]
    rcases hFA.last with ⟨l1, l2, rfl⟩ | ⟨xl, yl, l1, l2, ⟨ql, rfl, hql⟩, hne⟩
    · rw [l2]
      refine iteT (iteT ?_)
      walk_at "rd"
      refine ⟨ty_list (e6 _ _ hfs), ?_⟩
      walk_at "rd"
      refine ⟨G, .int (slackAt os c), rfl, by rw [← hval]; exact DGet.k (k := Sum.inl (c : Int)) (e6 _ _ hG5), ?_⟩
      walk_at "rd"
      refine ⟨lineR rfl, fun T hT => ?_⟩
      have e7 := e6.trans (same_new (o := HO.tup [nv c, .int (slackAt os c)]) hT)
      walk_at "rd"
      refine ⟨F, _, _, rfl, rfl, e7 _ _ hfs, line1 (by simp), ?_⟩
      walk_at "rd"
      refine ⟨⟨_, rfl⟩, (k5.trans (Kp.of e7)).trans Kp.upd, _, upd_same, All2.one ?_⟩
      exact FrR.upd (e7 _ _ hfs) ⟨T, rfl, upd_same⟩
    · rw [l2]
      have hemp : fs.isEmpty = false := by cases fs with
        | nil => exact absurd rfl hne
        | cons _ _ => rfl
      rw [hemp]
      refine iteF ?_
      walk_at "rd"
      refine ⟨G, .int (slackAt os c), rfl, by rw [← hval]; exact DGet.k (k := Sum.inl (c : Int)) (e6 _ _ hG5), ?_⟩
      walk_at "rd"
      refine r_ixL (SqL.of (e6 _ _ hfs)) (at_last l1) ?_
      walk_at "rd"
      refine r_ixT (v := .int yl.2) (SqT.of (e6 _ _ hql)) rfl ?_
      walk_at "rd"
      refine ifd (fun cc => ?_) (fun cc => ?_)
      · walk_at "rd"
        refine ⟨ty_list (e6 _ _ hfs), ?_⟩
        walk_at "rd"
        refine ⟨G, .int (slackAt os c), rfl, by rw [← hval]; exact DGet.k (k := Sum.inl (c : Int)) (e6 _ _ hG5), ?_⟩
        walk_at "rd"
        refine ⟨lineR rfl, fun T hT => ?_⟩
        have e7 := e6.trans (same_new (o := HO.tup [nv c, .int (slackAt os c)]) hT)
        walk_at "rd"
        refine ⟨F, _, _, rfl, rfl, e7 _ _ hfs, line1 (by rw [hFA.1]; omega), ?_⟩
        walk_at "rd"
        refine ⟨⟨_, rfl⟩, (k5.trans (Kp.of e7)).trans Kp.upd, _, upd_same, ?_⟩
        rw [if_pos cc]
        exact All2.snoc (hFA.mono fun _ _ h => FrR.upd (e7 _ _ hfs) (h.mono e7)) (FrR.upd (e7 _ _ hfs) ⟨T, rfl, upd_same⟩)
      · walk_at "rd"
        refine ⟨⟨_, rfl⟩, k5.trans (Kp.of e6), _, e6 _ _ hfs, ?_⟩
        rw [if_neg cc]
        exact hFA.mono fun _ _ h => h.mono e6
  · rintro σ H' ⟨⟨vc, rfl⟩, k5, fs, hfs, hFA⟩
    subst hD
    rw [List.take_of_length_le (by simp)] at hFA
    walk_at "rd"
    exact k F H' fs hF0 (Kp.same (s4.trans e5) k5 hF0) hfs hFA
theorem c_frontier {P : Program} {w : World} {K : PySem.W.Frag} {mg : Str → Option Value} {base : Heap} {Z : Cs} (T : TX K mg Z) (c_greatest_slacks : Cal P w K mg base CX0 1 "greatest_slacks" ["some"] (sp_greatest_slacks K Z)) (c_offers : Cal P w K mg base CX0 4 "offers" ["state"] (sp_offers K Z)) {f : Addr} {fd : FuncData} (g : mg "frontier" = some (.ref f)) (F : Fun K "frontier" "frontier" s_frontier f fd) : Cal P w K mg base CX0 5 "frontier" ["state"] (sp_frontier K Z) :=
  ⟨f, fd, g, F.kp, F.binds (ps := ["state"]) (fun _ _ _ _ _ _ us hl => match us, hl with | [_], _ => rfl), ok_frontier T c_greatest_slacks c_offers F⟩


def laterT (v i : Nat) (n : Node) : Int := if (n.sink.isSome && !decide ((i : Int) = (v : Int))) = true then (((n.sink.map Prod.snd).getD 0 : Nat) : Int) + 1000000000 else (((n.sink.map Prod.snd).getD 0 : Nat) : Int)
theorem later_row (v i : Nat) (n : Node) : (nodeRow (later1 v i n)).map V.int = ((nodeRow n).map V.int).take 6 ++ [V.int (laterT v i n)] := by
  unfold later1 laterT
  obtain ⟨p, r, c, b, s⟩ := n
  by_cases h : i = v
  · subst h
    cases s <;> simp [nodeRow]
  · have h' : ¬ ((i : Int) = (v : Int)) := by omega
    rw [if_neg h]
    cases s with
    | none => simp [nodeRow]
    | some q => simp [nodeRow, h']
abbrev s_with_later_others : Stmt := top 22
abbrev N_with_later_others : List Str := ["nodes", "sink", "found", "k", "node", "later"]
theorem sc_with_later_others : FnScope N_with_later_others ["nodes", "sink"] (defScope s_with_later_others) := ⟨rfl, rfl, rfl, by decide +kernel, rfl, by decide +kernel, by decide +kernel⟩
def sp_with_later_others (K : PySem.W.Frag) (Z : Cs) : Sp := sp2 fun x y H Q _ => ∃ (a : Addr) (nodes : List Node) (v : Nat), x = .ref a ∧ y = nv v ∧ TabA K H a nodeRow nodes ∧ nodes.length ≤ 1000 ∧ (∀ L H2, H L = none → Same H H2 → TabA K H2 L nodeRow (laterM nodes v) → Q (.ref L) H2)
set_option maxHeartbeats 4000000 in
theorem ok_with_later_others {P : Program} {w : World} {K : PySem.W.Frag} {mg : Str → Option Value} {base : Heap} {Z : Cs} (T : TX K mg Z)  {f : Addr} {fd : FuncData} (F : Fun K "with_later_others" "with_later_others" s_with_later_others f fd) : FnOk P w K mg base CX0 1 f fd ["nodes", "sink"] (sp_with_later_others K Z) := by
  refine F.ok sc_with_later_others len2 (fun cdv A outer s H vs Q E hr h => ⟨_, (pss_cons (ps_set (i := 2) sc_with_later_others.nd rfl (Or.inl rfl) (pe_lst pa_nil))
    (pss_cons (ps_for PassesOwn.never rfl (pi_enum (by rfl) T.b_enumerate (pa_cons (pv 0) pa_nil)) (pgT (K := K) (n := 2) rfl (by rfl) (pgs_cons (pg_name (i := 3) sc_with_later_others.nd rfl (Or.inl rfl)) (pgs_cons (pg_name (i := 4) sc_with_later_others.nd rfl (Or.inl rfl)) pgs_nil))) (pss_cons (ps_set (i := 5) sc_with_later_others.nd rfl (Or.inl rfl) (pe_ifExp (PW.pt (pw_and (pt_cmpR op_eq (pe_ix (ixT (K := K) rfl) (pv 4) pe_int (fun _ _ => rfl)) pe_int (nomark _)) (pw_and1 (pt_cmpR op_ne (pv 3) (pv 1) (nomark _))))) (pe_op op_add (pe_ix (ixT (K := K) rfl) (pv 4) pe_int (fun _ _ => rfl)) (pe_gi T.c_FAR (by rfl))) (pe_ix (ixT (K := K) rfl) (pv 4) pe_int (fun _ _ => rfl))))
    (pss_one (ps_expr (pe_bm PySem.F.plainAttrs_list PySem.F.slot_list_append PySem.F.type_list_append mt_append (pv 2) (pa_cons (pe_op (catA (K := K) rfl) (pe_slice (slA (K := K) rfl) (pv 4) po_none (po_some pe_int)) (pe_tup (pa_cons (pv 5) pa_nil))) pa_nil))))))
    (pss_one (ps_ret (pv 2))))), ?_⟩)
  obtain ⟨_, _, rfl, a, nodes, v, rfl, rfl, ⟨xs, hx, hA⟩, hn, k⟩ := h
  walk_at "rd"
  refine ⟨lineR rfl, fun F hF => ?_⟩
  walk_at "rd"
  have e1 := same_new (o := HO.lst []) hF
  refine r_for fun D' hD => ?_
  walk_at "rd"
  refine ⟨a, xs, rfl, SqL.of (e1 _ _ hx), for_enum (D := D') (xs := xs) (fun i σ H' => (∃ vk vn vl, σ = [some (.ref a), some (nv v), some (.ref F), vk, vn, vl]) ∧ Same H H' ∧ ∃ ys, H' F = some (.lst ys) ∧ All2 (fun x n => Row K H' x (nodeRow n)) ys ((laterM nodes v).take i)) ?_ ?_ ?_ ?_⟩
  · exact ⟨⟨_, _, _, rfl⟩, e1, [], upd_same, .nil⟩
  · rintro i σ H' _ ⟨_, s, _⟩
    exact SqL.of (s _ _ hx)
  · rintro i x σ H' U hi ⟨⟨vk, vn, vl, rfl⟩, s, ys, hys, hY⟩ hU
    subst hD
    obtain ⟨n, en, p, rfl, hp⟩ := hA.get hi
    have hlen := lt_of_get en
    have s2 : Same H' (upd H' U (.tup [.int (i : Nat), .ref p])) := same_new hU
    have hp2 := Same.sqt (s.trans s2) hp
    refine r_tupg (SqT.of upd_same) rfl ?_
    have et := take_more (later_get (v := v) en)
    refine r_gcons (r_gname (r_gcons (r_gname (r_gnil ?_))))
    dsimp only
    refine r_seq (r_set ?_)
    refine Ev.go (v := .int (laterT v i n)) (Evl.ev_if (b := n.sink.isSome && !decide ((i : Int) = (v : Int))) (Evl.et_and (Evl.et_is (b := n.sink.isSome) (Evl.et_test (Evl.ev_op (Evl.ev_op (Evl.ev_var rfl) Evl.ev_c (Evl.rv_ixT (v := .int (if n.sink.isSome then 1 else 0)) hp2 rfl)) Evl.ev_c (Evl.rv_eq rfl))) (by cases n.sink <;> rfl)) (fun _ => Evl.et_is (Evl.et_test (Evl.ev_op (Evl.ev_var rfl) (Evl.ev_var rfl) (Evl.rv_ne rfl))) (by simp))) (fun c => ?_) (fun c => ?_)) fun H2 s3 => ?_
    · refine Evl.ev_is (Evl.ev_op (Evl.ev_op (Evl.ev_var rfl) Evl.ev_c (Evl.rv_ixT (v := .int (((n.sink.map Prod.snd).getD 0 : Nat) : Int)) hp2 rfl)) Evl.ev_c Evl.rv_I0) ?_
      unfold laterT
      rw [if_pos c]
    · refine Evl.ev_is (Evl.ev_op (Evl.ev_var rfl) Evl.ev_c (Evl.rv_ixT (v := .int (((n.sink.map Prod.snd).getD 0 : Nat) : Int)) hp2 rfl)) ?_
      unfold laterT
      rw [c, if_neg (by decide)]
    walk_at "rd"
    have hys2 := s3 _ _ (s2 _ _ hys)
    refine ⟨ty_list hys2, ?_⟩
    walk_at "rd"
    refine r_slT (lo := none) (hi := some 6) (ys := ((nodeRow n).map V.int).take 6) (Same.sqt s3 hp2) (by intro z; have := z.2; revert this; exact (by decide : ¬ (6 = 7))) rfl fun T1 hT1 => ?_
    walk_at "rd"
    refine ⟨lineR rfl, fun T2 hT2 => ?_⟩
    have hT12 := same_new (o := HO.tup [.int (laterT v i n)]) hT2
    refine r_catT (SqT.of (hT12 _ _ upd_same)) (SqT.of upd_same) (by intro z; cases z) (by intro z; cases z) (lineR rfl) fun T3 hT3 => ?_
    have s4 := ((s2.trans s3).trans (same_new hT1)).trans (hT12.trans (same_new (o := HO.tup (((nodeRow n).map V.int).take 6 ++ [V.int (laterT v i n)])) hT3))
    walk_at "rd"
    refine ⟨F, ys, _, rfl, rfl, s4 _ _ hys, line1 (by rw [hY.1, List.length_take]; omega), ?_⟩
    walk_at "rd"
    refine ⟨⟨_, _, _, rfl⟩, same_mut (s.trans s4) hF, _, upd_same, ?_⟩
    rw [et]
    refine All2.snoc (hY.mono fun _ _ h => (h.mono s4).upd (s4 _ _ hys)) (Row.upd (s4 _ _ hys) ⟨T3, rfl, ?_⟩)
    rw [later_row]
    exact SqT.of upd_same
  · rintro σ H' ⟨⟨vk, vn, vl, rfl⟩, s, ys, hys, hY⟩
    subst hD
    rw [List.take_of_length_le (by rw [later_len, hA.1]; exact Nat.le_refl _)] at hY
    walk_at "rd"
    exact k F H' hF s (TabA.of hys hY)
theorem c_with_later_others {P : Program} {w : World} {K : PySem.W.Frag} {mg : Str → Option Value} {base : Heap} {Z : Cs} (T : TX K mg Z)  {f : Addr} {fd : FuncData} (g : mg "with_later_others" = some (.ref f)) (F : Fun K "with_later_others" "with_later_others" s_with_later_others f fd) : Cal P w K mg base CX0 1 "with_later_others" ["nodes", "sink"] (sp_with_later_others K Z) :=
  ⟨f, fd, g, F.kp, F.binds (ps := ["nodes", "sink"]) (fun _ _ _ _ _ _ us hl => match us, hl with | [_, _], _ => rfl), ok_with_later_others T  F⟩
def onV : Option Nat → V
  | none => .non
  | some n => nv n
theorem find_range {p : Nat → Bool} {n j : Nat} (hj : j < n) (h : ∀ i, i < j → p i = false) (hp : p j = true) : (List.range n).find? p = some j := by
  rw [List.find?_eq_some_iff_append]
  refine ⟨hp, List.range j, (List.range' (j + 1) (n - (j + 1))), ?_, fun a ha => ?_⟩
  · rw [List.range_eq_range', List.range_eq_range']
    have e : n = j + (1 + (n - (j + 1))) := by omega
    conv => lhs; rw [e]
    rw [← List.range'_append_1, ← List.range'_append_1]
    simp
  · rw [h a (List.mem_range.mp ha)]
    rfl
theorem find_range_none {p : Nat → Bool} {n : Nat} (h : ∀ i, i < n → p i = false) : (List.range n).find? p = none := by
  rw [List.find?_eq_none]
  intro x hx
  rw [h x (List.mem_range.mp hx)]
  decide
abbrev s_critical_sink : Stmt := top 23
abbrev N_critical_sink : List Str := ["state", "choices", "slack", "sink", "node", "nodes"]
theorem sc_critical_sink : FnScope N_critical_sink ["state", "choices"] (defScope s_critical_sink) := ⟨rfl, rfl, rfl, by decide +kernel, rfl, by decide +kernel, by decide +kernel⟩
def sp_critical_sink (K : PySem.W.Frag) (Z : Cs) : Sp := sp2 fun x y H Q _ => ∃ (a c : Addr) (d : Design) (l : Ls) (asg : Nat) (ch : List Nat), x = .ref a ∧ y = .ref c ∧ StAt K Z H a d l asg ∧ Wf d ∧ sinks d.nodes = true ∧ H c = some (.lst (ch.map nv)) ∧ ChOk d.nodes d.library ch ∧ RetV (onV (critM d.driver d.library d.nodes ch)) H Q
set_option maxHeartbeats 4000000 in
theorem ok_critical_sink {P : Program} {w : World} {K : PySem.W.Frag} {mg : Str → Option Value} {base : Heap} {Z : Cs} (T : TX K mg Z) (c_double_slack : Cal P w K mg base CX0 3 "double_slack" ["driver", "nodes", "library", "choices"] (sp_double_slack K Z)) (c_with_later_others : Cal P w K mg base CX0 1 "with_later_others" ["nodes", "sink"] (sp_with_later_others K Z)) {f : Addr} {fd : FuncData} (F : Fun K "critical_sink" "critical_sink" s_critical_sink f fd) : FnOk P w K mg base CX0 4 f fd ["state", "choices"] (sp_critical_sink K Z) := by
  refine F.ok sc_critical_sink len2 (fun cdv A outer s H vs Q E hr h => ⟨_, (pss_cons (ps_set (i := 2) sc_critical_sink.nd rfl (Or.inl rfl) (pe_c c_double_slack (hr.mono (by decide)) (by rfl) (pa_cons (fldK (K := K) rfl (pv 0) rfl) (pa_cons (fldK (K := K) rfl (pv 0) rfl) (pa_cons (fldK (K := K) rfl (pv 0) rfl) (pa_cons (pv 1) pa_nil))))))
    (pss_cons (ps_for PassesOwn.never rfl (pi_enum (by rfl) T.b_enumerate (pa_cons (fldK (K := K) rfl (pv 0) rfl) pa_nil)) (pgT (K := K) (n := 2) rfl (by rfl) (pgs_cons (pg_name (i := 3) sc_critical_sink.nd rfl (Or.inl rfl)) (pgs_cons (pg_name (i := 4) sc_critical_sink.nd rfl (Or.inl rfl)) pgs_nil))) (pss_one (ps_if (pt_cmpR op_eq (pe_ix (ixT (K := K) rfl) (pv 4) pe_int (fun _ _ => rfl)) pe_int (nomark _)) (pss_cons (ps_set (i := 5) sc_critical_sink.nd rfl (Or.inl rfl) (pe_c c_with_later_others (hr.mono (by decide)) (by rfl) (pa_cons (fldK (K := K) rfl (pv 0) rfl) (pa_cons (pv 3) pa_nil))))
    (pss_one (ps_if (pt_cmpR op_eq (pe_c c_double_slack (hr.mono (by decide)) (by rfl) (pa_cons (fldK (K := K) rfl (pv 0) rfl) (pa_cons (pv 5) (pa_cons (fldK (K := K) rfl (pv 0) rfl) (pa_cons (pv 1) pa_nil))))) (pv 2) (nomark _)) (pss_one (ps_ret (pv 3))) pss_nil))) pss_nil)))
    (pss_one (ps_ret pe_non)))), ?_⟩)
  obtain ⟨_, _, rfl, a, c, d, l, asg, ch, rfl, rfl, S, W, hs, hc, cok, k⟩ := h
  have hdrv := W.drv
  have hn1 := W.n1
  obtain ⟨sl, hsl⟩ : ∃ sl, slackI d.driver d.library d.nodes ch = some sl := ⟨_, slackI_some W.tree W.n0 hs⟩
  walk_at "rd"
  refine ⟨_, _, _, _, rfl, d.driver, l.nodes, l.library, c, d.nodes, d.library, ch, _, rfl, rfl, rfl, rfl, S.nodes, S.library, hc, W.tok, cok, by omega, hsl, fun H1 e1 => ?_⟩
  have S1 := S.mono e1
  obtain ⟨xs, hx, hA⟩ := S1.nodes
  walk_at "rd"
  refine r_for fun D' hD => ?_
  walk_at "rd"
  refine ⟨l.nodes, xs, rfl, SqL.of hx, for_enum (D := D') (xs := xs) (fun i σ H' => (∃ v1 v2 v3, σ = [some (.ref a), some (.ref c), some (.int sl), v1, v2, v3]) ∧ Same H1 H' ∧ ∀ j, j < i → ((d.nodes.getD j node0).sink.isSome && decide (slackI d.driver d.library (laterM d.nodes j) ch = slackI d.driver d.library d.nodes ch)) = false) ?_ ?_ ?_ ?_⟩
  · exact ⟨⟨_, _, _, rfl⟩, Same.refl _, fun j h => by omega⟩
  · rintro i σ H' _ ⟨_, s, _⟩
    exact SqL.of (s _ _ hx)
  · rintro i x σ H' U hi ⟨⟨v1, v2, v3, rfl⟩, s, hno⟩ hU
    subst hD
    obtain ⟨n, en, p, rfl, hp⟩ := hA.get hi
    have hlen := lt_of_get en
    have en' : d.nodes.getD i node0 = n := getD_of en
    have s2 := same_new (o := HO.tup [.int (i : Nat), .ref p]) hU
    have s3 := s.trans s2
    have S3 := S1.mono s3
    have step : ∀ j, j < i + 1 → (j = i → ((d.nodes.getD j node0).sink.isSome && decide (slackI d.driver d.library (laterM d.nodes j) ch = slackI d.driver d.library d.nodes ch)) = false) → ((d.nodes.getD j node0).sink.isSome && decide (slackI d.driver d.library (laterM d.nodes j) ch = slackI d.driver d.library d.nodes ch)) = false := fun j hj e => by
      by_cases h : j = i
      · exact e h
      · exact hno j (by omega)
    refine r_tupg (SqT.of upd_same) rfl ?_
    walk_at "rd"
    refine r_ixT (v := .int (if n.sink.isSome then 1 else 0)) (Same.sqt s3 hp) rfl ?_
    walk_at "rd"
    cases hsk : n.sink with
    | none =>
      refine iteF ?_
      walk_at "rd"
      exact ⟨⟨_, _, _, rfl⟩, s3, fun j hj => step j hj fun e => by rw [e, en', hsk]; rfl⟩
    | some q =>
      refine iteT ?_
      walk_at "rd"
      refine ⟨_, _, rfl, l.nodes, d.nodes, i, rfl, rfl, S3.nodes, by omega, fun L H4 hL e4 hT4 => ?_⟩
      have S4 := S3.mono e4
      walk_at "rd"
      have lt := later_tok W.tok i
      have ls := later_sinks i hs
      have lsl := slackI_some (driver := d.driver) (lib := d.library) (ch := ch) lt.tree lt.n0 ls
      refine ⟨_, _, _, _, rfl, d.driver, L, l.library, c, laterM d.nodes i, d.library, ch, _, rfl, rfl, rfl, rfl, hT4, S4.library, e4 _ _ (s3 _ _ (e1 _ _ hc)), lt, ⟨by rw [later_len]; exact cok.1, cok.2⟩, by omega, lsl, fun H5 e5 => ?_⟩
      walk_at "rd"
      refine ifE (fun ee => ?_) (fun ne => ?_)
      · walk_at "rd"
        have := k H5 (((e1.trans s3).trans e4).trans e5)
        unfold critM at this
        rw [find_range hlen hno (by rw [en', hsk, lsl, hsl, ee]; simp)] at this
        exact this
      · walk_at "rd"
        refine ⟨⟨_, _, _, rfl⟩, (s3.trans e4).trans e5, fun j hj => step j hj fun e => ?_⟩
        rw [e, en', hsk, lsl, hsl]
        simp [ne]
  · rintro σ H' ⟨⟨v1, v2, v3, rfl⟩, s, hno⟩
    subst hD
    walk_at "rd"
    have := k H' (e1.trans s)
    unfold critM at this
    rw [find_range_none fun i h => hno i (by rw [hA.1]; exact h)] at this
    exact this
theorem c_critical_sink {P : Program} {w : World} {K : PySem.W.Frag} {mg : Str → Option Value} {base : Heap} {Z : Cs} (T : TX K mg Z) (c_double_slack : Cal P w K mg base CX0 3 "double_slack" ["driver", "nodes", "library", "choices"] (sp_double_slack K Z)) (c_with_later_others : Cal P w K mg base CX0 1 "with_later_others" ["nodes", "sink"] (sp_with_later_others K Z)) {f : Addr} {fd : FuncData} (g : mg "critical_sink" = some (.ref f)) (F : Fun K "critical_sink" "critical_sink" s_critical_sink f fd) : Cal P w K mg base CX0 4 "critical_sink" ["state", "choices"] (sp_critical_sink K Z) :=
  ⟨f, fd, g, F.kp, F.binds (ps := ["state", "choices"]) (fun _ _ _ _ _ _ us hl => match us, hl with | [_, _], _ => rfl), ok_critical_sink T c_double_slack c_with_later_others F⟩


theorem band (m n : Nat) : Builtin.bitAnd (m : Int) (n : Int) = ((m &&& n : Nat) : Int) := rfl
theorem bor (m n : Nat) : Builtin.bitOr (m : Int) (n : Int) = ((m ||| n : Nat) : Int) := by
  rw [Bits.bitOr_pp (Int.natCast_nonneg m) (Int.natCast_nonneg n), Int.toNat_natCast, Int.toNat_natCast]
theorem ik2 {a b : Nat} : (V.int (a : Int) = V.int (b : Int)) ↔ a = b := ⟨fun h => by have := V.int.inj h; omega, fun h => by rw [h]⟩
theorem spV {sp : Sp} {vs : List V} {H : Hp} {z : V} (h : ∀ H1, Ex H H1 → ∀ Q : VK, (∀ H2, Ex H1 H2 → Q z H2) → ∀ E : XK, sp vs H1 Q E) : Evl.SpV sp vs H z := h
abbrev s_contains : Stmt := top 37
abbrev N_contains : List Str := ["number", "index"]
theorem sc_contains : FnScope N_contains ["number", "index"] (defScope s_contains) := ⟨rfl, rfl, rfl, by decide +kernel, rfl, by decide +kernel, by decide +kernel⟩
def sp_contains (K : PySem.W.Frag) (Z : Cs) : Sp := sp2 fun x y H Q _ => ∃ (s i : Nat), x = nv s ∧ y = nv i ∧ Q (.bl (s.testBit i)) H
set_option maxHeartbeats 4000000 in
theorem ok_contains {P : Program} {w : World} {K : PySem.W.Frag} {mg : Str → Option Value} {base : Heap} {Z : Cs} (T : TX K mg Z)  {f : Addr} {fd : FuncData} (F : Fun K "contains" "contains" s_contains f fd) : FnOk P w K mg base CX0 1 f fd ["number", "index"] (sp_contains K Z) := by
  refine F.ok sc_contains len2 (fun cdv A outer s H vs Q E hr h => ⟨_, (pss_one (ps_ret (pe_cmpR op_eq (pe_op op_and (pe_op op_shr (pv 0) (pv 1)) pe_int) pe_int (nomark _)))), ?_⟩)
  obtain ⟨_, _, rfl, s, i, rfl, rfl, k⟩ := h
  walk_at "rd"
  refine r_i (by omega) ?_
  walk_at "rd"
  have e : Builtin.bitAnd ((s : Int) / 2 ^ (i : Int).toNat) 1 = ((s / 2 ^ i % 2 : Nat) : Int) := by
    rw [Int.toNat_natCast, ← Nat.and_one_is_mod, ← band]
    norm_cast
  rw [e]
  have e2 : decide (V.int ((s / 2 ^ i % 2 : Nat) : Int) = V.int 1) = s.testBit i := by
    rw [Nat.testBit_eq_decide_div_mod_eq]
    exact decide_eq_decide.mpr ⟨fun h => by have := V.int.inj h; omega, fun h => by rw [h]; rfl⟩
  rw [e2]
  exact k
theorem c_contains {P : Program} {w : World} {K : PySem.W.Frag} {mg : Str → Option Value} {base : Heap} {Z : Cs} (T : TX K mg Z)  {f : Addr} {fd : FuncData} (g : mg "contains" = some (.ref f)) (F : Fun K "contains" "contains" s_contains f fd) : Cal P w K mg base CX0 1 "contains" ["number", "index"] (sp_contains K Z) :=
  ⟨f, fd, g, F.kp, F.binds (ps := ["number", "index"]) (fun _ _ _ _ _ _ us hl => match us, hl with | [_, _], _ => rfl), ok_contains T  F⟩
abbrev s_all_of : Stmt := top 38
abbrev N_all_of : List Str := ["count"]
theorem sc_all_of : FnScope N_all_of ["count"] (defScope s_all_of) := ⟨rfl, rfl, rfl, by decide +kernel, rfl, by decide +kernel, by decide +kernel⟩
def sp_all_of (K : PySem.W.Frag) (Z : Cs) : Sp := sp1 fun x H Q _ => ∃ (n : Nat), x = nv n ∧ n ≤ 1000 ∧ Q (nv (2 ^ n - 1)) H
set_option maxHeartbeats 4000000 in
theorem ok_all_of {P : Program} {w : World} {K : PySem.W.Frag} {mg : Str → Option Value} {base : Heap} {Z : Cs} (T : TX K mg Z)  {f : Addr} {fd : FuncData} (F : Fun K "all_of" "all_of" s_all_of f fd) : FnOk P w K mg base CX0 1 f fd ["count"] (sp_all_of K Z) := by
  refine F.ok sc_all_of len1 (fun cdv A outer s H vs Q E hr h => ⟨_, (pss_one (ps_ret (pe_op op_sub (pe_op op_shl pe_int (pv 0)) pe_int))), ?_⟩)
  obtain ⟨_, rfl, n, rfl, hn, k⟩ := h
  walk_at "rd"
  refine r_i ⟨by omega, by omega, by decide⟩ ?_
  walk_at "rd"
  have hp : 0 < 2 ^ n := Nat.pow_pos (by decide)
  have e : (1 : Int) * 2 ^ (n : Int).toNat - 1 = ((2 ^ n - 1 : Nat) : Int) := by
    rw [Int.toNat_natCast]
    have : ((2 ^ n : Nat) : Int) = (2 : Int) ^ n := by push_cast; rfl
    omega
  rw [e]
  exact k
theorem c_all_of {P : Program} {w : World} {K : PySem.W.Frag} {mg : Str → Option Value} {base : Heap} {Z : Cs} (T : TX K mg Z)  {f : Addr} {fd : FuncData} (g : mg "all_of" = some (.ref f)) (F : Fun K "all_of" "all_of" s_all_of f fd) : Cal P w K mg base CX0 1 "all_of" ["count"] (sp_all_of K Z) :=
  ⟨f, fd, g, F.kp, F.binds (ps := ["count"]) (fun _ _ _ _ _ _ us hl => match us, hl with | [_], _ => rfl), ok_all_of T  F⟩
abbrev s_without : Stmt := top 39
abbrev N_without : List Str := ["one", "other"]
theorem sc_without : FnScope N_without ["one", "other"] (defScope s_without) := ⟨rfl, rfl, rfl, by decide +kernel, rfl, by decide +kernel, by decide +kernel⟩
def sp_without (K : PySem.W.Frag) (Z : Cs) : Sp := sp2 fun x y H Q _ => ∃ (a b : Nat), x = nv a ∧ y = nv b ∧ Q (nv (a - (a &&& b))) H
set_option maxHeartbeats 4000000 in
theorem ok_without {P : Program} {w : World} {K : PySem.W.Frag} {mg : Str → Option Value} {base : Heap} {Z : Cs} (T : TX K mg Z)  {f : Addr} {fd : FuncData} (F : Fun K "without" "without" s_without f fd) : FnOk P w K mg base CX0 1 f fd ["one", "other"] (sp_without K Z) := by
  refine F.ok sc_without len2 (fun cdv A outer s H vs Q E hr h => ⟨_, (pss_one (ps_ret (pe_op op_sub (pv 0) (pe_op op_and (pv 0) (pv 1))))), ?_⟩)
  obtain ⟨_, _, rfl, a, b, rfl, rfl, k⟩ := h
  walk_at "rd"
  rw [band]
  have hl := Nat.and_le_left (n := a) (m := b)
  have e : (a : Int) - ((a &&& b : Nat) : Int) = ((a - (a &&& b) : Nat) : Int) := by omega
  rw [e]
  exact k
theorem c_without {P : Program} {w : World} {K : PySem.W.Frag} {mg : Str → Option Value} {base : Heap} {Z : Cs} (T : TX K mg Z)  {f : Addr} {fd : FuncData} (g : mg "without" = some (.ref f)) (F : Fun K "without" "without" s_without f fd) : Cal P w K mg base CX0 1 "without" ["one", "other"] (sp_without K Z) :=
  ⟨f, fd, g, F.kp, F.binds (ps := ["one", "other"]) (fun _ _ _ _ _ _ us hl => match us, hl with | [_, _], _ => rfl), ok_without T  F⟩
def costR (cs : List Change) (s : Nat) : Nat := Kpd9.sum ((Kpd9.membersOf cs.length s).map (costAt cs))
theorem costR_eq (r : Repairs) (s : Nat) : Kpd9.repairCost r s = costR r.changes s := rfl
abbrev s_cost_of_repairs : Stmt := top 40
abbrev N_cost_of_repairs : List Str := ["changes", "chosen", "k", "cost", "repairs"]
theorem sc_cost_of_repairs : FnScope N_cost_of_repairs ["changes", "chosen"] (defScope s_cost_of_repairs) := ⟨rfl, rfl, rfl, by decide +kernel, rfl, by decide +kernel, by decide +kernel⟩
def sp_cost_of_repairs (K : PySem.W.Frag) (Z : Cs) : Sp := sp2 fun x y H Q _ => ∃ (a : Addr) (cs : List Change) (s : Nat), x = .ref a ∧ y = nv s ∧ TabA K H a chRow cs ∧ cs.length ≤ 1000 ∧ RetV (nv (costR cs s)) H Q
set_option maxHeartbeats 4000000 in
theorem ok_cost_of_repairs {P : Program} {w : World} {K : PySem.W.Frag} {mg : Str → Option Value} {base : Heap} {Z : Cs} (T : TX K mg Z) (c_contains : Cal P w K mg base CX0 1 "contains" ["number", "index"] (sp_contains K Z)) {f : Addr} {fd : FuncData} (F : Fun K "cost_of" "cost_of" s_cost_of_repairs f fd) : FnOk P w K mg base CX0 2 f fd ["changes", "chosen"] (sp_cost_of_repairs K Z) := by
  refine F.ok sc_cost_of_repairs len2 (fun cdv A outer s H vs Q E hr h => ⟨_, (pss_one (ps_ret (pe_callB (cr_sum rfl) (by rfl) T.b_sum (by decide +kernel) (pa_cons (pe_lc (own := [("k", 2), ("cost", 3), ("repairs", 4)]) (by rfl) sc_cost_of_repairs.nd (pi_enum (by rfl) T.b_enumerate (pa_cons (pv 0) pa_nil)) (blkOk_by (own := [("k", 2), ("cost", 3), ("repairs", 4)]) (N := N_cost_of_repairs) (sc := defScope s_cost_of_repairs) (by decide +kernel)) (fun _ _ _ _ _ => (pgT (K := K) (n := 2) rfl (by rfl) (pgs_cons (pg_name (i := 2) sc_cost_of_repairs.nd rfl (Or.inl rfl)) (pgs_cons (pgT (K := K) (n := 2) rfl (by rfl) (pgs_cons (pg_name (i := 3) sc_cost_of_repairs.nd rfl (Or.inl rfl)) (pgs_cons (pg_name (i := 4) sc_cost_of_repairs.nd rfl (Or.inl rfl)) pgs_nil))) pgs_nil)))) (fun _ _ _ _ _ => (pts_one (pt_val (pe_c c_contains (hr.mono (by decide)) (by rfl) (pa_cons (pv 1) (pa_cons (pv 2) pa_nil)))))) (fun _ _ _ _ _ => (pv 3))) pa_nil)))), ?_⟩)
  obtain ⟨_, _, rfl, a, cs, s, rfl, rfl, ⟨xs, hx, hA⟩, hn, k⟩ := h
  walk_at "rd"
  refine lcP3 (J := Ite K a) (fun R r => ?_) (walk_enum (xs := xs)) (fun i => s.testBit i) (fun i => nv (costAt cs i)) (fun i => nv (costAt cs i)) (fun i => nv (repAt cs i)) (fun H1 e => SqL.of (e _ _ hx)) (by rw [hA.1]; omega) (by intro _ _ _; rfl) ?_ ?_ ?_ ?_
  · walk_at "rd"
    exact ⟨a, xs, rfl, SqL.of hx, r⟩
  · intro i y hi ey
    obtain ⟨c, ec, U, rfl, hU⟩ := hA.get ey
    refine ⟨U, rfl, ?_⟩
    unfold costAt repAt
    rw [ec]
    exact hU
  · intro i x hi ex
    cases ex
    exact Evl.et_B (Evl.ev_call (Evl.ea_cons (Evl.ev_var rfl) (Evl.ea_cons (Evl.ev_var rfl) Evl.ea_nil)) (spV fun H1 e Q q E => ⟨_, _, rfl, s, i, rfl, rfl, q H1 (Ex.refl H1)⟩))
  · intro i x hi ex _
    exact Evl.ev_var rfl
  · intro D H1 hD e1 hD1
    walk_at "rd"
    refine ⟨D, ((Kpd9.membersOf cs.length s).map fun i => ((costAt cs i : Nat) : Int)), rfl, SqL.of ?_, ?_⟩
    · rw [hD1, hA.1, List.map_map]
      rfl
    · have e : ((Kpd9.membersOf cs.length s).map fun i => ((costAt cs i : Nat) : Int)).sum = (costR cs s : Int) := by
        unfold costR
        rw [ksum, ← cast_sum, List.map_map]
        rfl
      rw [e]
      exact k H1 e1
theorem c_cost_of_repairs {P : Program} {w : World} {K : PySem.W.Frag} {mg : Str → Option Value} {base : Heap} {Z : Cs} (T : TX K mg Z) (c_contains : Cal P w K mg base CX0 1 "contains" ["number", "index"] (sp_contains K Z)) {f : Addr} {fd : FuncData} (g : mg "cost_of_repairs" = some (.ref f)) (F : Fun K "cost_of" "cost_of" s_cost_of_repairs f fd) : Cal P w K mg base CX0 2 "cost_of_repairs" ["changes", "chosen"] (sp_cost_of_repairs K Z) :=
  ⟨f, fd, g, F.kp, F.binds (ps := ["changes", "chosen"]) (fun _ _ _ _ _ _ us hl => match us, hl with | [_, _], _ => rfl), ok_cost_of_repairs T c_contains F⟩
abbrev s_repaired : Stmt := top 42
abbrev N_repaired : List Str := ["changes", "chosen", "found", "k", "cost", "repairs"]
theorem sc_repaired : FnScope N_repaired ["changes", "chosen"] (defScope s_repaired) := ⟨rfl, rfl, rfl, by decide +kernel, rfl, by decide +kernel, by decide +kernel⟩
def sp_repaired (K : PySem.W.Frag) (Z : Cs) : Sp := sp2 fun x y H Q _ => ∃ (a : Addr) (cs : List Change) (s : Nat), x = .ref a ∧ y = nv s ∧ TabA K H a chRow cs ∧ cs.length ≤ 1000 ∧ RetV (nv (repM cs cs.length s)) H Q
set_option maxHeartbeats 4000000 in
theorem ok_repaired {P : Program} {w : World} {K : PySem.W.Frag} {mg : Str → Option Value} {base : Heap} {Z : Cs} (T : TX K mg Z) (c_contains : Cal P w K mg base CX0 1 "contains" ["number", "index"] (sp_contains K Z)) {f : Addr} {fd : FuncData} (F : Fun K "repaired" "repaired" s_repaired f fd) : FnOk P w K mg base CX0 2 f fd ["changes", "chosen"] (sp_repaired K Z) := by
  refine F.ok sc_repaired len2 (fun cdv A outer s H vs Q E hr h => ⟨_, (pss_cons (ps_set (i := 2) sc_repaired.nd rfl (Or.inl rfl) pe_int)
    (pss_cons (ps_for PassesOwn.never rfl (pi_enum (by rfl) T.b_enumerate (pa_cons (pv 0) pa_nil)) (pgT (K := K) (n := 2) rfl (by rfl) (pgs_cons (pg_name (i := 3) sc_repaired.nd rfl (Or.inl rfl)) (pgs_cons (pgT (K := K) (n := 2) rfl (by rfl) (pgs_cons (pg_name (i := 4) sc_repaired.nd rfl (Or.inl rfl)) (pgs_cons (pg_name (i := 5) sc_repaired.nd rfl (Or.inl rfl)) pgs_nil))) pgs_nil))) (pss_one (ps_if (pt_val (pe_c c_contains (hr.mono (by decide)) (by rfl) (pa_cons (pv 1) (pa_cons (pv 3) pa_nil)))) (pss_one (ps_set (i := 2) sc_repaired.nd rfl (Or.inl rfl) (pe_op op_or (pv 2) (pv 5)))) pss_nil)))
    (pss_one (ps_ret (pv 2))))), ?_⟩)
  obtain ⟨_, _, rfl, a, cs, s, rfl, rfl, ⟨xs, hx, hA⟩, hn, k⟩ := h
  walk_at "rd"
  refine r_for fun D' hD => ?_
  walk_at "rd"
  refine ⟨a, xs, rfl, SqL.of hx, for_enum (D := D') (xs := xs) (fun i σ H' => (∃ v1 v2 v3, σ = [some (.ref a), some (nv s), some (nv (repM cs i s)), v1, v2, v3]) ∧ Same H H') ?_ ?_ ?_ ?_⟩
  · exact ⟨⟨_, _, _, rfl⟩, Same.refl H⟩
  · rintro i σ H' _ ⟨_, e⟩
    exact SqL.of (e _ _ hx)
  · rintro i x σ H' U hi ⟨⟨v1, v2, v3, rfl⟩, e⟩ hU
    subst hD
    obtain ⟨c, ec, p, rfl, hp⟩ := hA.get hi
    have e2 := e.trans (same_new (o := HO.tup [.int (i : Nat), .ref p]) hU)
    refine r_tupg (SqT.of upd_same) rfl ?_
    walk_at "rd"
    refine r_tupg (xs := [nv c.cost, nv c.repairs]) (Same.sqt e2 hp) rfl ?_
    walk_at "rd"
    refine ⟨_, _, rfl, s, i, rfl, rfl, ?_⟩
    have er : repAt cs i = c.repairs := by unfold repAt; rw [ec]; rfl
    walk_at "rd"
    refine ifb (fun hb => ?_) (fun hb => ?_)
    · walk_at "rd"
      have es : repM cs (i + 1) s = repM cs i s ||| c.repairs := by rw [rep_succ, if_pos hb, er]
      rw [bor, es]
      exact ⟨⟨_, _, _, rfl⟩, e2⟩
    · walk_at "rd"
      have es : repM cs (i + 1) s = repM cs i s := by rw [rep_succ, if_neg (by rw [hb]; decide)]
      rw [es]
      exact ⟨⟨_, _, _, rfl⟩, e2⟩
  · rintro σ H' ⟨⟨v1, v2, v3, rfl⟩, e⟩
    subst hD
    rw [hA.1]
    walk_at "rd"
    exact k H' e
theorem c_repaired {P : Program} {w : World} {K : PySem.W.Frag} {mg : Str → Option Value} {base : Heap} {Z : Cs} (T : TX K mg Z) (c_contains : Cal P w K mg base CX0 1 "contains" ["number", "index"] (sp_contains K Z)) {f : Addr} {fd : FuncData} (g : mg "repaired" = some (.ref f)) (F : Fun K "repaired" "repaired" s_repaired f fd) : Cal P w K mg base CX0 2 "repaired" ["changes", "chosen"] (sp_repaired K Z) :=
  ⟨f, fd, g, F.kp, F.binds (ps := ["changes", "chosen"]) (fun _ _ _ _ _ _ us hl => match us, hl with | [_, _], _ => rfl), ok_repaired T c_contains F⟩
abbrev s_unrepaired : Stmt := top 43
abbrev N_unrepaired : List Str := ["state", "chosen"]
theorem sc_unrepaired : FnScope N_unrepaired ["state", "chosen"] (defScope s_unrepaired) := ⟨rfl, rfl, rfl, by decide +kernel, rfl, by decide +kernel, by decide +kernel⟩
def sp_unrepaired (K : PySem.W.Frag) (Z : Cs) : Sp := sp2 fun x y H Q _ => ∃ (a : Addr) (d : Design) (l : Ls) (asg s : Nat), x = .ref a ∧ y = nv s ∧ StAt K Z H a d l asg ∧ Wf d ∧ RetV (nv (Kpd9.unrepaired d.repairs (s ||| d.repairs.applied))) H Q
set_option maxHeartbeats 4000000 in
theorem ok_unrepaired {P : Program} {w : World} {K : PySem.W.Frag} {mg : Str → Option Value} {base : Heap} {Z : Cs} (T : TX K mg Z) (c_all_of : Cal P w K mg base CX0 1 "all_of" ["count"] (sp_all_of K Z)) (c_repaired : Cal P w K mg base CX0 2 "repaired" ["changes", "chosen"] (sp_repaired K Z)) (c_without : Cal P w K mg base CX0 1 "without" ["one", "other"] (sp_without K Z)) {f : Addr} {fd : FuncData} (F : Fun K "unrepaired" "unrepaired" s_unrepaired f fd) : FnOk P w K mg base CX0 3 f fd ["state", "chosen"] (sp_unrepaired K Z) := by
  refine F.ok sc_unrepaired len2 (fun cdv A outer s H vs Q E hr h => ⟨_, (pss_one (ps_ret (pe_c c_without (hr.mono (by decide)) (by rfl) (pa_cons (pe_c c_all_of (hr.mono (by decide)) (by rfl) (pa_cons (fldK (K := K) rfl (pv 0) rfl) pa_nil)) (pa_cons (pe_c c_repaired (hr.mono (by decide)) (by rfl) (pa_cons (fldK (K := K) rfl (pv 0) rfl) (pa_cons (pe_op op_or (pv 1) (fldK (K := K) rfl (pv 0) rfl)) pa_nil))) pa_nil))))), ?_⟩)
  obtain ⟨_, _, rfl, a, d, l, asg, s, rfl, rfl, S, W, k⟩ := h
  have := W.vio
  have := W.chg
  walk_at "rd"
  refine ⟨_, rfl, d.repairs.violations, rfl, by omega, ?_⟩
  walk_at "rd"
  rw [bor]
  refine ⟨_, _, rfl, l.changes, d.repairs.changes, s ||| d.repairs.applied, rfl, rfl, S.changes, by omega, fun H1 e1 => ?_⟩
  walk_at "rd"
  exact ⟨_, _, rfl, _, _, rfl, rfl, k H1 e1⟩
theorem c_unrepaired {P : Program} {w : World} {K : PySem.W.Frag} {mg : Str → Option Value} {base : Heap} {Z : Cs} (T : TX K mg Z) (c_all_of : Cal P w K mg base CX0 1 "all_of" ["count"] (sp_all_of K Z)) (c_repaired : Cal P w K mg base CX0 2 "repaired" ["changes", "chosen"] (sp_repaired K Z)) (c_without : Cal P w K mg base CX0 1 "without" ["one", "other"] (sp_without K Z)) {f : Addr} {fd : FuncData} (g : mg "unrepaired" = some (.ref f)) (F : Fun K "unrepaired" "unrepaired" s_unrepaired f fd) : Cal P w K mg base CX0 3 "unrepaired" ["state", "chosen"] (sp_unrepaired K Z) :=
  ⟨f, fd, g, F.kp, F.binds (ps := ["state", "chosen"]) (fun _ _ _ _ _ _ us hl => match us, hl with | [_, _], _ => rfl), ok_unrepaired T c_all_of c_repaired c_without F⟩
def CfV (H : Hp) (v : V) : Option (Nat × Nat) → Prop
  | none => v = .non
  | some c => ∃ p, v = .ref p ∧ H p = some (.tup [nv c.1, nv c.2])
theorem CfV.mono {H H' : Hp} {v : V} {o : Option (Nat × Nat)} (e : Same H H') (h : CfV H v o) : CfV H' v o := by
  cases o with
  | none => exact h
  | some c => exact let ⟨p, a, b⟩ := h; ⟨p, a, e _ _ b⟩
theorem find_take {α : Type} {p : α → Bool} {l : List α} {i : Nat} {x : α} (h : l[i]? = some x) (hn : ∀ y ∈ l.take i, p y = false) (hp : p x = true) : l.find? p = some x := by
  rw [List.find?_eq_some_iff_append]
  have hl := lt_of_get h
  refine ⟨hp, l.take i, l.drop (i + 1), ?_, fun a ha => by rw [hn a ha]; rfl⟩
  have e : l[i] = x := by
    rw [List.getElem?_eq_getElem hl] at h
    exact Option.some.inj h
  rw [← e, ← List.drop_eq_getElem_cons hl, List.take_append_drop]
abbrev s_first_conflict : Stmt := top 44
abbrev N_first_conflict : List Str := ["state", "chosen", "both", "first", "second"]
theorem sc_first_conflict : FnScope N_first_conflict ["state", "chosen"] (defScope s_first_conflict) := ⟨rfl, rfl, rfl, by decide +kernel, rfl, by decide +kernel, by decide +kernel⟩
def sp_first_conflict (K : PySem.W.Frag) (Z : Cs) : Sp := sp2 fun x y H Q _ => ∃ (a : Addr) (d : Design) (l : Ls) (asg s : Nat), x = .ref a ∧ y = nv s ∧ StAt K Z H a d l asg ∧ ∀ v H2, Same H H2 → CfV H2 v (Kpd9.conflictIn d.repairs (s ||| d.repairs.applied)) → Q v H2
set_option maxHeartbeats 4000000 in
theorem ok_first_conflict {P : Program} {w : World} {K : PySem.W.Frag} {mg : Str → Option Value} {base : Heap} {Z : Cs} (T : TX K mg Z) (c_contains : Cal P w K mg base CX0 1 "contains" ["number", "index"] (sp_contains K Z)) {f : Addr} {fd : FuncData} (F : Fun K "first_conflict" "first_conflict" s_first_conflict f fd) : FnOk P w K mg base CX0 2 f fd ["state", "chosen"] (sp_first_conflict K Z) := by
  refine F.ok sc_first_conflict len2 (fun cdv A outer s H vs Q E hr h => ⟨_, (pss_cons (ps_set (i := 2) sc_first_conflict.nd rfl (Or.inl rfl) (pe_op op_or (pv 1) (fldK (K := K) rfl (pv 0) rfl)))
    (pss_cons (ps_for PassesOwn.never rfl (pi_list (fldK (K := K) rfl (pv 0) rfl)) (pgT (K := K) (n := 2) rfl (by rfl) (pgs_cons (pg_name (i := 3) sc_first_conflict.nd rfl (Or.inl rfl)) (pgs_cons (pg_name (i := 4) sc_first_conflict.nd rfl (Or.inl rfl)) pgs_nil))) (pss_one (ps_if (PW.pt (pw_and (pt_val (pe_c c_contains (hr.mono (by decide)) (by rfl) (pa_cons (pv 2) (pa_cons (pv 3) pa_nil)))) (pw_and1 (pt_val (pe_c c_contains (hr.mono (by decide)) (by rfl) (pa_cons (pv 2) (pa_cons (pv 4) pa_nil))))))) (pss_one (ps_ret (pe_tup (pa_cons (pv 3) (pa_cons (pv 4) pa_nil))))) pss_nil)))
    (pss_one (ps_ret pe_non)))), ?_⟩)
  obtain ⟨_, _, rfl, a, d, l, asg, s, rfl, rfl, S, k⟩ := h
  obtain ⟨xs, hx, hA⟩ := S.conflicts
  walk_at "rd"
  rw [bor]
  refine r_for fun D' hD => ?_
  walk_at "rd"
  refine ⟨l.conflicts, rfl, ⟨_, SqL.of hx⟩, for_list (D := D') (xs := xs) (fun i σ H' => (∃ v1 v2, σ = [some (.ref a), some (nv s), some (nv (s ||| d.repairs.applied)), v1, v2]) ∧ H' = H ∧ ∀ c ∈ d.repairs.conflicts.take i, ((s ||| d.repairs.applied).testBit c.1 && (s ||| d.repairs.applied).testBit c.2) = false) ?_ ?_ ?_ ?_⟩
  · exact ⟨⟨_, _, rfl⟩, rfl, fun c h => by cases h⟩
  · rintro i σ H' _ ⟨_, rfl, _⟩
    exact SqL.of hx
  · rintro i x σ H' hi ⟨⟨v1, v2, rfl⟩, rfl, hno⟩
    subst hD
    obtain ⟨c, ec, p, rfl, hp⟩ := hA.get hi
    refine r_tupg (xs := [nv c.1, nv c.2]) hp rfl ?_
    walk_at "rd"
    refine ⟨_, _, rfl, _, c.1, rfl, rfl, ?_⟩
    walk_at "rd"
    have next : ((s ||| d.repairs.applied).testBit c.1 && (s ||| d.repairs.applied).testBit c.2) = false → ∀ c' ∈ d.repairs.conflicts.take (i + 1), ((s ||| d.repairs.applied).testBit c'.1 && (s ||| d.repairs.applied).testBit c'.2) = false := fun h c' hc => by
      rw [take_more ec] at hc
      rcases List.mem_append.mp hc with q | q
      · exact hno c' q
      · have : c' = c := by simpa using q
        subst this
        exact h
    refine ifb (fun b1 => ?_) (fun b1 => ?_)
    · walk_at "rd"
      refine ⟨_, _, rfl, _, c.2, rfl, rfl, ?_⟩
      walk_at "rd"
      refine ifb (fun b2 => ?_) (fun b2 => ?_)
      · walk_at "rd"
        refine ⟨lineR rfl, fun p hp => ?_⟩
        refine k _ _ (same_new hp) ?_
        unfold Kpd9.conflictIn
        rw [find_take ec hno (by rw [b1, b2]; rfl)]
        exact ⟨p, rfl, upd_same⟩
      · walk_at "rd"
        exact ⟨⟨_, _, rfl⟩, rfl, next (by rw [b1, b2]; rfl)⟩
    · refine iteF ?_
      walk_at "rd"
      exact ⟨⟨_, _, rfl⟩, rfl, next (by rw [b1]; rfl)⟩
  · rintro σ H' ⟨⟨v1, v2, rfl⟩, rfl, hno⟩
    subst hD
    rw [List.take_of_length_le (by rw [hA.1]; exact Nat.le_refl _)] at hno
    walk_at "rd"
    refine k _ _ (Same.refl H') ?_
    unfold Kpd9.conflictIn
    rw [List.find?_eq_none.mpr fun c hc => by rw [hno c hc]; decide]
    rfl
theorem c_first_conflict {P : Program} {w : World} {K : PySem.W.Frag} {mg : Str → Option Value} {base : Heap} {Z : Cs} (T : TX K mg Z) (c_contains : Cal P w K mg base CX0 1 "contains" ["number", "index"] (sp_contains K Z)) {f : Addr} {fd : FuncData} (g : mg "first_conflict" = some (.ref f)) (F : Fun K "first_conflict" "first_conflict" s_first_conflict f fd) : Cal P w K mg base CX0 2 "first_conflict" ["state", "chosen"] (sp_first_conflict K Z) :=
  ⟨f, fd, g, F.kp, F.binds (ps := ["state", "chosen"]) (fun _ _ _ _ _ _ us hl => match us, hl with | [_, _], _ => rfl), ok_first_conflict T c_contains F⟩
abbrev s_is_repair : Stmt := top 45
abbrev N_is_repair : List Str := ["state", "chosen"]
theorem sc_is_repair : FnScope N_is_repair ["state", "chosen"] (defScope s_is_repair) := ⟨rfl, rfl, rfl, by decide +kernel, rfl, by decide +kernel, by decide +kernel⟩
def sp_is_repair (K : PySem.W.Frag) (Z : Cs) : Sp := sp2 fun x y H Q _ => ∃ (a : Addr) (d : Design) (l : Ls) (asg s : Nat), x = .ref a ∧ y = nv s ∧ StAt K Z H a d l asg ∧ Wf d ∧ RetV (.bl (Kpd9.isRepair d.repairs s)) H Q
set_option maxHeartbeats 4000000 in
theorem ok_is_repair {P : Program} {w : World} {K : PySem.W.Frag} {mg : Str → Option Value} {base : Heap} {Z : Cs} (T : TX K mg Z) (c_first_conflict : Cal P w K mg base CX0 2 "first_conflict" ["state", "chosen"] (sp_first_conflict K Z)) (c_unrepaired : Cal P w K mg base CX0 3 "unrepaired" ["state", "chosen"] (sp_unrepaired K Z)) {f : Addr} {fd : FuncData} (F : Fun K "is_repair" "is_repair" s_is_repair f fd) : FnOk P w K mg base CX0 4 f fd ["state", "chosen"] (sp_is_repair K Z) := by
  refine F.ok sc_is_repair len2 (fun cdv A outer s H vs Q E hr h => ⟨_, (pss_cons (ps_if (PW.pt (pw_or (pt_cmpR op_ne (pe_op op_and (pv 1) (fldK (K := K) rfl (pv 0) rfl)) pe_int (nomark _)) (pw_or1 (pt_cmpR op_notN (pe_c c_first_conflict (hr.mono (by decide)) (by rfl) (pa_cons (pv 0) (pa_cons (pv 1) pa_nil))) pe_non (nomark _))))) (pss_one (ps_ret pe_bl)) pss_nil)
    (pss_one (ps_ret (pe_cmpR op_eq (pe_c c_unrepaired (hr.mono (by decide)) (by rfl) (pa_cons (pv 0) (pa_cons (pv 1) pa_nil))) pe_int (nomark _))))), ?_⟩)
  obtain ⟨_, _, rfl, a, d, l, asg, s, rfl, rfl, S, W, k⟩ := h
  walk_at "rd"
  rw [band]
  have key : Kpd9.isRepair d.repairs s = ((s &&& d.repairs.applied) == 0 && Kpd9.unrepaired d.repairs (s ||| d.repairs.applied) == 0 && (Kpd9.conflictIn d.repairs (s ||| d.repairs.applied)).isNone) := rfl
  rw [key] at k
  refine ifN (fun ne => ?_) (fun e0 => ?_)
  · refine iteT ?_
    walk_at "rd"
    have h : ((s &&& d.repairs.applied) == 0) = false := by simp; omega
    rw [h] at k
    exact k H (Same.refl H)
  · have h : ((s &&& d.repairs.applied) == 0) = true := by simp; omega
    rw [h, Bool.true_and] at k
    walk_at "rd"
    refine ⟨_, _, rfl, a, d, l, asg, s, rfl, rfl, S, fun v H1 e1 hv => ?_⟩
    walk_at "rd"
    cases hc : Kpd9.conflictIn d.repairs (s ||| d.repairs.applied) with
    | some c =>
      rw [hc] at hv k
      obtain ⟨p, rfl, hp⟩ := hv
      refine ⟨rfl, true, rfl, iteT ?_⟩
      walk_at "rd"
      rw [Option.isNone_some, Bool.and_false] at k
      exact k H1 e1
    | none =>
      rw [hc] at hv k
      have ev : v = .non := hv
      subst ev
      refine ⟨rfl, false, rfl, iteF ?_⟩
      walk_at "rd"
      refine ⟨_, _, rfl, a, d, l, asg, s, rfl, rfl, S.mono e1, W, fun H2 e2 => ?_⟩
      walk_at "rd"
      rw [Option.isNone_none, Bool.and_true] at k
      have e : decide (nv (Kpd9.unrepaired d.repairs (s ||| d.repairs.applied)) = V.int 0) = (Kpd9.unrepaired d.repairs (s ||| d.repairs.applied) == 0) := by
        rw [Bool.eq_iff_iff, decide_eq_true_eq, beq_iff_eq]
        exact ⟨fun h => by have := V.int.inj h; omega, fun h => by rw [h]; rfl⟩
      rw [e]
      exact k H2 (e1.trans e2)
theorem c_is_repair {P : Program} {w : World} {K : PySem.W.Frag} {mg : Str → Option Value} {base : Heap} {Z : Cs} (T : TX K mg Z) (c_first_conflict : Cal P w K mg base CX0 2 "first_conflict" ["state", "chosen"] (sp_first_conflict K Z)) (c_unrepaired : Cal P w K mg base CX0 3 "unrepaired" ["state", "chosen"] (sp_unrepaired K Z)) {f : Addr} {fd : FuncData} (g : mg "is_repair" = some (.ref f)) (F : Fun K "is_repair" "is_repair" s_is_repair f fd) : Cal P w K mg base CX0 4 "is_repair" ["state", "chosen"] (sp_is_repair K Z) :=
  ⟨f, fd, g, F.kp, F.binds (ps := ["state", "chosen"]) (fun _ _ _ _ _ _ us hl => match us, hl with | [_, _], _ => rfl), ok_is_repair T c_first_conflict c_unrepaired F⟩


theorem allR_len {r : Repairs} (h : r.changes.length ≤ 9) (n : Nat) (hn : n ≤ 2 ^ r.changes.length) : (cheapR r (List.range n)).2.length ≤ 512 := by
  have h1 := cheapR_len r (List.range n)
  rw [List.length_range] at h1
  have h2 : 2 ^ r.changes.length ≤ 2 ^ 9 := Nat.pow_le_pow_right (by decide) h
  omega
abbrev s_cheapest_repairs : Stmt := top 46
abbrev N_cheapest_repairs : List Str := ["state", "cost", "found", "chosen", "own"]
theorem sc_cheapest_repairs : FnScope N_cheapest_repairs ["state"] (defScope s_cheapest_repairs) := ⟨rfl, rfl, rfl, by decide +kernel, rfl, by decide +kernel, by decide +kernel⟩
def sp_cheapest_repairs (K : PySem.W.Frag) (Z : Cs) : Sp := sp1 fun x H Q _ => ∃ (a : Addr) (d : Design) (l : Ls) (asg : Nat), x = .ref a ∧ StAt K Z H a d l asg ∧ Wf d ∧ RetL ((allR d.repairs).map nv) H Q
set_option maxHeartbeats 4000000 in
theorem ok_cheapest_repairs {P : Program} {w : World} {K : PySem.W.Frag} {mg : Str → Option Value} {base : Heap} {Z : Cs} (T : TX K mg Z) (c_cost_of_repairs : Cal P w K mg base CX0 2 "cost_of_repairs" ["changes", "chosen"] (sp_cost_of_repairs K Z)) (c_is_repair : Cal P w K mg base CX0 4 "is_repair" ["state", "chosen"] (sp_is_repair K Z)) {f : Addr} {fd : FuncData} (F : Fun K "cheapest_repairs" "cheapest_repairs" s_cheapest_repairs f fd) : FnOk P w K mg base CX0 5 f fd ["state"] (sp_cheapest_repairs K Z) := by
  refine F.ok sc_cheapest_repairs len1 (fun cdv A outer s H vs Q E hr h => ⟨_, (pss_cons (ps_par (i := 1) (j := 2) (by rfl) sc_cheapest_repairs.nd rfl rfl (by decide) rfl rfl (pa_cons pe_non (pa_cons (pe_lst pa_nil) pa_nil)) (by rfl))
    (pss_cons (ps_for PassesOwn.never rfl (pi_range1 (by rfl) T.b_range (pa_cons (pe_op op_shl pe_int (pe_callB (lenK (K := K) rfl) (by rfl) T.b_len PySem.boot_len (pa_cons (fldK (K := K) rfl (pv 0) rfl) pa_nil))) pa_nil)) (pg_name (i := 3) sc_cheapest_repairs.nd rfl (Or.inl rfl)) (pss_one (ps_if (pt_val (pe_c c_is_repair (hr.mono (by decide)) (by rfl) (pa_cons (pv 0) (pa_cons (pv 3) pa_nil)))) (pss_cons (ps_set (i := 4) sc_cheapest_repairs.nd rfl (Or.inl rfl) (pe_c c_cost_of_repairs (hr.mono (by decide)) (by rfl) (pa_cons (fldK (K := K) rfl (pv 0) rfl) (pa_cons (pv 3) pa_nil))))
    (Evl.pss_cut (ps_if (PW.pt (pw_or (pt_cmpR op_isN (pv 1) pe_non (nomark _)) (pw_or1 (pt_cmpR op_lt (pv 4) (pv 1) (nomark _))))) (pss_one (ps_par (i := 1) (j := 2) (by rfl) sc_cheapest_repairs.nd rfl rfl (by decide) rfl rfl (pa_cons (pv 4) (pa_cons (pe_lst pa_nil) pa_nil)) (by rfl))) pss_nil)
    (pss_one (ps_if (pt_cmpR op_eq (pv 4) (pv 1) (nomark _)) (pss_one (ps_expr (pe_bm PySem.F.plainAttrs_list PySem.F.slot_list_append PySem.F.type_list_append mt_append (pv 2) (pa_cons (pv 3) pa_nil)))) pss_nil)))) pss_nil)))
    (pss_one (ps_ret (pv 2))))), ?_⟩)
  obtain ⟨_, rfl, a, d, l, asg, rfl, S, W, k⟩ := h
  have hc9 := W.chg
  obtain ⟨xs, hx, hA⟩ := S.changes
  have hl := hA.1
  walk_at "rd"
  refine ⟨lineR rfl, fun F0 hF0 => ?_⟩
  walk_at "rd"
  have e1 := same_new (o := HO.lst []) hF0
  have S1 := S.mono e1
  refine r_for fun D' hD => ?_
  walk_at "rd"
  refine ⟨l.changes, xs, rfl, .inl (SqL.of (e1 _ _ hx)), ?_⟩
  rw [hl]
  refine r_i ⟨by omega, by omega, by decide⟩ ?_
  walk_at "rd"
  have e2 : (1 : Int) * 2 ^ ((d.repairs.changes.length : Nat) : Int).toNat = ((2 ^ d.repairs.changes.length : Nat) : Int) := by
    rw [Int.toNat_natCast, Int.one_mul]
    push_cast
    rfl
  rw [e2]
  have hp9 : 2 ^ d.repairs.changes.length ≤ 2 ^ 9 := Nat.pow_le_pow_right (by decide) hc9
  have hpi : ((2 ^ d.repairs.changes.length : Nat) : Int) ≤ 512 := by exact_mod_cast hp9
  have hp0 : (0 : Int) ≤ ((2 ^ d.repairs.changes.length : Nat) : Int) := Int.natCast_nonneg _
  refine ⟨_, rfl, by omega, by omega, ?_⟩
  rw [Int.toNat_natCast]
  refine for_range (D := D') (fun i σ H' => ∃ (F : Addr) (v1 v2 : Option V), σ = [some (.ref a), some (onV (cheapR d.repairs (List.range i)).1), some (.ref F), v1, v2] ∧ Same H H' ∧ H F = none ∧ H' F = some (.lst ((cheapR d.repairs (List.range i)).2.map nv))) ⟨F0, none, none, rfl, e1, hF0, upd_same⟩ ?_ ?_
  · rintro i σ H' hi ⟨F, v1, v2, rfl, s, hF, hf⟩
    subst hD
    have S' := S.mono s
    have hlen := allR_len hc9 i (by omega)
    have snoc := cheapR_snoc d.repairs (List.range i) i
    rw [← List.range_succ] at snoc
    rw [show (0 : Int) + (i : Nat) = (i : Int) by omega]
    walk_at "rd"
    refine ⟨_, _, rfl, a, d, l, asg, i, rfl, rfl, S', W, fun H1 f1 => ?_⟩
    walk_at "rd"
    refine ifb (fun hr => ?_) (fun hr => ?_)
    · rw [if_pos hr] at snoc
      have S1' := S'.mono f1
      walk_at "rd"
      refine ⟨_, _, rfl, l.changes, d.repairs.changes, i, rfl, rfl, S1'.changes, by omega, fun H2 f2 => ?_⟩
      rw [← costR_eq]
      generalize hown : Kpd9.repairCost d.repairs i = own at snoc ⊢
      generalize hch : cheapR d.repairs (List.range i) = ch at *
      obtain ⟨co, ys⟩ := ch
      walk_at "rd"
      have f12 := f1.trans f2
      refine ⟨fun σm Hm => ∃ (F2 : Addr) (c' : Nat) (zs : List Nat), σm = [some (.ref a), some (nv c'), some (.ref F2), some (nv i), some (nv own)] ∧ Same H Hm ∧ H F2 = none ∧ Hm F2 = some (.lst (zs.map nv)) ∧ zs.length ≤ 512 ∧ cheapR d.repairs (List.range (i + 1)) = if own = c' then (some c', zs ++ [i]) else (some c', zs), ?_, ?_⟩
      · walk_at "rd"
        cases co with
        | none =>
          dsimp only [onV]
          refine ⟨rfl, true, rfl, iteT (iteT ?_)⟩
          walk_at "rd"
          refine ⟨lineR rfl, fun F2 hF2 => ?_⟩
          walk_at "rd"
          refine ⟨F2, own, [], rfl, (s.trans f12).trans (same_new hF2), (s.trans f12).free hF2, upd_same, by simp, ?_⟩
          rw [if_pos rfl]
          exact snoc
        | some c =>
          dsimp only [onV]
          refine ⟨rfl, false, rfl, iteF ?_⟩
          walk_at "rd"
          refine ifd (fun lt => ?_) (fun nl => ?_)
          · walk_at "rd"
            refine ⟨lineR rfl, fun F2 hF2 => ?_⟩
            walk_at "rd"
            refine ⟨F2, own, [], rfl, (s.trans f12).trans (same_new hF2), (s.trans f12).free hF2, upd_same, by simp, ?_⟩
            rw [if_pos rfl]
            dsimp only at snoc
            rw [if_pos (by omega)] at snoc
            exact snoc
          · walk_at "rd"
            refine ⟨F, c, ys, rfl, s.trans f12, hF, f12 _ _ hf, hlen, ?_⟩
            dsimp only at snoc
            rw [if_neg (by omega)] at snoc
            exact snoc
      · rintro σm Hm ⟨F2, c', zs, rfl, s2, hF2, hf2, hzl, hz⟩
        walk_at "rd"
        refine ifE (fun ee => ?_) (fun ne => ?_)
        · walk_at "rd"
          refine ⟨ty_list hf2, ?_⟩
          walk_at "rd"
          refine ⟨F2, _, _, rfl, rfl, hf2, line1 (by rw [List.length_map]; omega), ?_⟩
          walk_at "rd"
          rw [hz, if_pos (by omega)]
          refine ⟨F2, _, _, rfl, same_mut s2 hF2, hF2, ?_⟩
          rw [upd_same, List.map_append]
          rfl
        · walk_at "rd"
          rw [hz, if_neg (by omega)]
          exact ⟨F2, _, _, rfl, s2, hF2, hf2⟩
    · rw [if_neg (by rw [hr]; decide)] at snoc
      walk_at "rd"
      rw [snoc]
      exact ⟨F, _, _, rfl, s.trans f1, hF, f1 _ _ hf⟩
  · rintro σ H' ⟨F, v1, v2, rfl, s, hF, hf⟩
    subst hD
    walk_at "rd"
    exact k F H' hF s hf
theorem c_cheapest_repairs {P : Program} {w : World} {K : PySem.W.Frag} {mg : Str → Option Value} {base : Heap} {Z : Cs} (T : TX K mg Z) (c_cost_of_repairs : Cal P w K mg base CX0 2 "cost_of_repairs" ["changes", "chosen"] (sp_cost_of_repairs K Z)) (c_is_repair : Cal P w K mg base CX0 4 "is_repair" ["state", "chosen"] (sp_is_repair K Z)) {f : Addr} {fd : FuncData} (g : mg "cheapest_repairs" = some (.ref f)) (F : Fun K "cheapest_repairs" "cheapest_repairs" s_cheapest_repairs f fd) : Cal P w K mg base CX0 5 "cheapest_repairs" ["state"] (sp_cheapest_repairs K Z) :=
  ⟨f, fd, g, F.kp, F.binds (ps := ["state"]) (fun _ _ _ _ _ _ us hl => match us, hl with | [_], _ => rfl), ok_cheapest_repairs T c_cost_of_repairs c_is_repair F⟩
abbrev s_common_changes : Stmt := top 47
abbrev N_common_changes : List Str := ["some", "found", "chosen"]
theorem sc_common_changes : FnScope N_common_changes ["some"] (defScope s_common_changes) := ⟨rfl, rfl, rfl, by decide +kernel, rfl, by decide +kernel, by decide +kernel⟩
def sp_common_changes (K : PySem.W.Frag) (Z : Cs) : Sp := sp1 fun x H Q _ => ∃ (a : Addr) (l : List Nat), x = .ref a ∧ H a = some (.lst (l.map nv)) ∧ l ≠ [] ∧ RetV (nv (commonM l)) H Q
set_option maxHeartbeats 4000000 in
theorem ok_common_changes {P : Program} {w : World} {K : PySem.W.Frag} {mg : Str → Option Value} {base : Heap} {Z : Cs} (T : TX K mg Z)  {f : Addr} {fd : FuncData} (F : Fun K "common_changes" "common_changes" s_common_changes f fd) : FnOk P w K mg base CX0 1 f fd ["some"] (sp_common_changes K Z) := by
  refine F.ok sc_common_changes len1 (fun cdv A outer s H vs Q E hr h => ⟨_, (pss_cons (ps_set (i := 1) sc_common_changes.nd rfl (Or.inl rfl) (pe_ix (ixL (K := K) rfl) (pv 0) pe_int (fun _ _ => rfl)))
    (pss_cons (ps_for PassesOwn.never rfl (pi_list (pv 0)) (pg_name (i := 2) sc_common_changes.nd rfl (Or.inl rfl)) (pss_one (ps_set (i := 1) sc_common_changes.nd rfl (Or.inl rfl) (pe_op op_and (pv 1) (pv 2)))))
    (pss_one (ps_ret (pv 1))))), ?_⟩)
  obtain ⟨_, rfl, a, l, rfl, hx, hne, k⟩ := h
  have h0 : (l.map nv)[0]? = some (nv (l.headD 0)) := by
    cases l with
    | nil => exact absurd rfl hne
    | cons y r => rfl
  walk_at "rd"
  refine r_ixL (SqL.of hx) (atI_nat (j := 0) h0) ?_
  walk_at "rd"
  refine r_for fun D' hD => ?_
  walk_at "rd"
  refine ⟨a, rfl, ⟨_, SqL.of hx⟩, for_list (D := D') (xs := l.map nv) (fun i σ H' => (∃ v1, σ = [some (.ref a), some (nv ((l.take i).foldl (· &&& ·) (l.headD 0))), v1]) ∧ H' = H) ⟨⟨_, rfl⟩, rfl⟩ ?_ ?_ ?_⟩
  · rintro i σ H' _ ⟨_, rfl⟩
    exact SqL.of hx
  · rintro i x σ H' hi ⟨⟨v1, rfl⟩, rfl⟩
    subst hD
    rw [List.getElem?_map] at hi
    obtain ⟨y, ey, rfl⟩ := Option.map_eq_some_iff.mp hi
    walk_at "rd"
    have es : (l.take (i + 1)).foldl (· &&& ·) (l.headD 0) = (l.take i).foldl (· &&& ·) (l.headD 0) &&& y := by rw [take_more ey, List.foldl_append]; rfl
    rw [band, es]
    exact ⟨⟨_, rfl⟩, rfl⟩
  · rintro σ H' ⟨⟨v1, rfl⟩, rfl⟩
    subst hD
    rw [List.length_map, List.take_of_length_le (Nat.le_refl _)]
    walk_at "rd"
    exact k H' (Same.refl H')
theorem c_common_changes {P : Program} {w : World} {K : PySem.W.Frag} {mg : Str → Option Value} {base : Heap} {Z : Cs} (T : TX K mg Z)  {f : Addr} {fd : FuncData} (g : mg "common_changes" = some (.ref f)) (F : Fun K "common_changes" "common_changes" s_common_changes f fd) : Cal P w K mg base CX0 1 "common_changes" ["some"] (sp_common_changes K Z) :=
  ⟨f, fd, g, F.kp, F.binds (ps := ["some"]) (fun _ _ _ _ _ _ us hl => match us, hl with | [_], _ => rfl), ok_common_changes T  F⟩
abbrev s_price_sum : Stmt := top 48
abbrev N_price_sum : List Str := ["prices", "violations", "k", "price"]
theorem sc_price_sum : FnScope N_price_sum ["prices", "violations"] (defScope s_price_sum) := ⟨rfl, rfl, rfl, by decide +kernel, rfl, by decide +kernel, by decide +kernel⟩
def sp_price_sum (K : PySem.W.Frag) (Z : Cs) : Sp := sp2 fun x y H Q _ => ∃ (a : Addr) (ps : List Nat) (s : Nat), x = .ref a ∧ y = nv s ∧ H a = some (.lst (ps.map nv)) ∧ ps.length ≤ 1000 ∧ RetV (nv (psum ps.length ps s)) H Q
set_option maxHeartbeats 4000000 in
theorem ok_price_sum {P : Program} {w : World} {K : PySem.W.Frag} {mg : Str → Option Value} {base : Heap} {Z : Cs} (T : TX K mg Z) (c_contains : Cal P w K mg base CX0 1 "contains" ["number", "index"] (sp_contains K Z)) {f : Addr} {fd : FuncData} (F : Fun K "price_sum" "price_sum" s_price_sum f fd) : FnOk P w K mg base CX0 2 f fd ["prices", "violations"] (sp_price_sum K Z) := by
  refine F.ok sc_price_sum len2 (fun cdv A outer s H vs Q E hr h => ⟨_, (pss_one (ps_ret (pe_callB (cr_sum rfl) (by rfl) T.b_sum (by decide +kernel) (pa_cons (pe_lc (own := [("k", 2), ("price", 3)]) (by rfl) sc_price_sum.nd (pi_enum (by rfl) T.b_enumerate (pa_cons (pv 0) pa_nil)) (blkOk_by (own := [("k", 2), ("price", 3)]) (N := N_price_sum) (sc := defScope s_price_sum) (by decide +kernel)) (fun _ _ _ _ _ => (pgT (K := K) (n := 2) rfl (by rfl) (pgs_cons (pg_name (i := 2) sc_price_sum.nd rfl (Or.inl rfl)) (pgs_cons (pg_name (i := 3) sc_price_sum.nd rfl (Or.inl rfl)) pgs_nil)))) (fun _ _ _ _ _ => (pts_one (pt_val (pe_c c_contains (hr.mono (by decide)) (by rfl) (pa_cons (pv 1) (pa_cons (pv 2) pa_nil)))))) (fun _ _ _ _ _ => (pv 3))) pa_nil)))), ?_⟩)
  obtain ⟨_, _, rfl, a, ps, s, rfl, rfl, hx, hn, k⟩ := h
  walk_at "rd"
  refine lcP2 (J := Ite K a) (fun R r => ?_) (walk_enum (xs := ps.map nv)) (fun i => s.testBit i) (fun i => nv (ps.getD i 0)) (fun H1 e => SqL.of (e _ _ hx)) (by rw [List.length_map]; omega) (by intro _ _; rfl) ?_ ?_ ?_
  · walk_at "rd"
    exact ⟨a, _, rfl, SqL.of hx, r⟩
  · intro i x y hi ex ey
    cases ex
    exact Evl.et_B (Evl.ev_call (Evl.ea_cons (Evl.ev_var rfl) (Evl.ea_cons (Evl.ev_var rfl) Evl.ea_nil)) (spV fun H1 e Q q E => ⟨_, _, rfl, s, i, rfl, rfl, q H1 (Ex.refl H1)⟩))
  · intro i x y hi ex ey _
    rw [List.getElem?_map] at ey
    obtain ⟨z, ez, rfl⟩ := Option.map_eq_some_iff.mp ey
    rw [getD_of ez]
    exact Evl.ev_var rfl
  · intro D H1 hD e1 hD1
    walk_at "rd"
    refine ⟨D, ((Kpd9.membersOf ps.length s).map fun i => ((ps.getD i 0 : Nat) : Int)), rfl, SqL.of ?_, ?_⟩
    · rw [hD1, List.length_map, List.map_map]
      rfl
    · have e : ((Kpd9.membersOf ps.length s).map fun i => ((ps.getD i 0 : Nat) : Int)).sum = (psum ps.length ps s : Int) := by
        unfold psum
        rw [ksum, ← cast_sum, List.map_map]
        rfl
      rw [e]
      exact k H1 e1
theorem c_price_sum {P : Program} {w : World} {K : PySem.W.Frag} {mg : Str → Option Value} {base : Heap} {Z : Cs} (T : TX K mg Z) (c_contains : Cal P w K mg base CX0 1 "contains" ["number", "index"] (sp_contains K Z)) {f : Addr} {fd : FuncData} (g : mg "price_sum" = some (.ref f)) (F : Fun K "price_sum" "price_sum" s_price_sum f fd) : Cal P w K mg base CX0 2 "price_sum" ["prices", "violations"] (sp_price_sum K Z) :=
  ⟨f, fd, g, F.kp, F.binds (ps := ["prices", "violations"]) (fun _ _ _ _ _ _ us hl => match us, hl with | [_, _], _ => rfl), ok_price_sum T c_contains F⟩


theorem open_eq (r : Repairs) : Kpd9.unrepaired r (0 ||| r.applied) = openM r := by rw [Nat.zero_or]; rfl
abbrev s_raised_price : Stmt := top 49
abbrev N_raised_price : List Str := ["state", "prices", "violation", "rooms", "k", "cost", "repairs", "others"]
theorem sc_raised_price : FnScope N_raised_price ["state", "prices", "violation"] (defScope s_raised_price) := ⟨rfl, rfl, rfl, by decide +kernel, rfl, by decide +kernel, by decide +kernel⟩
def sp_raised_price (K : PySem.W.Frag) (Z : Cs) : Sp := sp3 fun x y z H Q _ => ∃ (a b : Addr) (d : Design) (l : Ls) (asg : Nat) (ps : List Nat) (v : Nat), x = .ref a ∧ y = .ref b ∧ z = nv v ∧ StAt K Z H a d l asg ∧ Wf d ∧ H b = some (.lst (ps.map nv)) ∧ ps.length = d.repairs.violations ∧ v < d.repairs.violations ∧ ps.getD v 0 = 0 ∧ (openM d.repairs).testBit v = true ∧ PInv d.repairs ps ∧ RetV (nv (price1 d.repairs ps v)) H Q
set_option maxHeartbeats 4000000 in
theorem ok_raised_price {P : Program} {w : World} {K : PySem.W.Frag} {mg : Str → Option Value} {base : Heap} {Z : Cs} (T : TX K mg Z) (c_contains : Cal P w K mg base CX0 1 "contains" ["number", "index"] (sp_contains K Z)) (c_price_sum : Cal P w K mg base CX0 2 "price_sum" ["prices", "violations"] (sp_price_sum K Z)) (c_unrepaired : Cal P w K mg base CX0 3 "unrepaired" ["state", "chosen"] (sp_unrepaired K Z)) (c_without : Cal P w K mg base CX0 1 "without" ["one", "other"] (sp_without K Z)) {f : Addr} {fd : FuncData} (F : Fun K "raised_price" "raised_price" s_raised_price f fd) : FnOk P w K mg base CX0 4 f fd ["state", "prices", "violation"] (sp_raised_price K Z) := by
  refine F.ok sc_raised_price len3 (fun cdv A outer s H vs Q E hr h => ⟨_, (pss_cons (ps_set (i := 3) sc_raised_price.nd rfl (Or.inl rfl) (pe_lst pa_nil))
    (pss_cons (ps_for PassesOwn.never rfl (pi_enum (by rfl) T.b_enumerate (pa_cons (fldK (K := K) rfl (pv 0) rfl) pa_nil)) (pgT (K := K) (n := 2) rfl (by rfl) (pgs_cons (pg_name (i := 4) sc_raised_price.nd rfl (Or.inl rfl)) (pgs_cons (pgT (K := K) (n := 2) rfl (by rfl) (pgs_cons (pg_name (i := 5) sc_raised_price.nd rfl (Or.inl rfl)) (pgs_cons (pg_name (i := 6) sc_raised_price.nd rfl (Or.inl rfl)) pgs_nil))) pgs_nil))) (pss_one (ps_if (PW.pt (pw_and (pt_not (pt_val (pe_c c_contains (hr.mono (by decide)) (by rfl) (pa_cons (fldK (K := K) rfl (pv 0) rfl) (pa_cons (pv 4) pa_nil))))) (pw_and1 (pt_val (pe_c c_contains (hr.mono (by decide)) (by rfl) (pa_cons (pv 6) (pa_cons (pv 2) pa_nil))))))) (pss_cons (ps_set (i := 7) sc_raised_price.nd rfl (Or.inl rfl) (pe_c c_without (hr.mono (by decide)) (by rfl) (pa_cons (pe_op op_and (pv 6) (pe_c c_unrepaired (hr.mono (by decide)) (by rfl) (pa_cons (pv 0) (pa_cons pe_int pa_nil)))) (pa_cons (pe_op op_shl pe_int (pv 2)) pa_nil))))
    (pss_one (ps_expr (pe_bm PySem.F.plainAttrs_list PySem.F.slot_list_append PySem.F.type_list_append mt_append (pv 3) (pa_cons (pe_op op_sub (pv 5) (pe_c c_price_sum (hr.mono (by decide)) (by rfl) (pa_cons (pv 1) (pa_cons (pv 7) pa_nil)))) pa_nil))))) pss_nil)))
    (pss_one (ps_ret (pe_ifExp (pt_cmpR (op_neE (K := K) rfl hr.units0) (pv 3) (pe_lst pa_nil) (nomark _)) (pe_callB (cr_min rfl) (by rfl) T.b_min (by decide +kernel) (pa_cons (pv 3) pa_nil)) (pe_ix (ixL (K := K) rfl) (pv 1) (pv 2) (fun _ _ => rfl))))))), ?_⟩)
  obtain ⟨_, _, _, rfl, a, b, d, l, asg, ps, v, rfl, rfl, rfl, S, W, hb, hpl, hv, hz, ho, PI, k⟩ := h
  have hc9 := W.chg
  have hv8 := W.vio
  obtain ⟨xs, hx, hA⟩ := S.changes
  have hl := hA.1
  walk_at "rd"
  refine ⟨lineR rfl, fun F hF => ?_⟩
  have e1 := same_new (o := HO.lst []) hF
  have S1 := S.mono e1
  walk_at "rd"
  refine r_for fun D' hD => ?_
  walk_at "rd"
  refine ⟨l.changes, xs, rfl, SqL.of (e1 _ _ hx), for_enum (D := D') (xs := xs) (fun i σ H' => (∃ v1 v2 v3 v4, σ = [some (.ref a), some (.ref b), some (nv v), some (.ref F), v1, v2, v3, v4]) ∧ Same H H' ∧ H' F = some (.lst ((roomM d.repairs ps v i).map nv)) ∧ (roomM d.repairs ps v i).length ≤ i) ?_ ?_ ?_ ?_⟩
  · exact ⟨⟨_, _, _, _, rfl⟩, e1, upd_same, Nat.le_refl _⟩
  · rintro i σ H' _ ⟨_, e, _⟩
    exact SqL.of (e _ _ hx)
  · rintro i x σ H' U hi ⟨⟨v1, v2, v3, v4, rfl⟩, e, hf, hlen⟩ hU
    subst hD
    obtain ⟨c, ec, p, rfl, hp⟩ := hA.get hi
    have hi9 := lt_of_get ec
    have f1 := same_new (o := HO.tup [.int (i : Nat), .ref p]) hU
    have e2 := e.trans f1
    have S2 := S.mono e2
    have rs := room_succ d.repairs ps v i
    have r1 : room1 d.repairs ps v i = if d.repairs.applied.testBit i || !(c.repairs.testBit v) then none else some (c.cost - psum d.repairs.violations ps (c.repairs &&& openM d.repairs)) := by
      unfold room1
      rw [ec]
    refine r_tupg (SqT.of upd_same) rfl ?_
    walk_at "rd"
    refine r_tupg (xs := [nv c.cost, nv c.repairs]) (Same.sqt e2 hp) rfl ?_
    walk_at "rd"
    refine ⟨_, _, rfl, _, i, rfl, rfl, ?_⟩
    walk_at "rd"
    have skip : (d.repairs.applied.testBit i || !(c.repairs.testBit v)) = true → ∀ (w1 w2 w3 w4 : Option V) (H6 : Hp), Same H H6 → H6 F = some (.lst ((roomM d.repairs ps v i).map nv)) → (∃ v1 v2 v3 v4, [some (.ref a), some (.ref b), some (nv v), some (.ref F), w1, w2, w3, w4] = [some (V.ref a), some (.ref b), some (nv v), some (.ref F), v1, v2, v3, v4]) ∧ Same H H6 ∧ H6 F = some (.lst ((roomM d.repairs ps v (i + 1)).map nv)) ∧ (roomM d.repairs ps v (i + 1)).length ≤ i + 1 := fun q w1 w2 w3 w4 H6 s6 h6 => by
      rw [rs, r1, if_pos q, Option.toList_none, List.append_nil]
      exact ⟨⟨_, _, _, _, rfl⟩, s6, h6, by omega⟩
    refine ifb (fun b1 => ?_) (fun b1 => ?_)
    · have b1' : d.repairs.applied.testBit i = false := by simpa using b1
      walk_at "rd"
      refine ⟨_, _, rfl, _, v, rfl, rfl, ?_⟩
      walk_at "rd"
      refine ifb (fun b2 => ?_) (fun b2 => ?_)
      · walk_at "rd"
        refine ⟨_, _, rfl, a, d, l, asg, 0, rfl, rfl, S2, W, fun H3 f3 => ?_⟩
        rw [open_eq]
        have e3 := e2.trans f3
        have S3 := S.mono e3
        walk_at "rd"
        rw [band]
        refine r_i ⟨by omega, by omega, by decide⟩ ?_
        have e2v : (1 : Int) * 2 ^ ((v : Nat) : Int).toNat = ((2 ^ v : Nat) : Int) := by
          rw [Int.toNat_natCast, Int.one_mul]
          push_cast
          rfl
        walk_at "rd"
        rw [e2v]
        refine ⟨_, _, rfl, _, _, rfl, rfl, ?_⟩
        walk_at "rd"
        have hf3 := f3 _ _ (f1 _ _ hf)
        refine ⟨ty_list hf3, ?_⟩
        walk_at "rd"
        refine ⟨_, _, rfl, b, ps, _, rfl, rfl, e3 _ _ hb, by omega, fun H4 f4 => ?_⟩
        rw [psum_without hz, hpl]
        have hle := PI i c ec b1'
        have hnat : (c.cost : Int) - ((psum d.repairs.violations ps (c.repairs &&& openM d.repairs) : Nat) : Int) = ((c.cost - psum d.repairs.violations ps (c.repairs &&& openM d.repairs) : Nat) : Int) := by omega
        walk_at "rd"
        rw [hnat]
        refine ⟨F, _, _, rfl, rfl, f4 _ _ hf3, line1 (by rw [List.length_map]; omega), ?_⟩
        walk_at "rd"
        refine ⟨⟨_, _, _, _, rfl⟩, same_mut (e3.trans f4) hF, ?_, ?_⟩
        · rw [upd_same, rs, r1, b1', b2, if_neg (by decide), List.map_append]
          rfl
        · rw [rs, r1, b1', b2, if_neg (by decide), List.length_append]
          simp
          exact hlen
      · walk_at "rd"
        exact skip (by rw [b2]; simp) _ _ _ _ _ e2 (f1 _ _ hf)
    · have b1' : d.repairs.applied.testBit i = true := by simpa using b1
      refine iteF ?_
      walk_at "rd"
      exact skip (by rw [b1']; rfl) _ _ _ _ _ e2 (f1 _ _ hf)
  · rintro σ H' ⟨⟨v1, v2, v3, v4, rfl⟩, e, hf, hlen⟩
    subst hD
    rw [hl] at hf hlen
    have hpr : price1 d.repairs ps v = minL (roomM d.repairs ps v d.repairs.changes.length) := if_pos ho
    rw [hpr] at k
    generalize roomM d.repairs ps v d.repairs.changes.length = room at hf hlen k
    walk_at "rd"
    refine ⟨lineR rfl, fun E0 hE0 => ?_⟩
    have f1 := same_new (o := HO.lst []) hE0
    refine ⟨F, E0, _, rfl, rfl, SqL.of (f1 _ _ hf), SqL.of upd_same, ?_⟩
    walk_at "rd"
    cases hroom : room with
    | nil =>
      rw [hroom] at k
      refine iteF ?_
      walk_at "rd"
      have hv2 : v < ps.length := by omega
      refine r_ixL (SqL.of (f1 _ _ (e _ _ hb))) (at_map (d := 0) hv2) ?_
      rw [hz]
      exact k _ (e.trans f1)
    | cons y r =>
      refine iteT ?_
      walk_at "rd"
      refine ⟨F, room.map fun (n : Nat) => (n : Int), rfl, SqL.of (by rw [List.map_map]; exact f1 _ _ hf), by rw [List.length_map, hroom]; simp, fun m h1 h2 => ?_⟩
      rw [minL_is (by rw [hroom]; simp) h1 h2]
      exact k _ (e.trans f1)
theorem c_raised_price {P : Program} {w : World} {K : PySem.W.Frag} {mg : Str → Option Value} {base : Heap} {Z : Cs} (T : TX K mg Z) (c_contains : Cal P w K mg base CX0 1 "contains" ["number", "index"] (sp_contains K Z)) (c_price_sum : Cal P w K mg base CX0 2 "price_sum" ["prices", "violations"] (sp_price_sum K Z)) (c_unrepaired : Cal P w K mg base CX0 3 "unrepaired" ["state", "chosen"] (sp_unrepaired K Z)) (c_without : Cal P w K mg base CX0 1 "without" ["one", "other"] (sp_without K Z)) {f : Addr} {fd : FuncData} (g : mg "raised_price" = some (.ref f)) (F : Fun K "raised_price" "raised_price" s_raised_price f fd) : Cal P w K mg base CX0 4 "raised_price" ["state", "prices", "violation"] (sp_raised_price K Z) :=
  ⟨f, fd, g, F.kp, F.binds (ps := ["state", "prices", "violation"]) (fun _ _ _ _ _ _ us hl => match us, hl with | [_, _, _], _ => rfl), ok_raised_price T c_contains c_price_sum c_unrepaired c_without F⟩
abbrev s_raised_prices : Stmt := top 50
abbrev N_raised_prices : List Str := ["state", "prices", "opened", "violation"]
theorem sc_raised_prices : FnScope N_raised_prices ["state"] (defScope s_raised_prices) := ⟨rfl, rfl, rfl, by decide +kernel, rfl, by decide +kernel, by decide +kernel⟩
def sp_raised_prices (K : PySem.W.Frag) (Z : Cs) : Sp := sp1 fun x H Q _ => ∃ (a : Addr) (d : Design) (l : Ls) (asg : Nat), x = .ref a ∧ StAt K Z H a d l asg ∧ Wf d ∧ RetL ((Kpd9.raisedPrices d.repairs).map nv) H Q
set_option maxHeartbeats 4000000 in
theorem ok_raised_prices {P : Program} {w : World} {K : PySem.W.Frag} {mg : Str → Option Value} {base : Heap} {Z : Cs} (T : TX K mg Z) (c_contains : Cal P w K mg base CX0 1 "contains" ["number", "index"] (sp_contains K Z)) (c_raised_price : Cal P w K mg base CX0 4 "raised_price" ["state", "prices", "violation"] (sp_raised_price K Z)) (c_unrepaired : Cal P w K mg base CX0 3 "unrepaired" ["state", "chosen"] (sp_unrepaired K Z)) {f : Addr} {fd : FuncData} (F : Fun K "raised_prices" "raised_prices" s_raised_prices f fd) : FnOk P w K mg base CX0 5 f fd ["state"] (sp_raised_prices K Z) := by
  refine F.ok sc_raised_prices len1 (fun cdv A outer s H vs Q E hr h => ⟨_, (pss_cons (ps_par (i := 1) (j := 2) (by rfl) sc_raised_prices.nd rfl rfl (by decide) rfl rfl (pa_cons (pe_op op_rep (pe_lst (pa_cons pe_int pa_nil)) (fldK (K := K) rfl (pv 0) rfl)) (pa_cons (pe_c c_unrepaired (hr.mono (by decide)) (by rfl) (pa_cons (pv 0) (pa_cons pe_int pa_nil))) pa_nil)) (by rfl))
    (pss_cons (ps_for PassesOwn.never rfl (pi_range1 (by rfl) T.b_range (pa_cons (fldK (K := K) rfl (pv 0) rfl) pa_nil)) (pg_name (i := 3) sc_raised_prices.nd rfl (Or.inl rfl)) (pss_one (ps_if (pt_val (pe_c c_contains (hr.mono (by decide)) (by rfl) (pa_cons (pv 2) (pa_cons (pv 3) pa_nil)))) (pss_one (ps_asg (pe_c c_raised_price (hr.mono (by decide)) (by rfl) (pa_cons (pv 0) (pa_cons (pv 1) (pa_cons (pv 3) pa_nil)))) (pg_sub (pv 1) (pv 3) set_list))) pss_nil)))
    (pss_one (ps_ret (pv 1))))), ?_⟩)
  obtain ⟨_, rfl, a, d, l, asg, rfl, S, W, k⟩ := h
  have hv8 := W.vio
  walk_at "rd"
  refine ⟨lineR rfl, fun F0 hF0 => ?_⟩
  have e0 := same_new (o := HO.lst [V.int 0]) hF0
  have S0 := S.mono e0
  walk_at "rd"
  refine ⟨F0, _, _, rfl, rfl, upd_same, by omega, by omega, line2 (by simp; omega), fun F hF => ?_⟩
  have e1 := e0.trans (same_new (o := HO.lst (List.replicate ((d.repairs.violations : Nat) : Int).toNat [V.int 0]).flatten) hF)
  have hF0' : H F = none := e0.free hF
  have S1 := S.mono e1
  have hini : (List.replicate ((d.repairs.violations : Nat) : Int).toNat [V.int 0]).flatten = (pyP d.repairs 0).map nv := by
    rw [Int.toNat_natCast, pyP_zero, List.flatten_replicate_singleton, List.map_replicate]
    rfl
  walk_at "rd"
  refine ⟨_, _, rfl, a, d, l, asg, 0, rfl, rfl, S1, W, fun H2 f2 => ?_⟩
  rw [open_eq]
  have e2 := e1.trans f2
  have S2 := S.mono e2
  walk_at "rd"
  refine r_for fun D' hD => ?_
  walk_at "rd"
  refine ⟨_, rfl, by omega, by omega, ?_⟩
  rw [Int.toNat_natCast]
  refine for_range (D := D') (fun i σ H' => (∃ v1, σ = [some (.ref a), some (.ref F), some (nv (openM d.repairs)), v1]) ∧ Same H H' ∧ H' F = some (.lst ((pyP d.repairs i).map nv))) ⟨⟨_, rfl⟩, e2, ?_⟩ ?_ ?_
  · rw [← hini]
    exact f2 _ _ upd_same
  · rintro i σ H' hi ⟨⟨v1, rfl⟩, e, hf⟩
    subst hD
    rw [show (0 : Int) + (i : Nat) = (i : Int) by omega]
    walk_at "rd"
    refine ⟨_, _, rfl, _, i, rfl, rfl, ?_⟩
    walk_at "rd"
    refine ifb (fun hb => ?_) (fun hb => ?_)
    · walk_at "rd"
      refine ⟨_, _, _, rfl, a, F, d, l, asg, pyP d.repairs i, i, rfl, rfl, rfl, S.mono e, W, hf, pyP_len _ (by omega), hi, pyP_at _ _, hb, pinv _ _ (by omega), fun H3 f3 => ?_⟩
      walk_at "rd"
      refine r_setL (f3 _ _ hf) (ix_nat (by rw [List.length_map, pyP_len _ (by omega)]; exact hi)) ?_
      walk_at "rd"
      refine ⟨⟨_, rfl⟩, same_mut (e.trans f3) hF0', ?_⟩
      rw [upd_same, ← List.map_set, pyP_set _ hi]
    · walk_at "rd"
      refine ⟨⟨_, rfl⟩, e, ?_⟩
      rw [← pyP_same _ hi hb]
      exact hf
  · rintro σ H' ⟨⟨v1, rfl⟩, e, hf⟩
    subst hD
    rw [pyP_all] at hf
    walk_at "rd"
    exact k F H' hF0' e hf
theorem c_raised_prices {P : Program} {w : World} {K : PySem.W.Frag} {mg : Str → Option Value} {base : Heap} {Z : Cs} (T : TX K mg Z) (c_contains : Cal P w K mg base CX0 1 "contains" ["number", "index"] (sp_contains K Z)) (c_raised_price : Cal P w K mg base CX0 4 "raised_price" ["state", "prices", "violation"] (sp_raised_price K Z)) (c_unrepaired : Cal P w K mg base CX0 3 "unrepaired" ["state", "chosen"] (sp_unrepaired K Z)) {f : Addr} {fd : FuncData} (g : mg "raised_prices" = some (.ref f)) (F : Fun K "raised_prices" "raised_prices" s_raised_prices f fd) : Cal P w K mg base CX0 5 "raised_prices" ["state"] (sp_raised_prices K Z) :=
  ⟨f, fd, g, F.kp, F.binds (ps := ["state"]) (fun _ _ _ _ _ _ us hl => match us, hl with | [_], _ => rfl), ok_raised_prices T c_contains c_raised_price c_unrepaired F⟩
abbrev s_first_overpriced : Stmt := top 51
abbrev N_first_overpriced : List Str := ["state", "prices", "opened", "k", "cost", "repairs"]
theorem sc_first_overpriced : FnScope N_first_overpriced ["state", "prices"] (defScope s_first_overpriced) := ⟨rfl, rfl, rfl, by decide +kernel, rfl, by decide +kernel, by decide +kernel⟩
def sp_first_overpriced (K : PySem.W.Frag) (Z : Cs) : Sp := sp2 fun x y H Q _ => ∃ (a b : Addr) (d : Design) (l : Ls) (asg : Nat) (ps : List Nat), x = .ref a ∧ y = .ref b ∧ StAt K Z H a d l asg ∧ Wf d ∧ H b = some (.lst (ps.map nv)) ∧ ps.length = d.repairs.violations ∧ RetV (onV (Kpd9.overpriced d.repairs ps)) H Q
set_option maxHeartbeats 4000000 in
theorem ok_first_overpriced {P : Program} {w : World} {K : PySem.W.Frag} {mg : Str → Option Value} {base : Heap} {Z : Cs} (T : TX K mg Z) (c_contains : Cal P w K mg base CX0 1 "contains" ["number", "index"] (sp_contains K Z)) (c_price_sum : Cal P w K mg base CX0 2 "price_sum" ["prices", "violations"] (sp_price_sum K Z)) (c_unrepaired : Cal P w K mg base CX0 3 "unrepaired" ["state", "chosen"] (sp_unrepaired K Z)) {f : Addr} {fd : FuncData} (F : Fun K "first_overpriced" "first_overpriced" s_first_overpriced f fd) : FnOk P w K mg base CX0 4 f fd ["state", "prices"] (sp_first_overpriced K Z) := by
  refine F.ok sc_first_overpriced len2 (fun cdv A outer s H vs Q E hr h => ⟨_, (pss_cons (ps_set (i := 2) sc_first_overpriced.nd rfl (Or.inl rfl) (pe_c c_unrepaired (hr.mono (by decide)) (by rfl) (pa_cons (pv 0) (pa_cons pe_int pa_nil))))
    (pss_cons (ps_for PassesOwn.never rfl (pi_enum (by rfl) T.b_enumerate (pa_cons (fldK (K := K) rfl (pv 0) rfl) pa_nil)) (pgT (K := K) (n := 2) rfl (by rfl) (pgs_cons (pg_name (i := 3) sc_first_overpriced.nd rfl (Or.inl rfl)) (pgs_cons (pgT (K := K) (n := 2) rfl (by rfl) (pgs_cons (pg_name (i := 4) sc_first_overpriced.nd rfl (Or.inl rfl)) (pgs_cons (pg_name (i := 5) sc_first_overpriced.nd rfl (Or.inl rfl)) pgs_nil))) pgs_nil))) (pss_one (ps_if (PW.pt (pw_and (pt_not (pt_val (pe_c c_contains (hr.mono (by decide)) (by rfl) (pa_cons (fldK (K := K) rfl (pv 0) rfl) (pa_cons (pv 3) pa_nil))))) (pw_and1 (pt_cmpR op_gt (pe_c c_price_sum (hr.mono (by decide)) (by rfl) (pa_cons (pv 1) (pa_cons (pe_op op_and (pv 5) (pv 2)) pa_nil))) (pv 4) (nomark _))))) (pss_one (ps_ret (pv 3))) pss_nil)))
    (pss_one (ps_ret pe_non)))), ?_⟩)
  obtain ⟨_, _, rfl, a, b, d, l, asg, ps, rfl, rfl, S, W, hb, hpl, k⟩ := h
  have hc9 := W.chg
  have hv8 := W.vio
  obtain ⟨xs, hx, hA⟩ := S.changes
  have hl := hA.1
  rw [over_eq] at k
  walk_at "rd"
  refine ⟨_, _, rfl, a, d, l, asg, 0, rfl, rfl, S, W, fun H1 e1 => ?_⟩
  rw [open_eq]
  have S1 := S.mono e1
  walk_at "rd"
  refine r_for fun D' hD => ?_
  walk_at "rd"
  refine ⟨l.changes, xs, rfl, SqL.of (e1 _ _ hx), for_enum (D := D') (xs := xs) (fun i σ H' => (∃ v1 v2 v3, σ = [some (.ref a), some (.ref b), some (nv (openM d.repairs)), v1, v2, v3]) ∧ Same H H' ∧ ∀ j, j < i → overM d.repairs ps j = false) ?_ ?_ ?_ ?_⟩
  · exact ⟨⟨_, _, _, rfl⟩, e1, fun j h => by omega⟩
  · rintro i σ H' _ ⟨_, e, _⟩
    exact SqL.of (e _ _ hx)
  · rintro i x σ H' U hi ⟨⟨v1, v2, v3, rfl⟩, e, hno⟩ hU
    subst hD
    obtain ⟨c, ec, p, rfl, hp⟩ := hA.get hi
    have hi9 := lt_of_get ec
    have f1 := same_new (o := HO.tup [.int (i : Nat), .ref p]) hU
    have e2 := e.trans f1
    have S2 := S.mono e2
    have ov : overM d.repairs ps i = (!d.repairs.applied.testBit i && decide (c.cost < psum d.repairs.violations ps (c.repairs &&& openM d.repairs))) := by
      unfold overM
      rw [ec]
    have next : overM d.repairs ps i = false → ∀ j, j < i + 1 → overM d.repairs ps j = false := fun q j hj => by
      by_cases h : j = i
      · rw [h]; exact q
      · exact hno j (by omega)
    refine r_tupg (SqT.of upd_same) rfl ?_
    walk_at "rd"
    refine r_tupg (xs := [nv c.cost, nv c.repairs]) (Same.sqt e2 hp) rfl ?_
    walk_at "rd"
    refine ⟨_, _, rfl, _, i, rfl, rfl, ?_⟩
    walk_at "rd"
    refine ifb (fun b1 => ?_) (fun b1 => ?_)
    · have b1' : d.repairs.applied.testBit i = false := by simpa using b1
      walk_at "rd"
      rw [band]
      refine ⟨_, _, rfl, b, ps, _, rfl, rfl, e2 _ _ hb, by omega, fun H4 f4 => ?_⟩
      rw [hpl]
      walk_at "rd"
      refine ifd (fun lt => ?_) (fun nl => ?_)
      · walk_at "rd"
        have kk := k H4 (e2.trans f4)
        rw [find_range hi9 hno (by rw [ov, b1']; simp; omega)] at kk
        exact kk
      · walk_at "rd"
        exact ⟨⟨_, _, _, rfl⟩, e2.trans f4, next (by rw [ov, b1']; simp; omega)⟩
    · have b1' : d.repairs.applied.testBit i = true := by simpa using b1
      refine iteF ?_
      walk_at "rd"
      exact ⟨⟨_, _, _, rfl⟩, e2, next (by rw [ov, b1']; rfl)⟩
  · rintro σ H' ⟨⟨v1, v2, v3, rfl⟩, e, hno⟩
    subst hD
    rw [hl] at hno
    walk_at "rd"
    have kk := k H' e
    rw [find_range_none hno] at kk
    exact kk
theorem c_first_overpriced {P : Program} {w : World} {K : PySem.W.Frag} {mg : Str → Option Value} {base : Heap} {Z : Cs} (T : TX K mg Z) (c_contains : Cal P w K mg base CX0 1 "contains" ["number", "index"] (sp_contains K Z)) (c_price_sum : Cal P w K mg base CX0 2 "price_sum" ["prices", "violations"] (sp_price_sum K Z)) (c_unrepaired : Cal P w K mg base CX0 3 "unrepaired" ["state", "chosen"] (sp_unrepaired K Z)) {f : Addr} {fd : FuncData} (g : mg "first_overpriced" = some (.ref f)) (F : Fun K "first_overpriced" "first_overpriced" s_first_overpriced f fd) : Cal P w K mg base CX0 4 "first_overpriced" ["state", "prices"] (sp_first_overpriced K Z) :=
  ⟨f, fd, g, F.kp, F.binds (ps := ["state", "prices"]) (fun _ _ _ _ _ _ us hl => match us, hl with | [_, _], _ => rfl), ok_first_overpriced T c_contains c_price_sum c_unrepaired F⟩


theorem r_abs {i : Int} {H : Hp} {Q : VK} (h : Q (.int (if i < 0 then -i else i)) H) : ∃ j, ([.int i] : List V) = [.int j] ∧ Q (.int (if j < 0 then -j else j)) H := ⟨i, rfl, h⟩
abbrev s_distance : Stmt := top 53
abbrev N_distance : List Str := ["one", "other"]
theorem sc_distance : FnScope N_distance ["one", "other"] (defScope s_distance) := ⟨rfl, rfl, rfl, by decide +kernel, rfl, by decide +kernel, by decide +kernel⟩
def sp_distance (K : PySem.W.Frag) (Z : Cs) : Sp := sp2 fun x y H Q _ => ∃ (p q : Addr) (a b : Spot), x = .ref p ∧ y = .ref q ∧ SqT K H p ((spRow a).map V.int) ∧ SqT K H q ((spRow b).map V.int) ∧ Q (nv (Kpd9.distance a b)) H
set_option maxHeartbeats 4000000 in
theorem ok_distance {P : Program} {w : World} {K : PySem.W.Frag} {mg : Str → Option Value} {base : Heap} {Z : Cs} (T : TX K mg Z)  {f : Addr} {fd : FuncData} (F : Fun K "distance" "distance" s_distance f fd) : FnOk P w K mg base CX0 1 f fd ["one", "other"] (sp_distance K Z) := by
  refine F.ok sc_distance len2 (fun cdv A outer s H vs Q E hr h => ⟨_, (pss_one (ps_ret (pe_op op_add (pe_callB call_abs (by rfl) T.b_abs (by decide +kernel) (pa_cons (pe_op op_sub (pe_ix (ixT (K := K) rfl) (pv 0) pe_int (fun _ _ => rfl)) (pe_ix (ixT (K := K) rfl) (pv 1) pe_int (fun _ _ => rfl))) pa_nil)) (pe_callB call_abs (by rfl) T.b_abs (by decide +kernel) (pa_cons (pe_op op_sub (pe_ix (ixT (K := K) rfl) (pv 0) pe_int (fun _ _ => rfl)) (pe_ix (ixT (K := K) rfl) (pv 1) pe_int (fun _ _ => rfl))) pa_nil))))), ?_⟩)
  obtain ⟨_, _, rfl, p, q, a, b, rfl, rfl, hp, hq, k⟩ := h
  walk_at "rd"
  refine r_ixT (v := .int (a.x : Int)) hp rfl ?_
  walk_at "rd"
  refine r_ixT (v := .int (b.x : Int)) hq rfl ?_
  walk_at "rd"
  refine ⟨_, rfl, ?_⟩
  walk_at "rd"
  refine r_ixT (v := .int (a.y : Int)) hp rfl ?_
  walk_at "rd"
  refine r_ixT (v := .int (b.y : Int)) hq rfl ?_
  walk_at "rd"
  refine ⟨_, rfl, ?_⟩
  walk_at "rd"
  have e : (if (a.x : Int) - (b.x : Int) < 0 then -((a.x : Int) - (b.x : Int)) else (a.x : Int) - (b.x : Int)) + (if (a.y : Int) - (b.y : Int) < 0 then -((a.y : Int) - (b.y : Int)) else (a.y : Int) - (b.y : Int)) = ((Kpd9.distance a b : Nat) : Int) := by
    unfold Kpd9.distance
    split <;> split <;> omega
  rw [e]
  exact k
theorem c_distance {P : Program} {w : World} {K : PySem.W.Frag} {mg : Str → Option Value} {base : Heap} {Z : Cs} (T : TX K mg Z)  {f : Addr} {fd : FuncData} (g : mg "distance" = some (.ref f)) (F : Fun K "distance" "distance" s_distance f fd) : Cal P w K mg base CX0 1 "distance" ["one", "other"] (sp_distance K Z) :=
  ⟨f, fd, g, F.kp, F.binds (ps := ["one", "other"]) (fun _ _ _ _ _ _ us hl => match us, hl with | [_, _], _ => rfl), ok_distance T  F⟩
theorem inV_nv (j : Nat) : ∀ b : List Nat, inV (nv j) (b.map nv) = b.contains j
  | [] => rfl
  | x :: r => by
    have ih := inV_nv j r
    unfold inV at ih ⊢
    rw [List.map_cons, List.any_cons, ih, List.contains_cons]
    congr 1
    show ((x : Int) == (j : Int)) = (j == x)
    rw [Bool.eq_iff_iff, beq_iff_eq, beq_iff_eq]
    omega
theorem flat_nv (b : List Nat) : (b.map nv).all flatV = true := by
  rw [List.all_eq_true]
  intro x hx
  obtain ⟨n, _, rfl⟩ := List.mem_map.mp hx
  rfl
abbrev s_assignments : Stmt := top 54
abbrev N_assignments : List Str := ["needs", "spares", "found", "need", "longer", "begun", "free", "j", "spare"]
theorem sc_assignments : FnScope N_assignments ["needs", "spares"] (defScope s_assignments) := ⟨rfl, rfl, rfl, by decide +kernel, rfl, by decide +kernel, by decide +kernel⟩
def sp_assignments (K : PySem.W.Frag) (Z : Cs) : Sp := sp2 fun x y H Q _ => ∃ (a b : Addr) (needs spares : List Spot), x = .ref a ∧ y = .ref b ∧ TabA K H a spRow needs ∧ TabA K H b spRow spares ∧ needs.length ≤ 5 ∧ spares.length ≤ 7 ∧
  ∀ L H2 xs, H L = none → Same H H2 → H2 L = some (.lst xs) → All2 (LstR (fun p => H p = none) H2) xs (bfsA spares needs) → Q (.ref L) H2
set_option maxHeartbeats 4000000 in
theorem ok_assignments {P : Program} {w : World} {K : PySem.W.Frag} {mg : Str → Option Value} {base : Heap} {Z : Cs} (T : TX K mg Z)  {f : Addr} {fd : FuncData} (F : Fun K "assignments" "assignments" s_assignments f fd) : FnOk P w K mg base CX0 1 f fd ["needs", "spares"] (sp_assignments K Z) := by
  refine F.ok sc_assignments len2 (fun cdv A outer s H vs Q E hr h => ⟨_, (pss_cons (ps_set (i := 2) sc_assignments.nd rfl (Or.inl rfl) (pe_lst (pa_cons (pe_lst pa_nil) pa_nil)))
    (pss_cons (ps_for PassesOwn.never rfl (pi_list (pv 0)) (pg_name (i := 3) sc_assignments.nd rfl (Or.inr rfl)) (pss_cons (ps_set (i := 4) sc_assignments.nd rfl (Or.inl rfl) (pe_lst pa_nil))
    (pss_cons (ps_for PassesOwn.never rfl (pi_list (pv 2)) (pg_name (i := 5) sc_assignments.nd rfl (Or.inr rfl)) (pss_cons (ps_setLc (i := 6) (own := [("j", 7), ("spare", 8)]) (by rfl) sc_assignments.nd rfl rfl (sw_true rfl rfl rfl (by decide +kernel)) (pi_enum (by rfl) T.b_enumerate (pa_cons (pv 1) pa_nil)) (blkOk_by (own := [("j", 7), ("spare", 8)]) (N := N_assignments) (sc := defScope s_assignments) (by decide +kernel)) (fun _ _ _ _ _ => (pgT (K := K) (n := 2) rfl (by rfl) (pgs_cons (pg_name (i := 7) sc_assignments.nd rfl (Or.inl rfl)) (pgs_cons (pg_name (i := 8) sc_assignments.nd rfl (Or.inl rfl)) pgs_nil)))) (fun _ _ _ _ _ => (pts_one (PW.pt (pw_and (pt_cmpR op_eq (pe_ix (ixT (K := K) rfl) (pv 8) pe_int (fun _ _ => rfl)) (pe_ix (ixT (K := K) rfl) (pv 3) pe_int (fun _ _ => rfl)) (nomark _)) (pw_and1 (pt_cmpR (notInK (K := K) rfl) (pv 7) (pv 5) (by rfl))))))) (fun _ _ _ _ _ => (pv 7)))
    (pss_one (ps_expr (pe_bm PySem.F.plainAttrs_list PySem.F.slot_list_extend PySem.F.type_list_extend mt_extend (pv 4) (pa_cons (pe_lc (own := [("j", 7)]) (by rfl) sc_assignments.nd (pi_list (pv 6)) (blkOk_by (own := [("j", 7)]) (N := N_assignments) (sc := defScope s_assignments) (by decide +kernel)) (fun _ _ _ _ _ => (pg_name (i := 7) sc_assignments.nd rfl (Or.inl rfl))) (fun _ _ _ _ _ => pts_nil) (fun _ _ _ _ _ => (pe_op op_cat (pv 5) (pe_lst (pa_cons (pv 7) pa_nil))))) pa_nil))))))
    (pss_one (ps_set (i := 2) sc_assignments.nd rfl (Or.inl rfl) (pv 4))))))
    (pss_one (ps_ret (pv 2))))), ?_⟩)
  obtain ⟨_, _, rfl, a, b, needs, spares, rfl, rfl, ⟨xs, hx, hA⟩, ⟨ys, hy, hB⟩, n1, n2, k⟩ := h
  have hz := bfsA_le5 n2 n1
  walk_at "rd"
  refine ⟨lineR rfl, fun p hp => ?_⟩
  walk_at "rd"
  refine ⟨lineR rfl, fun F0 hF0 => ?_⟩
  walk_at "rd"
  have s0 : Same H (upd (upd H p (.lst [])) F0 (.lst [.ref p])) := (same_new hp).trans (same_new hF0)
  have hF0' : H F0 = none := (same_new hp).free hF0
  have nep : p ≠ F0 := fun z => by rw [← z, upd_same] at hF0; cases hF0
  refine r_for fun D' hD => ?_
  walk_at "rd"
  refine ⟨a, rfl, ⟨_, SqL.of (s0 _ _ hx)⟩, for_list (D := D') (xs := xs) (fun i σ H' => ∃ (F : Addr) (v1 v2 v3 v4 : Option V), σ = [some (.ref a), some (.ref b), some (.ref F), v1, v2, v3, v4, none, none] ∧ Same H H' ∧ H F = none ∧ ∃ fs, H' F = some (.lst fs) ∧ All2 (LstR (fun p => H p = none) H') fs (bfsA spares (needs.take i))) ?_ ?_ ?_ ?_⟩
  · refine ⟨F0, none, none, none, none, rfl, s0, hF0', [.ref p], upd_same, All2.one ⟨p, rfl, hp, ?_⟩⟩
    rw [upd_ne nep, upd_same]
    rfl
  · rintro i σ H' _ ⟨F, v1, v2, v3, v4, rfl, s1, _⟩
    exact SqL.of (s1 _ _ hx)
  · rintro i x σ H' hi ⟨F, v1, v2, v3, v4, rfl, s1, hF, fs, hfs, hFA⟩
    subst hD
    obtain ⟨n, hn, pn, rfl, hpn⟩ := hA.get hi
    have hi2 := (List.getElem?_eq_some_iff.mp hn).1
    have htake := take_more hn
    walk_at "rd"
    refine ⟨lineR rfl, fun G hG => ?_⟩
    walk_at "rd"
    have s2 := same_new (o := HO.lst []) hG
    refine r_for fun D2 hD2 => ?_
    walk_at "rd"
    refine ⟨F, rfl, ⟨_, SqL.of (s2 _ _ hfs)⟩, for_list (D := D2) (xs := fs) (fun j σ H2 => (∃ v1 v2, σ = [some (.ref a), some (.ref b), some (.ref F), some (.ref pn), some (.ref G), v1, v2, none, none]) ∧ Same H' H2 ∧ ∃ zs, H2 G = some (.lst zs) ∧ All2 (LstR (fun p => H' p = none ∧ p ≠ G) H2) zs (((bfsA spares (needs.take i)).take j).flatMap fun b => (freeJ spares n b).map fun c => b ++ [c])) ?_ ?_ ?_ ?_⟩
    · exact ⟨⟨_, _, rfl⟩, s2, [], upd_same, .nil⟩
    · rintro j σ H2 _ ⟨_, s3, _⟩
      exact SqL.of (s3 _ _ hfs)
    · rintro j x σ H2 hj ⟨⟨v1, v2, rfl⟩, s3, zs, hzs, hZ⟩
      subst hD2
      obtain ⟨bs, hbs, pb, rfl, hpb0, hpb⟩ := hFA.get hj
      have hj2 := (List.getElem?_eq_some_iff.mp hbs).1
      have hzi := hz i
      have hzi1 := hz (i + 1)
      rw [bfsA_more htake] at hzi1
      have hbl : bs.length ≤ 5 := by
        have hm : bs ∈ bfsA spares (needs.take i) := List.mem_of_getElem? hbs
        rw [(bfsA_ok hm).1, List.length_take]
        omega
      have ejm := take_more hbs
      have hpart : ((((bfsA spares (needs.take i)).take (j + 1)).flatMap fun b => (freeJ spares n b).map fun c => b ++ [c])).length ≤ 16807 := by
        refine Nat.le_trans ?_ hzi1
        rw [← List.take_append_drop (j + 1) (bfsA spares (needs.take i))]
        simp only [List.take_append_drop, List.length_flatMap, List.length_map]
        rw [← List.take_append_drop (j + 1) (bfsA spares (needs.take i)), List.map_append, List.sum_append]
        simp only [List.take_append_drop]
        omega
      rw [ejm, List.flatMap_append, List.length_append] at hpart
      simp only [List.flatMap_cons, List.flatMap_nil, List.append_nil, List.length_map] at hpart
      have s03 := s1.trans s3
      have hpb3 := s3 _ _ hpb
      walk_at "rd"
      refine lcP2 (J := Ite K b) (fun R r => ?_) (walk_enum (xs := ys)) (fun j => !bs.contains j && (spares[j]?.map Spot.kind) == some n.kind) (fun j => nv j) (fun H1 e => SqL.of (e _ _ (s03 _ _ hy))) (by rw [hB.1]; omega) (by intro _ _; rfl) ?_ ?_ ?_
      · walk_at "rd"
        exact ⟨b, _, rfl, SqL.of (s03 _ _ hy), r⟩
      · intro j x y hj ex ey
        cases ex
        obtain ⟨c, ec, pc, rfl, hpc⟩ := hB.get ey
        have hpc3 := Same.sqt s03 hpc
        have hpn3 := Same.sqt s03 hpn
        refine Evl.et_is (Evl.et_and (Evl.et_test (Evl.ev_op (Evl.ev_op (Evl.ev_var rfl) Evl.ev_c (Evl.rv_ixT (v := .int (c.kind : Int)) hpc3 rfl)) (Evl.ev_op (Evl.ev_var rfl) Evl.ev_c (Evl.rv_ixT (v := .int (n.kind : Int)) hpn3 rfl)) (Evl.rv_eq rfl))) fun _ => Evl.et_test (Evl.ev_op (Evl.ev_var rfl) (Evl.ev_var rfl) (Evl.rv_niL (SqL.of hpb3) rfl (flat_nv bs)))) ?_
        rw [inV_nv, ec, Bool.and_comm]
        congr 1
        rw [Option.map_some, Bool.eq_iff_iff, decide_eq_true_eq, beq_iff_eq]
        exact ⟨fun h => by have := V.int.inj h; rw [show c.kind = n.kind by omega], fun h => by rw [Option.some.inj h]⟩
      · intro j x y hj ex ey _
        cases ex
        exact Evl.ev_var rfl
      · intro D H3 hD0 s4 hD1
        have hD2 : H3 D = some (.lst ((freeJ spares n bs).map nv)) := by
          rw [hD1, hB.1]
          rfl
        have hfl := freeJ_le spares n bs
        have hG3 := s4 _ _ hzs
        walk_at "rd"
        refine ⟨ty_list hG3, ?_⟩
        walk_at "rd"
        refine lcNew (J := Itl K D) (fun R r => ?_) (x := fun i => nv ((freeJ spares n bs).getD i 0)) (walk_list (xs := (freeJ spares n bs).map nv)) (fun i H1 y H1' hi q => ⟨q.1, ?_⟩) (fun i => bs.map nv ++ [nv ((freeJ spares n bs).getD i 0)]) (fun H1 e => SqL.of (e _ _ hD2)) (by rw [List.length_map]; omega) (by intro _; rfl) (fun c hc => ?_) ?_
        · walk_at "rd"
          exact ⟨D, rfl, ⟨_, SqL.of hD2⟩, r⟩
        · have q2 := q.2
          rw [List.getElem?_map] at q2
          obtain ⟨z, ez, rfl⟩ := Option.map_eq_some_iff.mp q2
          rw [getD_of ez]
        · exact el_cat1 rfl (s4 _ _ hpb3) (by rw [List.length_map]; omega) (Evl.ev_var rfl)
        · intro D2 H4 ws hD20 s5 hD21 hW
          have eW : (List.range ((freeJ spares n bs).map nv).length).map (fun i => bs.map nv ++ [nv ((freeJ spares n bs).getD i 0)]) = (freeJ spares n bs).map fun c => bs.map nv ++ [nv c] := by
            rw [List.length_map]
            refine List.ext_getElem? fun i => ?_
            by_cases h : i < (freeJ spares n bs).length
            · simp [h, List.getD_eq_getElem?_getD]
            · simp [h]
          rw [eW] at hW
          walk_at "rd"
          have hG4 := s5 _ _ hG3
          have s45 := s4.trans s5
          refine ⟨G, D2, zs, ws, rfl, rfl, hG4, hD21, line2 ?_, ?_⟩
          · rw [hZ.1, hW.1, List.length_map]
            omega
          walk_at "rd"
          refine ⟨⟨_, _, rfl⟩, same_mut (s3.trans s45) hG, zs ++ ws, upd_same, ?_⟩
          rw [ejm, List.flatMap_append]
          simp only [List.flatMap_cons, List.flatMap_nil, List.append_nil]
          refine All2.app (hZ.mono ?_) ?_
          · rintro y cs ⟨p, rfl, ⟨h1, h2⟩, h3⟩
            exact ⟨p, rfl, ⟨h1, h2⟩, by rw [upd_ne h2]; exact s45 _ _ h3⟩
          · refine All2.map ((All2.unmap hW).mono ?_)
            rintro y c ⟨p, rfl, h1, h2, h3⟩
            have hne : p ≠ G := fun z => by rw [z, hG3] at h1; cases h1
            refine ⟨p, rfl, ⟨(s3.trans s4).free h1, hne⟩, ?_⟩
            rw [upd_ne hne, h3, List.map_append]
            rfl
    · rintro σ H2 ⟨⟨v1, v2, rfl⟩, s3, zs, hzs, hZ⟩
      subst hD2
      rw [List.take_of_length_le (by rw [← hFA.1]; exact Nat.le_refl _)] at hZ
      walk_at "rd"
      refine ⟨G, _, _, _, _, rfl, s1.trans s3, s1.free hG, zs, hzs, ?_⟩
      rw [bfsA_more htake]
      exact hZ.mono fun y cs h => h.imp fun p hp => s1.free hp.1
  · rintro σ H' ⟨F, v1, v2, v3, v4, rfl, s1, hF, fs, hfs, hFA⟩
    subst hD
    rw [List.take_of_length_le (by rw [hA.1]; exact Nat.le_refl _)] at hFA
    walk_at "rd"
    exact k F H' fs hF s1 hfs hFA
theorem c_assignments {P : Program} {w : World} {K : PySem.W.Frag} {mg : Str → Option Value} {base : Heap} {Z : Cs} (T : TX K mg Z)  {f : Addr} {fd : FuncData} (g : mg "assignments" = some (.ref f)) (F : Fun K "assignments" "assignments" s_assignments f fd) : Cal P w K mg base CX0 1 "assignments" ["needs", "spares"] (sp_assignments K Z) :=
  ⟨f, fd, g, F.kp, F.binds (ps := ["needs", "spares"]) (fun _ _ _ _ _ _ us hl => match us, hl with | [_, _], _ => rfl), ok_assignments T  F⟩


theorem spot_of {l : List Spot} {i : Nat} {s : Spot} (h : l[i]? = some s) : Kpd9.spotAt l i = s := getD_of h
theorem distM_of {needs spares : List Spot} {a : List Nat} {i j : Nat} {n s : Spot} (h1 : needs[i]? = some n) (h2 : a[i]? = some j) (h3 : spares[j]? = some s) : distM needs spares a i = Kpd9.distance n s := by
  unfold distM
  rw [spot_of h1, getD_of h2, spot_of h3]
theorem zip_get {a : List Nat} {i : Nat} {y : V} (h : (a.map nv)[i]? = some y) : ∃ j, a[i]? = some j ∧ y = nv j := by
  rw [List.getElem?_map] at h
  obtain ⟨j, e, rfl⟩ := Option.map_eq_some_iff.mp h
  exact ⟨j, e, rfl⟩
theorem int_get {a : List Int} {i : Nat} (h : i < a.length) : atI (a.map V.int) (i : Int) = some (.int (a.getD i 0)) := at_map h
abbrev s_total_distance : Stmt := top 55
abbrev N_total_distance : List Str := ["needs", "spares", "chosen", "need", "j"]
theorem sc_total_distance : FnScope N_total_distance ["needs", "spares", "chosen"] (defScope s_total_distance) := ⟨rfl, rfl, rfl, by decide +kernel, rfl, by decide +kernel, by decide +kernel⟩
def sp_total_distance (K : PySem.W.Frag) (Z : Cs) : Sp := sp3 fun x y z H Q _ => ∃ (a b c : Addr) (needs spares : List Spot) (ch : List Nat), x = .ref a ∧ y = .ref b ∧ z = .ref c ∧ TabA K H a spRow needs ∧ TabA K H b spRow spares ∧ H c = some (.lst (ch.map nv)) ∧ ChoiceOk needs spares ch ∧ needs.length ≤ 1000 ∧ RetV (nv (Kpd9.totalDistance needs spares ch)) H Q
set_option maxHeartbeats 4000000 in
theorem ok_total_distance {P : Program} {w : World} {K : PySem.W.Frag} {mg : Str → Option Value} {base : Heap} {Z : Cs} (T : TX K mg Z) (c_distance : Cal P w K mg base CX0 1 "distance" ["one", "other"] (sp_distance K Z)) {f : Addr} {fd : FuncData} (F : Fun K "total_distance" "total_distance" s_total_distance f fd) : FnOk P w K mg base CX0 2 f fd ["needs", "spares", "chosen"] (sp_total_distance K Z) := by
  refine F.ok sc_total_distance len3 (fun cdv A outer s H vs Q E hr h => ⟨_, (pss_one (ps_ret (pe_callB (cr_sum rfl) (by rfl) T.b_sum (by decide +kernel) (pa_cons (pe_lc (own := [("need", 3), ("j", 4)]) (by rfl) sc_total_distance.nd (pi_zip (by rfl) T.b_zip (pa_cons (pv 0) (pa_cons (pv 2) pa_nil))) (blkOk_by (own := [("need", 3), ("j", 4)]) (N := N_total_distance) (sc := defScope s_total_distance) (by decide +kernel)) (fun _ _ _ _ _ => (pgT (K := K) (n := 2) rfl (by rfl) (pgs_cons (pg_name (i := 3) sc_total_distance.nd rfl (Or.inl rfl)) (pgs_cons (pg_name (i := 4) sc_total_distance.nd rfl (Or.inl rfl)) pgs_nil)))) (fun _ _ _ _ _ => pts_nil) (fun _ _ _ _ _ => (pe_c c_distance (hr.mono (by decide)) (by rfl) (pa_cons (pv 3) (pa_cons (pe_ix (ixL (K := K) rfl) (pv 1) (pv 4) (fun _ _ => rfl)) pa_nil))))) pa_nil)))), ?_⟩)
  obtain ⟨_, _, _, rfl, a, b, c, needs, spares, ch, rfl, rfl, rfl, ⟨xs, hx, hA⟩, ⟨ys, hy, hB⟩, hc, cok, hn, k⟩ := h
  walk_at "rd"
  refine lcP2 (J := Itz K a c) (fun R r => ?_) (walk_zip (n := needs.length) (by rw [List.length_map, hA.1, cok.1, Nat.min_self])) (fun _ => true) (fun i => nv (distM needs spares ch i)) (fun H1 s => ⟨SqL.of (s _ _ hx), SqL.of (s _ _ hc)⟩) (by omega) (by intro _ _; rfl) (fun _ _ _ _ _ _ => et_yes) ?_ ?_
  · walk_at "rd"
    exact ⟨a, c, xs, ch.map nv, rfl, SqL.of hx, SqL.of hc, r⟩
  · intro i x y hi ex ey _
    obtain ⟨n, en, p, rfl, hp⟩ := hA.get ex
    obtain ⟨j, ej, rfl⟩ := zip_get ey
    have hj := cok.2 j (List.mem_of_getElem? ej)
    have es : spares[j]? = some spares[j] := by simp [hj]
    generalize spares[j] = s at es
    obtain ⟨x2, ex2, q, rfl, hq⟩ := hB.got es
    rw [distM_of en ej es]
    exact Evl.ev_call (Evl.ea_cons (Evl.ev_var rfl) (Evl.ea_cons (Evl.ev_op (Evl.ev_var rfl) (Evl.ev_var rfl) (Evl.rv_ixL (SqL.of hy) (atI_nat ex2))) Evl.ea_nil)) (spV fun H1 e Q k E => ⟨_, _, rfl, p, q, n, s, rfl, rfl, Same.sqt e hp, Same.sqt e hq, k H1 (Ex.refl H1)⟩)
  · intro D H1 hD e1 hD1
    rw [given_all] at hD1
    walk_at "rd"
    refine ⟨D, (List.range needs.length).map fun i => ((distM needs spares ch i : Nat) : Int), rfl, SqL.of ?_, ?_⟩
    · rw [hD1, List.map_map]
      rfl
    · have e : ((List.range needs.length).map fun i => ((distM needs spares ch i : Nat) : Int)).sum = (Kpd9.totalDistance needs spares ch : Int) := by
        rw [total_eq, ksum, ← cast_sum, List.map_map]
        rfl
      rw [e]
      exact k H1 e1
theorem c_total_distance {P : Program} {w : World} {K : PySem.W.Frag} {mg : Str → Option Value} {base : Heap} {Z : Cs} (T : TX K mg Z) (c_distance : Cal P w K mg base CX0 1 "distance" ["one", "other"] (sp_distance K Z)) {f : Addr} {fd : FuncData} (g : mg "total_distance" = some (.ref f)) (F : Fun K "total_distance" "total_distance" s_total_distance f fd) : Cal P w K mg base CX0 2 "total_distance" ["needs", "spares", "chosen"] (sp_total_distance K Z) :=
  ⟨f, fd, g, F.kp, F.binds (ps := ["needs", "spares", "chosen"]) (fun _ _ _ _ _ _ us hl => match us, hl with | [_, _, _], _ => rfl), ok_total_distance T c_distance F⟩
/-- None, or a pair of the total and the chosen ones -/
def BestV (needs spares : List Spot) (H : Hp) (v : V) : Option (List Nat) → Prop
  | none => v = .non
  | some c => ∃ p q, v = .ref p ∧ H p = some (.tup [nv (Kpd9.totalDistance needs spares c), .ref q]) ∧ H q = some (.lst (c.map nv))
theorem BestV.mono {needs spares : List Spot} {H H' : Hp} {v : V} {o : Option (List Nat)} (e : Same H H') (h : BestV needs spares H v o) : BestV needs spares H' v o := by
  cases o with
  | none => exact h
  | some c => exact let ⟨p, q, a, b, c⟩ := h; ⟨p, q, a, e _ _ b, e _ _ c⟩
abbrev s_best_assignment : Stmt := top 56
abbrev N_best_assignment : List Str := ["needs", "spares", "found", "chosen", "total"]
theorem sc_best_assignment : FnScope N_best_assignment ["needs", "spares"] (defScope s_best_assignment) := ⟨rfl, rfl, rfl, by decide +kernel, rfl, by decide +kernel, by decide +kernel⟩
def sp_best_assignment (K : PySem.W.Frag) (Z : Cs) : Sp := sp2 fun x y H Q _ => ∃ (a b : Addr) (needs spares : List Spot), x = .ref a ∧ y = .ref b ∧ TabA K H a spRow needs ∧ TabA K H b spRow spares ∧ needs.length ≤ 5 ∧ spares.length ≤ 7 ∧
  ∀ v H2, Same H H2 → BestV needs spares H2 v (Kpd9.bestAssignment needs spares) → Q v H2
set_option maxHeartbeats 4000000 in
theorem ok_best_assignment {P : Program} {w : World} {K : PySem.W.Frag} {mg : Str → Option Value} {base : Heap} {Z : Cs} (T : TX K mg Z) (c_assignments : Cal P w K mg base CX0 1 "assignments" ["needs", "spares"] (sp_assignments K Z)) (c_total_distance : Cal P w K mg base CX0 2 "total_distance" ["needs", "spares", "chosen"] (sp_total_distance K Z)) {f : Addr} {fd : FuncData} (F : Fun K "best_assignment" "best_assignment" s_best_assignment f fd) : FnOk P w K mg base CX0 3 f fd ["needs", "spares"] (sp_best_assignment K Z) := by
  refine F.ok sc_best_assignment len2 (fun cdv A outer s H vs Q E hr h => ⟨_, (pss_cons (ps_set (i := 2) sc_best_assignment.nd rfl (Or.inl rfl) pe_non)
    (pss_cons (ps_for PassesOwn.never rfl (pi_list (pe_c c_assignments (hr.mono (by decide)) (by rfl) (pa_cons (pv 0) (pa_cons (pv 1) pa_nil)))) (pg_name (i := 3) sc_best_assignment.nd rfl (Or.inl rfl)) (pss_cons (ps_set (i := 4) sc_best_assignment.nd rfl (Or.inl rfl) (pe_c c_total_distance (hr.mono (by decide)) (by rfl) (pa_cons (pv 0) (pa_cons (pv 1) (pa_cons (pv 3) pa_nil)))))
    (pss_one (ps_if (PW.pt (pw_or (pt_cmpR op_isN (pv 2) pe_non (nomark _)) (pw_or1 (pt_cmpR op_lt (pv 4) (pe_ix (ixT (K := K) rfl) (pv 2) pe_int (fun _ _ => rfl)) (nomark _))))) (pss_one (ps_set (i := 2) sc_best_assignment.nd rfl (Or.inl rfl) (pe_tup (pa_cons (pv 4) (pa_cons (pv 3) pa_nil))))) pss_nil))))
    (pss_one (ps_ret (pv 2))))), ?_⟩)
  obtain ⟨_, _, rfl, a, b, needs, spares, rfl, rfl, hN, hS, n1, n2, k⟩ := h
  rw [bestA_eq] at k
  walk_at "rd"
  refine r_for fun D' hD => ?_
  walk_at "rd"
  refine ⟨_, _, rfl, a, b, needs, spares, rfl, rfl, hN, hS, n1, n2, fun L H2 xs hL e2 hx hA => ?_⟩
  refine ⟨L, rfl, ⟨_, SqL.of hx⟩, for_list (D := D') (xs := xs) (fun i σ H' => (∃ v v1 v2, σ = [some (.ref a), some (.ref b), some v, v1, v2] ∧ BestV needs spares H' v (bestM needs spares ((bfsA spares needs).take i))) ∧ Same H2 H') ?_ ?_ ?_ ?_⟩
  · exact ⟨⟨_, _, _, rfl, rfl⟩, Same.refl _⟩
  · rintro i σ H' _ ⟨_, s⟩
    exact SqL.of (s _ _ hx)
  · rintro i x σ H' hi ⟨⟨v, v1, v2, rfl, hv⟩, s⟩
    subst hD
    obtain ⟨c, hc, pc, rfl, _, hpc⟩ := hA.get hi
    have cok := bfsA_ok (List.mem_of_getElem? hc)
    have et := take_more hc
    have e2s := e2.trans s
    walk_at "rd"
    refine ⟨_, _, _, rfl, a, b, pc, needs, spares, c, rfl, rfl, rfl, hN.mono e2s, hS.mono e2s, s _ _ hpc, cok, by omega, fun H3 e3 => ?_⟩
    have s3 := s.trans e3
    have hv3 := hv.mono e3
    have hpc3 := s3 _ _ hpc
    walk_at "rd"
    rw [et, best_snoc]
    cases eb : bestM needs spares ((bfsA spares needs).take i) with
    | none =>
      rw [eb] at hv3
      have ev : v = .non := hv3
      subst ev
      refine ⟨rfl, true, rfl, iteT (iteT ?_)⟩
      walk_at "rd"
      refine ⟨lineR rfl, fun p hp => ?_⟩
      have s4 := same_new (o := HO.tup [nv (Kpd9.totalDistance needs spares c), .ref pc]) hp
      walk_at "rd"
      exact ⟨⟨_, _, _, rfl, p, pc, rfl, upd_same, s4 _ _ hpc3⟩, s3.trans s4⟩
    | some z =>
      rw [eb] at hv3
      have hv4 := hv3
      obtain ⟨p2, q2, rfl, hp2, hq2⟩ := hv4
      refine ⟨rfl, false, rfl, iteF ?_⟩
      walk_at "rd"
      refine r_ixT (SqT.of hp2) rfl ?_
      walk_at "rd"
      refine ifd (fun lt => ?_) (fun nl => ?_)
      · walk_at "rd"
        refine ⟨lineR rfl, fun p hp => ?_⟩
        have s4 := same_new (o := HO.tup [nv (Kpd9.totalDistance needs spares c), .ref pc]) hp
        walk_at "rd"
        rw [if_pos (by omega)]
        exact ⟨⟨_, _, _, rfl, p, pc, rfl, upd_same, s4 _ _ hpc3⟩, s3.trans s4⟩
      · walk_at "rd"
        rw [if_neg (by omega)]
        exact ⟨⟨_, _, _, rfl, hv3⟩, s3⟩
  · rintro σ H' ⟨⟨v, v1, v2, rfl, hv⟩, s⟩
    subst hD
    rw [List.take_of_length_le (by rw [hA.1]; exact Nat.le_refl _)] at hv
    walk_at "rd"
    exact k v H' (e2.trans s) hv
theorem c_best_assignment {P : Program} {w : World} {K : PySem.W.Frag} {mg : Str → Option Value} {base : Heap} {Z : Cs} (T : TX K mg Z) (c_assignments : Cal P w K mg base CX0 1 "assignments" ["needs", "spares"] (sp_assignments K Z)) (c_total_distance : Cal P w K mg base CX0 2 "total_distance" ["needs", "spares", "chosen"] (sp_total_distance K Z)) {f : Addr} {fd : FuncData} (g : mg "best_assignment" = some (.ref f)) (F : Fun K "best_assignment" "best_assignment" s_best_assignment f fd) : Cal P w K mg base CX0 3 "best_assignment" ["needs", "spares"] (sp_best_assignment K Z) :=
  ⟨f, fd, g, F.kp, F.binds (ps := ["needs", "spares"]) (fun _ _ _ _ _ _ us hl => match us, hl with | [_, _], _ => rfl), ok_best_assignment T c_assignments c_total_distance F⟩
abbrev s_lowered : Stmt := top 57
abbrev N_lowered : List Str := ["needs", "spares", "chosen", "potentials", "j", "found", "need", "own"]
theorem sc_lowered : FnScope N_lowered ["needs", "spares", "chosen", "potentials", "j"] (defScope s_lowered) := ⟨rfl, rfl, rfl, by decide +kernel, rfl, by decide +kernel, by decide +kernel⟩
def sp_lowered (K : PySem.W.Frag) (Z : Cs) : Sp := sp5 fun x y z u t H Q _ => ∃ (a b c p : Addr) (needs spares : List Spot) (ch : List Nat) (v : List Int) (j : Nat), x = .ref a ∧ y = .ref b ∧ z = .ref c ∧ u = .ref p ∧ t = nv j ∧ TabA K H a spRow needs ∧ TabA K H b spRow spares ∧ H c = some (.lst (ch.map nv)) ∧ H p = some (.lst (v.map V.int)) ∧ ChoiceOk needs spares ch ∧ v.length = spares.length ∧ j < spares.length ∧ RetV (.int (lowM needs spares ch v j needs.length)) H Q
set_option maxHeartbeats 4000000 in
theorem ok_lowered {P : Program} {w : World} {K : PySem.W.Frag} {mg : Str → Option Value} {base : Heap} {Z : Cs} (T : TX K mg Z) (c_distance : Cal P w K mg base CX0 1 "distance" ["one", "other"] (sp_distance K Z)) {f : Addr} {fd : FuncData} (F : Fun K "lowered" "lowered" s_lowered f fd) : FnOk P w K mg base CX0 2 f fd ["needs", "spares", "chosen", "potentials", "j"] (sp_lowered K Z) := by
  refine F.ok sc_lowered len5 (fun cdv A outer s H vs Q E hr h => ⟨_, (pss_cons (ps_set (i := 5) sc_lowered.nd rfl (Or.inl rfl) (pe_ix (ixL (K := K) rfl) (pv 3) (pv 4) (fun _ _ => rfl)))
    (pss_cons (ps_for PassesOwn.never rfl (pi_zip (by rfl) T.b_zip (pa_cons (pv 0) (pa_cons (pv 2) pa_nil))) (pgT (K := K) (n := 2) rfl (by rfl) (pgs_cons (pg_name (i := 6) sc_lowered.nd rfl (Or.inl rfl)) (pgs_cons (pg_name (i := 7) sc_lowered.nd rfl (Or.inl rfl)) pgs_nil))) (pss_one (ps_if (pt_cmpR op_eq (pe_ix (ixT (K := K) rfl) (pv 6) pe_int (fun _ _ => rfl)) (pe_ix (ixT (K := K) rfl) (pe_ix (ixL (K := K) rfl) (pv 1) (pv 4) (fun _ _ => rfl)) pe_int (fun _ _ => rfl)) (nomark _)) (pss_one (ps_set (i := 5) sc_lowered.nd rfl (Or.inl rfl) (pe_callB (call_min2 rfl) (by rfl) T.b_min (by decide +kernel) (pa_cons (pv 5) (pa_cons (pe_op op_sub (pe_op op_add (pe_ix (ixL (K := K) rfl) (pv 3) (pv 7) (fun _ _ => rfl)) (pe_c c_distance (hr.mono (by decide)) (by rfl) (pa_cons (pv 6) (pa_cons (pe_ix (ixL (K := K) rfl) (pv 1) (pv 4) (fun _ _ => rfl)) pa_nil)))) (pe_c c_distance (hr.mono (by decide)) (by rfl) (pa_cons (pv 6) (pa_cons (pe_ix (ixL (K := K) rfl) (pv 1) (pv 7) (fun _ _ => rfl)) pa_nil)))) pa_nil))))) pss_nil)))
    (pss_one (ps_ret (pv 5))))), ?_⟩)
  obtain ⟨_, _, _, _, _, rfl, a, b, c, p, needs, spares, ch, v, j, rfl, rfl, rfl, rfl, rfl, ⟨xs, hx, hA⟩, ⟨ys, hy, hB⟩, hc, hp, cok, hvl, hj, k⟩ := h
  have es : spares[j]? = some spares[j] := by simp [hj]
  have esp := spot_of es
  generalize spares[j] = sj at es esp
  obtain ⟨xj, exj, pj, rfl, hpj⟩ := hB.got es
  walk_at "rd"
  refine r_ixL (SqL.of hp) (int_get (by omega)) ?_
  walk_at "rd"
  refine r_for fun D' hD => ?_
  walk_at "rd"
  have hlen : xs.length = (ch.map nv).length := by rw [List.length_map, hA.1, cok.1]
  refine ⟨a, c, xs, ch.map nv, rfl, SqL.of hx, SqL.of hc, for_zip (D := D') hlen (fun i σ H' => (∃ v1 v2, σ = [some (.ref a), some (.ref b), some (.ref c), some (.ref p), some (nv j), some (.int (lowM needs spares ch v j i)), v1, v2]) ∧ Same H H') ?_ ?_ ?_ ?_⟩
  · exact ⟨⟨_, _, rfl⟩, Same.refl H⟩
  · rintro i σ H' _ ⟨_, s⟩
    exact ⟨SqL.of (s _ _ hx), SqL.of (s _ _ hc)⟩
  · rintro i x y σ H' U hi hi2 ⟨⟨v1, v2, rfl⟩, s⟩ hU
    subst hD
    obtain ⟨n, en, pn, rfl, hpn⟩ := hA.get hi
    obtain ⟨o, eo, rfl⟩ := zip_get hi2
    have ho := cok.2 o (List.mem_of_getElem? eo)
    have es2 : spares[o]? = some spares[o] := by simp [ho]
    have eso := spot_of es2
    generalize spares[o] = so at es2 eso
    obtain ⟨xo, exo, po, rfl, hpo⟩ := hB.got es2
    have s2 := s.trans (same_new (o := HO.tup [.ref pn, nv o]) hU)
    have ls := low_succ needs spares ch v j i
    have l1 : ∀ B, low1 needs spares ch v j B i = if n.kind = sj.kind then min B (v.getD o 0 + (Kpd9.distance n sj : Int) - (Kpd9.distance n so : Int)) else B := fun B => by
      unfold low1
      rw [spot_of en, esp, getD_of eo, eso]
    rw [l1] at ls
    refine r_tupg (SqT.of upd_same) rfl ?_
    walk_at "rd"
    refine r_ixT (v := .int (n.kind : Int)) (Same.sqt s2 hpn) rfl ?_
    walk_at "rd"
    refine r_ixL (SqL.of (s2 _ _ hy)) (atI_nat exj) ?_
    walk_at "rd"
    refine r_ixT (v := .int (sj.kind : Int)) (Same.sqt s2 hpj) rfl ?_
    walk_at "rd"
    refine ifE (fun ee => ?_) (fun ne => ?_)
    · rw [if_pos (by omega)] at ls
      walk_at "rd"
      refine r_ixL (SqL.of (s2 _ _ hp)) (int_get (by omega)) ?_
      walk_at "rd"
      refine r_ixL (SqL.of (s2 _ _ hy)) (atI_nat exj) ?_
      walk_at "rd"
      refine ⟨_, _, rfl, pn, pj, n, sj, rfl, rfl, Same.sqt s2 hpn, Same.sqt s2 hpj, ?_⟩
      walk_at "rd"
      refine r_ixL (SqL.of (s2 _ _ hy)) (atI_nat exo) ?_
      walk_at "rd"
      refine ⟨_, _, rfl, pn, po, n, so, rfl, rfl, Same.sqt s2 hpn, Same.sqt s2 hpo, ?_⟩
      walk_at "rd"
      refine ⟨_, _, rfl, ?_⟩
      walk_at "rd"
      have em : ∀ (A B : Int), (if B < A then B else A) = min A B := fun A B => by
        split <;> omega
      rw [em, ls]
      exact ⟨⟨_, _, rfl⟩, s2⟩
    · rw [if_neg (by omega)] at ls
      walk_at "rd"
      rw [ls]
      exact ⟨⟨_, _, rfl⟩, s2⟩
  · rintro σ H' ⟨⟨v1, v2, rfl⟩, s⟩
    subst hD
    rw [hA.1]
    walk_at "rd"
    exact k H' s
theorem c_lowered {P : Program} {w : World} {K : PySem.W.Frag} {mg : Str → Option Value} {base : Heap} {Z : Cs} (T : TX K mg Z) (c_distance : Cal P w K mg base CX0 1 "distance" ["one", "other"] (sp_distance K Z)) {f : Addr} {fd : FuncData} (g : mg "lowered" = some (.ref f)) (F : Fun K "lowered" "lowered" s_lowered f fd) : Cal P w K mg base CX0 2 "lowered" ["needs", "spares", "chosen", "potentials", "j"] (sp_lowered K Z) :=
  ⟨f, fd, g, F.kp, F.binds (ps := ["needs", "spares", "chosen", "potentials", "j"]) (fun _ _ _ _ _ _ us hl => match us, hl with | [_, _, _, _, _], _ => rfl), ok_lowered T c_distance F⟩
abbrev s_spare_potentials : Stmt := top 58
abbrev N_spare_potentials : List Str := ["needs", "spares", "chosen", "found", "turn", "j"]
theorem sc_spare_potentials : FnScope N_spare_potentials ["needs", "spares", "chosen"] (defScope s_spare_potentials) := ⟨rfl, rfl, rfl, by decide +kernel, rfl, by decide +kernel, by decide +kernel⟩
def sp_spare_potentials (K : PySem.W.Frag) (Z : Cs) : Sp := sp3 fun x y z H Q _ => ∃ (a b c : Addr) (needs spares : List Spot) (ch : List Nat), x = .ref a ∧ y = .ref b ∧ z = .ref c ∧ TabA K H a spRow needs ∧ TabA K H b spRow spares ∧ H c = some (.lst (ch.map nv)) ∧ ChoiceOk needs spares ch ∧ spares.length ≤ 1000 ∧ RetL ((potV needs spares ch spares.length).map V.int) H Q
set_option maxHeartbeats 4000000 in
theorem ok_spare_potentials {P : Program} {w : World} {K : PySem.W.Frag} {mg : Str → Option Value} {base : Heap} {Z : Cs} (T : TX K mg Z) (c_lowered : Cal P w K mg base CX0 2 "lowered" ["needs", "spares", "chosen", "potentials", "j"] (sp_lowered K Z)) {f : Addr} {fd : FuncData} (F : Fun K "spare_potentials" "spare_potentials" s_spare_potentials f fd) : FnOk P w K mg base CX0 3 f fd ["needs", "spares", "chosen"] (sp_spare_potentials K Z) := by
  refine F.ok sc_spare_potentials len3 (fun cdv A outer s H vs Q E hr h => ⟨_, (pss_cons (ps_set (i := 3) sc_spare_potentials.nd rfl (Or.inr rfl) (pe_op op_rep (pe_lst (pa_cons pe_int pa_nil)) (pe_callB (lenK (K := K) rfl) (by rfl) T.b_len PySem.boot_len (pa_cons (pv 1) pa_nil))))
    (pss_cons (ps_for PassesOwn.never rfl (pi_range1 (by rfl) T.b_range (pa_cons (pe_callB (lenK (K := K) rfl) (by rfl) T.b_len PySem.boot_len (pa_cons (pv 1) pa_nil)) pa_nil)) (pg_name (i := 4) sc_spare_potentials.nd rfl (Or.inl rfl)) (pss_one (ps_set (i := 3) sc_spare_potentials.nd rfl (Or.inr rfl) (pe_lc (own := [("j", 5)]) (by rfl) sc_spare_potentials.nd (pi_range1 (by rfl) T.b_range (pa_cons (pe_callB (lenK (K := K) rfl) (by rfl) T.b_len PySem.boot_len (pa_cons (pv 1) pa_nil)) pa_nil)) (blkOk_by (own := [("j", 5)]) (N := N_spare_potentials) (sc := defScope s_spare_potentials) (by decide +kernel)) (fun _ _ _ _ _ => (pg_name (i := 5) sc_spare_potentials.nd rfl (Or.inl rfl))) (fun _ _ _ _ _ => pts_nil) (fun _ _ _ _ _ => (pe_c c_lowered (hr.mono (by decide)) (by rfl) (pa_cons (pv 0) (pa_cons (pv 1) (pa_cons (pv 2) (pa_cons (pv 3) (pa_cons (pv 5) pa_nil)))))))))))
    (pss_one (ps_ret (pv 3))))), ?_⟩)
  obtain ⟨_, _, _, rfl, a, b, c, needs, spares, ch, rfl, rfl, rfl, hN, hS, hc, cok, hn, k⟩ := h
  obtain ⟨ys, hy, hB⟩ := hS
  have hS : TabA K H b spRow spares := ⟨ys, hy, hB⟩
  walk_at "rd"
  refine ⟨lineR rfl, fun F0 hF0 => ?_⟩
  have e0 := same_new (o := HO.lst [V.int 0]) hF0
  walk_at "rd"
  refine ⟨b, ys, rfl, .inl (SqL.of (e0 _ _ hy)), ?_⟩
  walk_at "rd"
  rw [hB.1]
  refine ⟨F0, _, _, rfl, rfl, upd_same, by omega, by omega, line2 (by simp; omega), fun F hF => ?_⟩
  have e1 := e0.trans (same_new (o := HO.lst (List.replicate ((spares.length : Nat) : Int).toNat [V.int 0]).flatten) hF)
  have hF0' : H F = none := e0.free hF
  have hini : (List.replicate ((spares.length : Nat) : Int).toNat [V.int 0]).flatten = (potV needs spares ch 0).map V.int := by
    rw [Int.toNat_natCast, List.flatten_replicate_singleton]
    unfold potV Kpd9.repeated
    rw [List.map_replicate]
  walk_at "rd"
  refine r_for fun D' hD => ?_
  walk_at "rd"
  refine ⟨b, ys, rfl, .inl (SqL.of (e1 _ _ hy)), ?_⟩
  walk_at "rd"
  rw [hB.1]
  refine ⟨_, rfl, by omega, by omega, ?_⟩
  rw [Int.toNat_natCast]
  refine for_range (D := D') (fun i σ H' => ∃ (F : Addr) (v1 : Option V), σ = [some (.ref a), some (.ref b), some (.ref c), some (.ref F), v1, none] ∧ Same H H' ∧ H F = none ∧ H' F = some (.lst ((potV needs spares ch i).map V.int))) ⟨F, none, rfl, e1, hF0', by rw [← hini]; exact upd_same⟩ ?_ ?_
  · rintro i σ H' hi ⟨F, v1, rfl, s, hF, hf⟩
    subst hD
    walk_at "rd"
    refine EvL.go (Evl.el_lcR1 (n := (spares.length : Int)) (fun _ => true) (fun j => .int (lowM needs spares ch (potV needs spares ch i) j needs.length)) (Evl.ea_cons (Evl.ev_is (Evl.ev_len (Evl.ev_var rfl) (SqL.of (s _ _ hy))) (by rw [hB.1])) Evl.ea_nil) ⟨by omega, by omega⟩ (by intro _; rfl) (fun j _ _ _ => et_yes) (fun j H1 e hj _ => ?_)) fun D H2 hD2 e2 hD3 => ?_
    · have hj2 : j < spares.length := by omega
      have s1 := s.trans e
      exact Evl.ev_call (Evl.ea_cons (Evl.ev_var rfl) (Evl.ea_cons (Evl.ev_var rfl) (Evl.ea_cons (Evl.ev_var rfl) (Evl.ea_cons (Evl.ev_var rfl) (Evl.ea_cons (Evl.ev_var rfl) Evl.ea_nil))))) (spV fun H2 e2 Q k E => ⟨_, _, _, _, _, rfl, a, b, c, F, needs, spares, ch, potV needs spares ch i, j, rfl, rfl, rfl, rfl, rfl, hN.mono (s1.trans e2), hS.mono (s1.trans e2), e2 _ _ (s1 _ _ hc), e2 _ _ (e _ _ hf), cok, potV_len _ _ _ _, hj2, fun H3 e3 => k H3 e3⟩)
    · have en : (List.range spares.length).map (fun j => V.int (lowM needs spares ch (potV needs spares ch i) j needs.length)) = (potV needs spares ch (i + 1)).map V.int := by
        rw [potV_succ, List.map_map]
        rfl
      rw [given_all, Int.toNat_natCast, en] at hD3
      walk_at "rd"
      exact ⟨D, _, rfl, s.trans e2, s.free hD2, hD3⟩
  · rintro σ H' ⟨F, v1, rfl, s, hF, hf⟩
    subst hD
    walk_at "rd"
    exact k F H' hF s hf
theorem c_spare_potentials {P : Program} {w : World} {K : PySem.W.Frag} {mg : Str → Option Value} {base : Heap} {Z : Cs} (T : TX K mg Z) (c_lowered : Cal P w K mg base CX0 2 "lowered" ["needs", "spares", "chosen", "potentials", "j"] (sp_lowered K Z)) {f : Addr} {fd : FuncData} (g : mg "spare_potentials" = some (.ref f)) (F : Fun K "spare_potentials" "spare_potentials" s_spare_potentials f fd) : Cal P w K mg base CX0 3 "spare_potentials" ["needs", "spares", "chosen"] (sp_spare_potentials K Z) :=
  ⟨f, fd, g, F.kp, F.binds (ps := ["needs", "spares", "chosen"]) (fun _ _ _ _ _ _ us hl => match us, hl with | [_, _, _], _ => rfl), ok_spare_potentials T c_lowered F⟩
abbrev s_need_potentials : Stmt := top 59
abbrev N_need_potentials : List Str := ["needs", "spares", "chosen", "potentials", "need", "j"]
theorem sc_need_potentials : FnScope N_need_potentials ["needs", "spares", "chosen", "potentials"] (defScope s_need_potentials) := ⟨rfl, rfl, rfl, by decide +kernel, rfl, by decide +kernel, by decide +kernel⟩
def sp_need_potentials (K : PySem.W.Frag) (Z : Cs) : Sp := sp4 fun x y z u H Q _ => ∃ (a b c p : Addr) (needs spares : List Spot) (ch : List Nat) (v : List Int), x = .ref a ∧ y = .ref b ∧ z = .ref c ∧ u = .ref p ∧ TabA K H a spRow needs ∧ TabA K H b spRow spares ∧ H c = some (.lst (ch.map nv)) ∧ H p = some (.lst (v.map V.int)) ∧ ChoiceOk needs spares ch ∧ needs.length ≤ 1000 ∧ v.length = spares.length ∧ RetL ((potU needs spares ch v).map V.int) H Q
set_option maxHeartbeats 4000000 in
theorem ok_need_potentials {P : Program} {w : World} {K : PySem.W.Frag} {mg : Str → Option Value} {base : Heap} {Z : Cs} (T : TX K mg Z) (c_distance : Cal P w K mg base CX0 1 "distance" ["one", "other"] (sp_distance K Z)) {f : Addr} {fd : FuncData} (F : Fun K "need_potentials" "need_potentials" s_need_potentials f fd) : FnOk P w K mg base CX0 2 f fd ["needs", "spares", "chosen", "potentials"] (sp_need_potentials K Z) := by
  refine F.ok sc_need_potentials len4 (fun cdv A outer s H vs Q E hr h => ⟨_, (pss_one (ps_ret (pe_lc (own := [("need", 4), ("j", 5)]) (by rfl) sc_need_potentials.nd (pi_zip (by rfl) T.b_zip (pa_cons (pv 0) (pa_cons (pv 2) pa_nil))) (blkOk_by (own := [("need", 4), ("j", 5)]) (N := N_need_potentials) (sc := defScope s_need_potentials) (by decide +kernel)) (fun _ _ _ _ _ => (pgT (K := K) (n := 2) rfl (by rfl) (pgs_cons (pg_name (i := 4) sc_need_potentials.nd rfl (Or.inl rfl)) (pgs_cons (pg_name (i := 5) sc_need_potentials.nd rfl (Or.inl rfl)) pgs_nil)))) (fun _ _ _ _ _ => pts_nil) (fun _ _ _ _ _ => (pe_op op_sub (pe_c c_distance (hr.mono (by decide)) (by rfl) (pa_cons (pv 4) (pa_cons (pe_ix (ixL (K := K) rfl) (pv 1) (pv 5) (fun _ _ => rfl)) pa_nil))) (pe_ix (ixL (K := K) rfl) (pv 3) (pv 5) (fun _ _ => rfl))))))), ?_⟩)
  obtain ⟨_, _, _, _, rfl, a, b, c, p, needs, spares, ch, v, rfl, rfl, rfl, rfl, ⟨xs, hx, hA⟩, ⟨ys, hy, hB⟩, hc, hp, cok, hn, hvl, k⟩ := h
  walk_at "rd"
  refine lcP2 (J := Itz K a c) (fun R r => ?_) (walk_zip (n := needs.length) (by rw [List.length_map, hA.1, cok.1, Nat.min_self])) (fun _ => true) (fun i => .int ((distM needs spares ch i : Int) - v.getD (ch.getD i 0) 0)) (fun H1 s => ⟨SqL.of (s _ _ hx), SqL.of (s _ _ hc)⟩) (by omega) (by intro _ _; rfl) (fun _ _ _ _ _ _ => et_yes) ?_ ?_
  · walk_at "rd"
    exact ⟨a, c, xs, ch.map nv, rfl, SqL.of hx, SqL.of hc, r⟩
  · intro i x y hi ex ey _
    obtain ⟨n, en, p', rfl, hp'⟩ := hA.get ex
    obtain ⟨j, ej, rfl⟩ := zip_get ey
    have hj := cok.2 j (List.mem_of_getElem? ej)
    have es : spares[j]? = some spares[j] := by simp [hj]
    generalize spares[j] = s at es
    obtain ⟨x2, ex2, q, rfl, hq⟩ := hB.got es
    rw [distM_of en ej es, getD_of ej]
    exact Evl.ev_op (Evl.ev_call (Evl.ea_cons (Evl.ev_var rfl) (Evl.ea_cons (Evl.ev_op (Evl.ev_var rfl) (Evl.ev_var rfl) (Evl.rv_ixL (SqL.of hy) (atI_nat ex2))) Evl.ea_nil)) (spV fun H1 e Q k E => ⟨_, _, rfl, p', q, n, s, rfl, rfl, Same.sqt e hp', Same.sqt e hq, k H1 (Ex.refl H1)⟩)) (Evl.ev_op (Evl.ev_var rfl) (Evl.ev_var rfl) (Evl.rv_ixL (SqL.of hp) (int_get (by omega)))) Evl.rv_I0
  · intro D H1 hD e1 hD1
    have en : (List.range needs.length).map (fun i => V.int ((distM needs spares ch i : Int) - v.getD (ch.getD i 0) 0)) = (potU needs spares ch v).map V.int := by
      unfold potU
      rw [List.map_map]
      rfl
    rw [given_all, en] at hD1
    exact k D H1 hD e1 hD1
theorem c_need_potentials {P : Program} {w : World} {K : PySem.W.Frag} {mg : Str → Option Value} {base : Heap} {Z : Cs} (T : TX K mg Z) (c_distance : Cal P w K mg base CX0 1 "distance" ["one", "other"] (sp_distance K Z)) {f : Addr} {fd : FuncData} (g : mg "need_potentials" = some (.ref f)) (F : Fun K "need_potentials" "need_potentials" s_need_potentials f fd) : Cal P w K mg base CX0 2 "need_potentials" ["needs", "spares", "chosen", "potentials"] (sp_need_potentials K Z) :=
  ⟨f, fd, g, F.kp, F.binds (ps := ["needs", "spares", "chosen", "potentials"]) (fun _ _ _ _ _ _ us hl => match us, hl with | [_, _, _, _], _ => rfl), ok_need_potentials T c_distance F⟩
def PairV (H : Hp) (v : V) : Option (Nat × Nat) → Prop := CfV H v
abbrev s_first_excess : Stmt := top 60
abbrev N_first_excess : List Str := ["state", "need_numbers", "spare_numbers", "i", "need", "j", "spare"]
theorem sc_first_excess : FnScope N_first_excess ["state", "need_numbers", "spare_numbers"] (defScope s_first_excess) := ⟨rfl, rfl, rfl, by decide +kernel, rfl, by decide +kernel, by decide +kernel⟩
def sp_first_excess (K : PySem.W.Frag) (Z : Cs) : Sp := sp3 fun x y z H Q _ => ∃ (a b c : Addr) (d : Design) (l : Ls) (asg : Nat) (u v : List Int), x = .ref a ∧ y = .ref b ∧ z = .ref c ∧ StAt K Z H a d l asg ∧ H b = some (.lst (u.map V.int)) ∧ H c = some (.lst (v.map V.int)) ∧ u.length = d.needs.length ∧ v.length = d.spares.length ∧
  ∀ w H2, Same H H2 → CfV H2 w (Kpd9.wrongPair d.needs d.spares u v) → Q w H2
set_option maxHeartbeats 4000000 in
theorem ok_first_excess {P : Program} {w : World} {K : PySem.W.Frag} {mg : Str → Option Value} {base : Heap} {Z : Cs} (T : TX K mg Z) (c_distance : Cal P w K mg base CX0 1 "distance" ["one", "other"] (sp_distance K Z)) {f : Addr} {fd : FuncData} (F : Fun K "first_excess" "first_excess" s_first_excess f fd) : FnOk P w K mg base CX0 2 f fd ["state", "need_numbers", "spare_numbers"] (sp_first_excess K Z) := by
  refine F.ok sc_first_excess len3 (fun cdv A outer s H vs Q E hr h => ⟨_, (pss_cons (ps_for PassesOwn.never rfl (pi_enum (by rfl) T.b_enumerate (pa_cons (fldK (K := K) rfl (pv 0) rfl) pa_nil)) (pgT (K := K) (n := 2) rfl (by rfl) (pgs_cons (pg_name (i := 3) sc_first_excess.nd rfl (Or.inl rfl)) (pgs_cons (pg_name (i := 4) sc_first_excess.nd rfl (Or.inl rfl)) pgs_nil))) (pss_one (ps_for PassesOwn.never rfl (pi_enum (by rfl) T.b_enumerate (pa_cons (fldK (K := K) rfl (pv 0) rfl) pa_nil)) (pgT (K := K) (n := 2) rfl (by rfl) (pgs_cons (pg_name (i := 5) sc_first_excess.nd rfl (Or.inl rfl)) (pgs_cons (pg_name (i := 6) sc_first_excess.nd rfl (Or.inl rfl)) pgs_nil))) (pss_one (ps_if (PW.pt (pw_and (pt_cmpR op_eq (pe_ix (ixT (K := K) rfl) (pv 4) pe_int (fun _ _ => rfl)) (pe_ix (ixT (K := K) rfl) (pv 6) pe_int (fun _ _ => rfl)) (nomark _)) (pw_and1 (pt_cmpR op_gt (pe_op op_add (pe_ix (ixL (K := K) rfl) (pv 1) (pv 3) (fun _ _ => rfl)) (pe_ix (ixL (K := K) rfl) (pv 2) (pv 5) (fun _ _ => rfl))) (pe_c c_distance (hr.mono (by decide)) (by rfl) (pa_cons (pv 4) (pa_cons (pv 6) pa_nil))) (nomark _))))) (pss_one (ps_ret (pe_tup (pa_cons (pv 3) (pa_cons (pv 5) pa_nil))))) pss_nil)))))
    (pss_one (ps_ret pe_non))), ?_⟩)
  obtain ⟨_, _, _, rfl, a, b, c, d, l, asg, u, v, rfl, rfl, rfl, S, hb, hc, hu, hv, k⟩ := h
  obtain ⟨xs, hx, hA⟩ := S.needs
  obtain ⟨ys, hy, hB⟩ := S.spares
  walk_at "rd"
  refine r_for fun D' hD => ?_
  walk_at "rd"
  refine ⟨l.needs, xs, rfl, SqL.of hx, for_enum (D := D') (xs := xs) (fun i σ H' => (∃ v1 v2 v3 v4, σ = [some (.ref a), some (.ref b), some (.ref c), v1, v2, v3, v4]) ∧ Same H H' ∧ ∀ i', i' < i → ∀ j', j' < d.spares.length → wrong1 d.needs d.spares u v (i', j') = false) ?_ ?_ ?_ ?_⟩
  · exact ⟨⟨_, _, _, _, rfl⟩, Same.refl H, fun j h => by omega⟩
  · rintro i σ H' _ ⟨_, s, _⟩
    exact SqL.of (s _ _ hx)
  · rintro i x σ H' U hi ⟨⟨v1, v2, v3, v4, rfl⟩, s, hno⟩ hU
    subst hD
    obtain ⟨n, en, pn, rfl, hpn⟩ := hA.get hi
    have hil := lt_of_get en
    have s2 := s.trans (same_new (o := HO.tup [.int (i : Nat), .ref pn]) hU)
    have S2 := S.mono s2
    refine r_tupg (SqT.of upd_same) rfl ?_
    walk_at "rd"
    refine r_for fun D2 hD2 => ?_
    walk_at "rd"
    refine ⟨l.spares, ys, rfl, SqL.of (s2 _ _ hy), for_enum (D := D2) (xs := ys) (fun j σ H' => (∃ v3 v4, σ = [some (.ref a), some (.ref b), some (.ref c), some (nv i), some (.ref pn), v3, v4]) ∧ Same H H' ∧ ∀ j', j' < j → wrong1 d.needs d.spares u v (i, j') = false) ?_ ?_ ?_ ?_⟩
    · exact ⟨⟨_, _, rfl⟩, s2, fun j h => by omega⟩
    · rintro j σ H' _ ⟨_, s, _⟩
      exact SqL.of (s _ _ hy)
    · rintro j y σ H3 U2 hj ⟨⟨v3, v4, rfl⟩, s3, hno2⟩ hU2
      subst hD2
      obtain ⟨m, em, pm, rfl, hpm⟩ := hB.get hj
      have hjl := lt_of_get em
      have s4 := s3.trans (same_new (o := HO.tup [.int (j : Nat), .ref pm]) hU2)
      have w1 : wrong1 d.needs d.spares u v (i, j) = (n.kind == m.kind && decide ((Kpd9.distance n m : Int) < u.getD i 0 + v.getD j 0)) := by
        unfold wrong1
        dsimp only
        rw [spot_of en, spot_of em]
      have next : wrong1 d.needs d.spares u v (i, j) = false → ∀ j', j' < j + 1 → wrong1 d.needs d.spares u v (i, j') = false := fun q j' hj' => by
        by_cases h : j' = j
        · rw [h]; exact q
        · exact hno2 j' (by omega)
      refine r_tupg (SqT.of upd_same) rfl ?_
      walk_at "rd"
      refine r_ixT (v := .int (n.kind : Int)) (Same.sqt s4 hpn) rfl ?_
      walk_at "rd"
      refine r_ixT (v := .int (m.kind : Int)) (Same.sqt s4 hpm) rfl ?_
      walk_at "rd"
      refine ifE (fun ee => ?_) (fun ne => ?_)
      · have ek : (n.kind == m.kind) = true := by rw [beq_iff_eq]; omega
        walk_at "rd"
        refine r_ixL (SqL.of (s4 _ _ hb)) (int_get (by omega)) ?_
        walk_at "rd"
        refine r_ixL (SqL.of (s4 _ _ hc)) (int_get (by omega)) ?_
        walk_at "rd"
        refine ⟨_, _, rfl, pn, pm, n, m, rfl, rfl, Same.sqt s4 hpn, Same.sqt s4 hpm, ?_⟩
        walk_at "rd"
        refine ifd (fun lt => ?_) (fun nl => ?_)
        · walk_at "rd"
          refine ⟨lineR rfl, fun p hp => ?_⟩
          refine k _ _ (s4.trans (same_new hp)) ?_
          rw [wrong_some hil hjl hno hno2 (by rw [w1, ek, Bool.true_and, decide_eq_true_eq]; omega)]
          exact ⟨p, rfl, upd_same⟩
        · walk_at "rd"
          exact ⟨⟨_, _, rfl⟩, s4, next (by rw [w1, ek, Bool.true_and, decide_eq_false_iff_not]; omega)⟩
      · have ek : (n.kind == m.kind) = false := by rw [beq_eq_false_iff_ne]; omega
        refine iteF ?_
        walk_at "rd"
        exact ⟨⟨_, _, rfl⟩, s4, next (by rw [w1, ek]; rfl)⟩
    · rintro σ H3 ⟨⟨v3, v4, rfl⟩, s3, hno2⟩
      subst hD2
      rw [hB.1] at hno2
      refine ⟨⟨_, _, _, _, rfl⟩, s3, fun i' hi' j' hj' => ?_⟩
      by_cases h : i' = i
      · rw [h]; exact hno2 j' hj'
      · exact hno i' (by omega) j' hj'
  · rintro σ H' ⟨⟨v1, v2, v3, v4, rfl⟩, s, hno⟩
    subst hD
    rw [hA.1] at hno
    walk_at "rd"
    refine k _ _ s ?_
    rw [wrong_none hno]
    rfl
theorem c_first_excess {P : Program} {w : World} {K : PySem.W.Frag} {mg : Str → Option Value} {base : Heap} {Z : Cs} (T : TX K mg Z) (c_distance : Cal P w K mg base CX0 1 "distance" ["one", "other"] (sp_distance K Z)) {f : Addr} {fd : FuncData} (g : mg "first_excess" = some (.ref f)) (F : Fun K "first_excess" "first_excess" s_first_excess f fd) : Cal P w K mg base CX0 2 "first_excess" ["state", "need_numbers", "spare_numbers"] (sp_first_excess K Z) :=
  ⟨f, fd, g, F.kp, F.binds (ps := ["state", "need_numbers", "spare_numbers"]) (fun _ _ _ _ _ _ us hl => match us, hl with | [_, _, _], _ => rfl), ok_first_excess T c_distance F⟩


abbrev s_Refused_init : Stmt := inClass (top 34) 0
abbrev N_Refused_init : List Str := ["self", "code"]
theorem sc_Refused_init : FnScope N_Refused_init ["self", "code"] (defScope s_Refused_init) := ⟨rfl, rfl, rfl, by decide +kernel, rfl, by decide +kernel, by decide +kernel⟩
def sp_Refused_init (K : PySem.W.Frag) (Z : Cs) : Sp := sp2 fun x y H Q _ => ∃ (a : Addr) (c : Int), x = .ref a ∧ y = .int c ∧ H a = some (exo a Z.CR none) ∧ ∀ dx, H dx = none → dx ≠ a → Q .non (upd (upd H dx (exd dx [(("code" : Str), .int c)])) a (exo a Z.CR (some dx)))
set_option maxHeartbeats 4000000 in
theorem ok_Refused_init {P : Program} {w : World} {K : PySem.W.Frag} {mg : Str → Option Value} {base : Heap} {Z : Cs} (T : TX K mg Z)  {f : Addr} {fd : FuncData} (F : Fun K "__init__" "Refused.__init__" s_Refused_init f fd) : FnOk P w K mg base CX0 1 f fd ["self", "code"] (sp_Refused_init K Z) := by
  refine F.ok sc_Refused_init len2 (fun cdv A outer s H vs Q E hr h => ⟨_, (pss_cons (ps_expr (pe_exinit T.rf (by rfl) T.b_Exception T.v_Exception (pa_cons (pv 0) (pa_cons pe_str pa_nil))))
    (pss_one (ps_exset T.rf (pv 0) (pv 1)))), ?_⟩)
  obtain ⟨_, _, rfl, a, c, rfl, rfl, ha, k⟩ := h
  walk_at "rd"
  show tExI Z.CR (tCons (tVar 0) (tCons (tC (.str "refused")) tNil)) _ _ _
  unfold tExI
  walk_at "rd"
  refine ⟨a, _, rfl, by simp, ha, ?_⟩
  walk_at "rd"
  unfold tExS
  walk_at "rd"
  exact ⟨a, rfl, ha, fun dx h1 h2 => k dx h1 h2⟩
theorem m_Refused_init {P : Program} {w : World} {K : PySem.W.Frag} {mg : Str → Option Value} {base : Heap} {Z : Cs} (T : TX K mg Z)  {fd : FuncData} (F : Fun K "__init__" "Refused.__init__" s_Refused_init Z.fR fd) : ∃ fd, Binds K fd ["self", "code"] [] ∧ FnOk P w K mg base CX0 1 Z.fR fd ["self", "code"] (sp_Refused_init K Z) :=
  ⟨fd, F.binds (ps := ["self", "code"]) (fun _ _ _ _ _ _ us hl => match us, hl with | [_, _], _ => rfl), ok_Refused_init T  F⟩
abbrev s_require : Stmt := top 35
abbrev N_require : List Str := ["is_right", "code"]
theorem sc_require : FnScope N_require ["is_right", "code"] (defScope s_require) := ⟨rfl, rfl, rfl, by decide +kernel, rfl, by decide +kernel, by decide +kernel⟩
def sp_require (K : PySem.W.Frag) (Z : Cs) : Sp := sp2 fun x y H Q E => ∃ (b : Bool) (c : Int), x = .bl b ∧ y = .int c ∧ (b = true → Q .non H) ∧ (b = false → Rai Z.CR c H E)
set_option maxHeartbeats 4000000 in
theorem ok_require {P : Program} {w : World} {K : PySem.W.Frag} {mg : Str → Option Value} {base : Heap} {Z : Cs} (T : TX K mg Z) (i_R : ∃ fd, Binds K fd ["self", "code"] [] ∧ FnOk P w K mg base CX0 1 Z.fR fd ["self", "code"] (sp_Refused_init K Z)) {f : Addr} {fd : FuncData} (F : Fun K "require" "require" s_require f fd) : FnOk P w K mg base (L2.CX P w) 3 f fd ["is_right", "code"] (sp_require K Z) := by
  obtain ⟨fdR, bR, FR⟩ := i_R
  refine F.okX sc_require len2 (fun cdv A outer s H vs Q E hr h => ⟨_, (pss_one (ps_if (pt_not (pt_val (pv 0))) (pss_one (ps_raise rfl (takes_of rfl rfl rfl rfl) (pmk_rf T.rf FR (hr.mono (by decide)) bR pass0 (by rfl) T.g_Refused (pa_cons (pv 1) pa_nil)))) pss_nil)), ?_⟩)
  obtain ⟨_, _, rfl, b, c, rfl, rfl, k1, k2⟩ := h
  walk_at "rd"
  cases b with
  | true =>
    refine iteF ?_
    walk_at "rd"
    exact k1 rfl
  | false =>
    refine iteT ?_
    unfold tExM
    walk_at "rd"
    refine ⟨by simp, fun a ha => ⟨_, _, rfl, a, c, rfl, rfl, upd_same, fun dx h1 h2 => ⟨rfl, dx, [(("code" : Str), .int c)], upd_same, ?_, ?_, ?_⟩⟩⟩
    · rw [upd_ne h2, upd_same]
    · rw [upd_ne h2] at h1
      exact h1
    · refine k2 rfl dx _ (fun b o hb => ?_) upd_same
      have hba : b ≠ a := ne_of_none hb ha
      have hbd : b ≠ dx := fun z => by
        rw [upd_ne h2] at h1
        rw [z, h1] at hb
        cases hb
      rw [upd_ne hbd, del_ne hba, upd_ne hba, upd_ne hbd, upd_ne hba]
      exact hb
theorem c_require {P : Program} {w : World} {K : PySem.W.Frag} {mg : Str → Option Value} {base : Heap} {Z : Cs} (T : TX K mg Z) (i_R : ∃ fd, Binds K fd ["self", "code"] [] ∧ FnOk P w K mg base CX0 1 Z.fR fd ["self", "code"] (sp_Refused_init K Z)) {f : Addr} {fd : FuncData} (g : mg "require" = some (.ref f)) (F : Fun K "require" "require" s_require f fd) : Cal P w K mg base (L2.CX P w) 3 "require" ["is_right", "code"] (sp_require K Z) :=
  ⟨f, fd, g, F.kp, F.binds (ps := ["is_right", "code"]) (fun _ _ _ _ _ _ us hl => match us, hl with | [_, _], _ => rfl), ok_require T i_R F⟩


theorem r_req {K : PySem.W.Frag} {Z : Cs} {b : Bool} {c : Int} {H : Hp} {Q : VK} {E : XK} (h1 : b = true → Q .non H) (h2 : b = false → Rai Z.CR c H E) : sp_require K Z [.bl b, .int c] H Q E := ⟨_, _, rfl, b, c, rfl, rfl, h1, h2⟩
theorem r_reqd {K : PySem.W.Frag} {Z : Cs} {p : Prop} [Decidable p] {c : Int} {H : Hp} {Q : VK} {E : XK} (h1 : p → Q .non H) (h2 : ¬ p → Rai Z.CR c H E) : sp_require K Z [.bl (decide p), .int c] H Q E :=
  r_req (fun h => h1 (of_decide_eq_true h)) fun h => h2 (of_decide_eq_false h)
theorem r_reqF {K : PySem.W.Frag} {Z : Cs} {c : Int} {H : Hp} {Q : VK} {E : XK} (h2 : Rai Z.CR c H E) : sp_require K Z [.bl false, .int c] H Q E := r_req (fun h => by cases h) fun _ => h2
abbrev s_spent : Stmt := top 74
abbrev N_spent : List Str := ["state", "own"]
theorem sc_spent : FnScope N_spent ["state"] (defScope s_spent) := ⟨rfl, rfl, rfl, by decide +kernel, rfl, by decide +kernel, by decide +kernel⟩
def sp_spent (K : PySem.W.Frag) (Z : Cs) : Sp := sp1 fun x H Q _ => ∃ (a : Addr) (d : Design) (l : Ls) (asg : Nat), x = .ref a ∧ StAt K Z H a d l asg ∧ Wf d ∧ RetV (nv (Kpd9.costOf d.library d.choices + Kpd9.repairCost d.repairs d.repairs.applied + asg)) H Q
set_option maxHeartbeats 4000000 in
theorem ok_spent {P : Program} {w : World} {K : PySem.W.Frag} {mg : Str → Option Value} {base : Heap} {Z : Cs} (T : TX K mg Z) (c_cost_of_buffers : Cal P w K mg base CX0 1 "cost_of_buffers" ["library", "choices"] (sp_cost_of_buffers K Z)) (c_cost_of_repairs : Cal P w K mg base CX0 2 "cost_of_repairs" ["changes", "chosen"] (sp_cost_of_repairs K Z)) {f : Addr} {fd : FuncData} (F : Fun K "spent" "spent" s_spent f fd) : FnOk P w K mg base CX0 3 f fd ["state"] (sp_spent K Z) := by
  refine F.ok sc_spent len1 (fun cdv A outer s H vs Q E hr h => ⟨_, (pss_cons (ps_set (i := 1) sc_spent.nd rfl (Or.inl rfl) (pe_op op_add (pe_c c_cost_of_buffers (hr.mono (by decide)) (by rfl) (pa_cons (fldK (K := K) rfl (pv 0) rfl) (pa_cons (fldK (K := K) rfl (pv 0) rfl) pa_nil))) (pe_c c_cost_of_repairs (hr.mono (by decide)) (by rfl) (pa_cons (fldK (K := K) rfl (pv 0) rfl) (pa_cons (fldK (K := K) rfl (pv 0) rfl) pa_nil)))))
    (pss_one (ps_ret (pe_op op_add (pv 1) (fldK (K := K) rfl (pv 0) rfl))))), ?_⟩)
  obtain ⟨_, rfl, a, d, l, asg, rfl, S, W, k⟩ := h
  have c := areChoices_ok W.ch
  have := W.n1
  have := W.chg
  walk_at "rd"
  refine ⟨_, _, rfl, l.library, l.choices, d.library, d.choices, rfl, rfl, S.library, S.choices, by rw [c.1]; omega, c.2, fun H1 e1 => ?_⟩
  have S1 := S.mono e1
  walk_at "rd"
  refine ⟨_, _, rfl, l.changes, d.repairs.changes, d.repairs.applied, rfl, rfl, S1.changes, by omega, fun H2 e2 => ?_⟩
  have S2 := S1.mono e2
  walk_at "rd"
  have k2 := k H2 (e1.trans e2)
  rw [costR_eq] at k2
  push_cast at k2
  exact k2
theorem c_spent {P : Program} {w : World} {K : PySem.W.Frag} {mg : Str → Option Value} {base : Heap} {Z : Cs} (T : TX K mg Z) (c_cost_of_buffers : Cal P w K mg base CX0 1 "cost_of_buffers" ["library", "choices"] (sp_cost_of_buffers K Z)) (c_cost_of_repairs : Cal P w K mg base CX0 2 "cost_of_repairs" ["changes", "chosen"] (sp_cost_of_repairs K Z)) {f : Addr} {fd : FuncData} (g : mg "spent" = some (.ref f)) (F : Fun K "spent" "spent" s_spent f fd) : Cal P w K mg base CX0 3 "spent" ["state"] (sp_spent K Z) :=
  ⟨f, fd, g, F.kp, F.binds (ps := ["state"]) (fun _ _ _ _ _ _ us hl => match us, hl with | [_], _ => rfl), ok_spent T c_cost_of_buffers c_cost_of_repairs F⟩
abbrev s_require_budget : Stmt := top 75
abbrev N_require_budget : List Str := ["state"]
theorem sc_require_budget : FnScope N_require_budget ["state"] (defScope s_require_budget) := ⟨rfl, rfl, rfl, by decide +kernel, rfl, by decide +kernel, by decide +kernel⟩
def sp_require_budget (K : PySem.W.Frag) (Z : Cs) : Sp := sp1 fun x H Q E => ∃ (a : Addr) (d : Design) (l : Ls) (asg : Nat), x = .ref a ∧ StAt K Z H a d l asg ∧ Wf d ∧ (Kpd9.costOf d.library d.choices + Kpd9.repairCost d.repairs d.repairs.applied + asg ≤ d.budget → RetV .non H Q) ∧ (d.budget < Kpd9.costOf d.library d.choices + Kpd9.repairCost d.repairs d.repairs.applied + asg → Rai Z.CR (-75) H E)
set_option maxHeartbeats 4000000 in
theorem ok_require_budget {P : Program} {w : World} {K : PySem.W.Frag} {mg : Str → Option Value} {base : Heap} {Z : Cs} (T : TX K mg Z) (c_require : Cal P w K mg base (L2.CX P w) 3 "require" ["is_right", "code"] (sp_require K Z)) (c_spent : Cal P w K mg base CX0 3 "spent" ["state"] (sp_spent K Z)) {f : Addr} {fd : FuncData} (F : Fun K "require_budget" "require_budget" s_require_budget f fd) : FnOk P w K mg base (L2.CX P w) 4 f fd ["state"] (sp_require_budget K Z) := by
  refine F.okX sc_require_budget len1 (fun cdv A outer s H vs Q E hr h => ⟨_, (pss_one (ps_expr (pe_cS c_require (takes_of rfl rfl rfl rfl) (hr.mono (by decide)) (by rfl) (pa_cons (pe_cmpR op_le (pe_c c_spent (hr.mono (by decide)) (by rfl) (pa_cons (pv 0) pa_nil)) (fldK (K := K) rfl (pv 0) rfl) (nomark _)) (pa_cons (pe_gi T.c_TOO_DEAR (by rfl)) pa_nil))))), ?_⟩)
  obtain ⟨_, rfl, a, d, l, asg, rfl, S, W, k1, k2⟩ := h
  walk_at "rd"
  refine ⟨_, rfl, a, d, l, asg, rfl, S, W, fun H1 e1 => ?_⟩
  have S1 := S.mono e1
  walk_at "rd"
  refine r_reqd (fun h => ?_) (fun h => ?_)
  · walk_at "rd"
    exact k1 (by omega) H1 e1
  · exact fun dx H2 s e => k2 (by omega) dx H2 (e1.trans s) e
theorem c_require_budget {P : Program} {w : World} {K : PySem.W.Frag} {mg : Str → Option Value} {base : Heap} {Z : Cs} (T : TX K mg Z) (c_require : Cal P w K mg base (L2.CX P w) 3 "require" ["is_right", "code"] (sp_require K Z)) (c_spent : Cal P w K mg base CX0 3 "spent" ["state"] (sp_spent K Z)) {f : Addr} {fd : FuncData} (g : mg "require_budget" = some (.ref f)) (F : Fun K "require_budget" "require_budget" s_require_budget f fd) : Cal P w K mg base (L2.CX P w) 4 "require_budget" ["state"] (sp_require_budget K Z) :=
  ⟨f, fd, g, F.kp, F.binds (ps := ["state"]) (fun _ _ _ _ _ _ us hl => match us, hl with | [_], _ => rfl), ok_require_budget T c_require c_spent F⟩
abbrev s_add_node : Stmt := top 76
abbrev N_add_node : List Str := ["state", "n", "parent", "resistance", "capacitance", "is_permitted"]
theorem sc_add_node : FnScope N_add_node ["state", "n"] (defScope s_add_node) := ⟨rfl, rfl, rfl, by decide +kernel, rfl, by decide +kernel, by decide +kernel⟩
def sp_add_node (K : PySem.W.Frag) (Z : Cs) : Sp := sp2 fun x y H Q E => ∃ (a b : Addr) (d : Design) (l : Ls) (p r c t : Nat), x = .ref a ∧ y = .ref b ∧ StAt K Z H a d l (asgOf d) ∧ Ok d ∧ (ownA a l).Nodup ∧ H b = some (.lst ([p, r, c, t].map nv)) ∧ Chg K Z a l H Q E (Kpd9.change d (.addNode p r c t))
set_option maxHeartbeats 4000000 in
theorem ok_add_node {P : Program} {w : World} {K : PySem.W.Frag} {mg : Str → Option Value} {base : Heap} {Z : Cs} (T : TX K mg Z) (c_permitted_count : Cal P w K mg base CX0 1 "permitted_count" ["nodes"] (sp_permitted_count K Z)) (c_require : Cal P w K mg base (L2.CX P w) 3 "require" ["is_right", "code"] (sp_require K Z)) {f : Addr} {fd : FuncData} (F : Fun K "add_node" "add_node" s_add_node f fd) : FnOk P w K mg base (L2.CX P w) 4 f fd ["state", "n"] (sp_add_node K Z) := by
  refine F.okX sc_add_node len2 (fun cdv A outer s H vs Q E hr h => ⟨_, (pss_cons (ps_asg (pv 1) (pg_lst (n := 4) (by rfl) (pgs_cons (pg_name (i := 2) sc_add_node.nd rfl (Or.inl rfl)) (pgs_cons (pg_name (i := 3) sc_add_node.nd rfl (Or.inl rfl)) (pgs_cons (pg_name (i := 4) sc_add_node.nd rfl (Or.inl rfl)) (pgs_cons (pg_name (i := 5) sc_add_node.nd rfl (Or.inl rfl)) pgs_nil))))))
    (pss_cons (ps_expr (pe_cS c_require (takes_of rfl rfl rfl rfl) (hr.mono (by decide)) (by rfl) (pa_cons (pe_cmpR op_lt (pv 2) (pe_callB (lenK (K := K) rfl) (by rfl) T.b_len PySem.boot_len (pa_cons (fldK (K := K) rfl (pv 0) rfl) pa_nil)) (nomark _)) (pa_cons (pe_gi T.c_MISSING (by rfl)) pa_nil))))
    (pss_cons (ps_expr (pe_cS c_require (takes_of rfl rfl rfl rfl) (hr.mono (by decide)) (by rfl) (pa_cons (pe_and (pe_cmpR op_le (pe_callB (call_max2 rfl) (by rfl) T.b_max (by decide +kernel) (pa_cons (pv 3) (pa_cons (pv 4) pa_nil))) (pe_gi T.c_MOST_WIRE (by rfl)) (nomark _)) (pe_one (pe_cmpR op_le (pv 5) pe_int (nomark _)))) (pa_cons (pe_gi T.c_OUT_OF_RANGE (by rfl)) pa_nil))))
    (pss_cons (ps_expr (pe_cS c_require (takes_of rfl rfl rfl rfl) (hr.mono (by decide)) (by rfl) (pa_cons (pe_cmpR op_lt (pe_callB (lenK (K := K) rfl) (by rfl) T.b_len PySem.boot_len (pa_cons (fldK (K := K) rfl (pv 0) rfl) pa_nil)) (pe_gi T.c_MOST_NODES (by rfl)) (nomark _)) (pa_cons (pe_gi T.c_FULL (by rfl)) pa_nil))))
    (pss_cons (ps_expr (pe_cS c_require (takes_of rfl rfl rfl rfl) (hr.mono (by decide)) (by rfl) (pa_cons (pe_cmpR op_le (pe_op op_add (pe_c c_permitted_count (hr.mono (by decide)) (by rfl) (pa_cons (fldK (K := K) rfl (pv 0) rfl) pa_nil)) (pv 5)) (pe_gi T.c_MOST_PERMITTED (by rfl)) (nomark _)) (pa_cons (pe_gi T.c_FULL (by rfl)) pa_nil))))
    (pss_cons (ps_expr (pe_bm PySem.F.plainAttrs_list PySem.F.slot_list_append PySem.F.type_list_append mt_append (fldK (K := K) rfl (pv 0) rfl) (pa_cons (pe_tup (pa_cons (pv 2) (pa_cons (pv 3) (pa_cons (pv 4) (pa_cons (pv 5) (pa_cons pe_int (pa_cons pe_int (pa_cons pe_int pa_nil)))))))) pa_nil)))
    (pss_cons (ps_expr (pe_bm PySem.F.plainAttrs_list PySem.F.slot_list_append PySem.F.type_list_append mt_append (fldK (K := K) rfl (pv 0) rfl) (pa_cons pe_int pa_nil)))
    (pss_one (ps_ret (pe_lst (pa_cons (pe_op op_sub (pe_callB (lenK (K := K) rfl) (by rfl) T.b_len PySem.boot_len (pa_cons (fldK (K := K) rfl (pv 0) rfl) pa_nil)) pe_int) pa_nil))))))))))), ?_⟩)
  obtain ⟨_, _, rfl, a, b, d, l, p, r, c, t, rfl, rfl, S, O, nd, hb, k⟩ := h
  have W := O.wf
  obtain ⟨xs, hx, hA⟩ := S.nodes
  have hl := hA.1
  have hn := W.n1
  have own := own_mem a l
  simp only [Kpd9.change] at k
  walk_at "rd"
  refine r_lstg (xs := [nv p, nv r, nv c, nv t]) (SqL.of hb) rfl ?_
  walk_at "rd"
  refine ⟨l.nodes, xs, rfl, .inl (SqL.of hx), ?_⟩
  rw [hl]
  walk_at "rd"
  refine r_reqd (fun h1 => ?_) (fun h1 => ?_)
  rotate_left
  · rw [if_pos (by omega)] at k
    exact Fail.rai k .refl
  rw [if_neg (by omega)] at k
  walk_at "rd"
  refine ⟨_, _, rfl, ?_⟩
  walk_at "rd"
  refine ifd (fun h2 => ?_) (fun h2 => ?_)
  rotate_left
  · walk_at "rd"
    refine r_reqF ?_
    have h2' : 1000 < r ∨ 1000 < c ∨ 1 < t := by
      split at h2 <;> omega
    rw [if_pos h2'] at k
    exact Fail.rai k .refl
  walk_at "rd"
  refine r_reqd (fun h3 => ?_) (fun h3 => ?_)
  rotate_left
  · rw [if_pos (by omega)] at k
    exact Fail.rai k .refl
  have h23 : ¬ (1000 < r ∨ 1000 < c ∨ 1 < t) := by
    split at h2 <;> omega
  rw [if_neg h23] at k
  walk_at "rd"
  refine ⟨l.nodes, xs, rfl, .inl (SqL.of hx), ?_⟩
  rw [hl]
  walk_at "rd"
  refine r_reqd (fun h4 => ?_) (fun h4 => ?_)
  rotate_left
  · rw [if_pos (.inl (show 10 ≤ d.nodes.length by omega))] at k
    exact Fail.rai k .refl
  walk_at "rd"
  refine ⟨_, rfl, l.nodes, d.nodes, rfl, S.nodes, by omega, fun H1 e1 => ?_⟩
  have S1 := S.mono e1
  have hper := W.per
  walk_at "rd"
  refine r_reqd (fun h5 => ?_) (fun h5 => ?_)
  rotate_left
  · rw [if_pos (.inr ⟨by omega, show 5 ≤ _ by omega⟩)] at k
    exact Fail.rai k (.of e1)
  have h45 : ¬ (Kpd9.maxNodes ≤ d.nodes.length ∨ (t = 1 ∧ Kpd9.maxAllowed ≤ (d.nodes.filter Node.isAllowed).length)) := by
    unfold Kpd9.maxNodes Kpd9.maxAllowed
    omega
  rw [if_neg h45] at k
  walk_at "rd"
  refine ⟨ty_list (e1 _ _ hx), ?_⟩
  walk_at "rd"
  refine ⟨lineR rfl, fun T1 hT1 => ?_⟩
  have e2 := same_new (o := HO.tup [nv p, nv r, nv c, nv t, .int 0, .int 0, .int 0]) hT1
  have S2 := S1.mono e2
  have e12 := e1.trans e2
  walk_at "rd"
  refine ⟨l.nodes, xs, _, rfl, rfl, e12 _ _ hx, line1 (by omega), ?_⟩
  have row : (nodeRow ⟨p, r, c, t == 1, none⟩).map V.int = [nv p, nv r, nv c, nv t, .int 0, .int 0, .int 0] := by
    rcases (show t = 0 ∨ t = 1 by omega) with rfl | rfl <;> rfl
  have S3 := S2.put_nodes nd (All2.snoc (y := (⟨p, r, c, t == 1, none⟩ : Node)) (hA.mono fun _ _ h => Row.mono e12 h) ⟨T1, rfl, by rw [row]; exact SqT.of upd_same⟩)
  walk_at "rd"
  refine ⟨ty_list S3.choices, ?_⟩
  walk_at "rd"
  have clen := (areChoices_ok W.ch).1
  refine ⟨l.choices, _, _, rfl, rfl, S3.choices, line1 (by rw [List.length_map]; dsimp only; omega), ?_⟩
  have ech : d.choices.map nv ++ [V.int 0] = (d.choices ++ [0]).map nv := by rw [List.map_append]; rfl
  have S4 := S3.put_choices nd (ns := d.choices ++ [0])
  rw [← ech] at S4
  walk_at "rd"
  obtain ⟨ys, hy, hB⟩ := S4.nodes
  refine ⟨l.nodes, ys, rfl, .inl (SqL.of hy), ?_⟩
  rw [hB.1]
  walk_at "rd"
  refine ⟨lineR rfl, fun q hq => ?_⟩
  have oe := (ok_addNode O (p := p) (r := r) (c := c) (a := t == 1) (by omega) (by omega) (by omega) (by rcases (show t = 0 ∨ t = 1 by omega) with rfl | rfl <;> simp <;> omega)).2
  refine k q _ l ?_ ?_ ?_
  · exact KpO.fin ((((KpO.of e12).trans (KpO.put own.2.1)).trans (KpO.put own.2.2.2.1))) hq
  · rw [oe]
    exact S4.mono (same_new hq)
  · rw [upd_same]
    dsimp only [resL, Kpd9.number, List.map]
    simp
theorem c_add_node {P : Program} {w : World} {K : PySem.W.Frag} {mg : Str → Option Value} {base : Heap} {Z : Cs} (T : TX K mg Z) (c_permitted_count : Cal P w K mg base CX0 1 "permitted_count" ["nodes"] (sp_permitted_count K Z)) (c_require : Cal P w K mg base (L2.CX P w) 3 "require" ["is_right", "code"] (sp_require K Z)) {f : Addr} {fd : FuncData} (g : mg "add_node" = some (.ref f)) (F : Fun K "add_node" "add_node" s_add_node f fd) : Cal P w K mg base (L2.CX P w) 4 "add_node" ["state", "n"] (sp_add_node K Z) :=
  ⟨f, fd, g, F.kp, F.binds (ps := ["state", "n"]) (fun _ _ _ _ _ _ us hl => match us, hl with | [_, _], _ => rfl), ok_add_node T c_permitted_count c_require F⟩


theorem modify_set {α : Type} {l : List α} {v : Nat} {n : α} {f : α → α} (h : l[v]? = some n) : l.modify v f = l.set v (f n) := by
  refine List.ext_getElem? fun i => ?_
  rw [List.getElem?_modify, List.getElem?_set]
  by_cases e : v = i
  · subst e
    have hl := lt_of_get h
    rw [h, if_pos rfl, if_pos hl]
    show some (if v = v then f n else n) = some (f n)
    rw [if_pos rfl]
  · rw [if_neg e]
    cases l[i]? with
    | none => rfl
    | some x =>
      show some (if v = i then f x else x) = some x
      rw [if_neg e]
abbrev s_set_sink : Stmt := top 77
abbrev N_set_sink : List Str := ["state", "n", "node", "load", "required"]
theorem sc_set_sink : FnScope N_set_sink ["state", "n"] (defScope s_set_sink) := ⟨rfl, rfl, rfl, by decide +kernel, rfl, by decide +kernel, by decide +kernel⟩
def sp_set_sink (K : PySem.W.Frag) (Z : Cs) : Sp := sp2 fun x y H Q E => ∃ (a b : Addr) (d : Design) (l : Ls) (v ld q : Nat), x = .ref a ∧ y = .ref b ∧ StAt K Z H a d l (asgOf d) ∧ Ok d ∧ (ownA a l).Nodup ∧ H b = some (.lst ([v, ld, q].map nv)) ∧ Chg K Z a l H Q E (Kpd9.change d (.setSink v ld q))
set_option maxHeartbeats 4000000 in
theorem ok_set_sink {P : Program} {w : World} {K : PySem.W.Frag} {mg : Str → Option Value} {base : Heap} {Z : Cs} (T : TX K mg Z) (c_require : Cal P w K mg base (L2.CX P w) 3 "require" ["is_right", "code"] (sp_require K Z)) {f : Addr} {fd : FuncData} (F : Fun K "set_sink" "set_sink" s_set_sink f fd) : FnOk P w K mg base (L2.CX P w) 4 f fd ["state", "n"] (sp_set_sink K Z) := by
  refine F.okX sc_set_sink len2 (fun cdv A outer s H vs Q E hr h => ⟨_, (pss_cons (ps_asg (pv 1) (pg_lst (n := 3) (by rfl) (pgs_cons (pg_name (i := 2) sc_set_sink.nd rfl (Or.inl rfl)) (pgs_cons (pg_name (i := 3) sc_set_sink.nd rfl (Or.inl rfl)) (pgs_cons (pg_name (i := 4) sc_set_sink.nd rfl (Or.inl rfl)) pgs_nil)))))
    (pss_cons (ps_expr (pe_cS c_require (takes_of rfl rfl rfl rfl) (hr.mono (by decide)) (by rfl) (pa_cons (pe_cmpR op_lt (pv 2) (pe_callB (lenK (K := K) rfl) (by rfl) T.b_len PySem.boot_len (pa_cons (fldK (K := K) rfl (pv 0) rfl) pa_nil)) (nomark _)) (pa_cons (pe_gi T.c_MISSING (by rfl)) pa_nil))))
    (pss_cons (ps_expr (pe_cS c_require (takes_of rfl rfl rfl rfl) (hr.mono (by decide)) (by rfl) (pa_cons (pe_and (pe_cmpR op_le (pv 3) (pe_gi T.c_MOST_VALUE (by rfl)) (nomark _)) (pe_one (pe_cmpR op_le (pv 4) (pe_gi T.c_MOST_REQUIRED (by rfl)) (nomark _)))) (pa_cons (pe_gi T.c_OUT_OF_RANGE (by rfl)) pa_nil))))
    (pss_cons (ps_asg (pe_op (catA (K := K) rfl) (pe_slice (slA (K := K) rfl) (pe_ix (ixL (K := K) rfl) (fldK (K := K) rfl (pv 0) rfl) (pv 2) (fun _ _ => rfl)) po_none (po_some pe_int)) (pe_tup (pa_cons pe_int (pa_cons (pv 3) (pa_cons (pv 4) pa_nil))))) (pg_sub (fldK (K := K) rfl (pv 0) rfl) (pv 2) set_list))
    (pss_one (ps_ret (pe_lst (pa_cons pe_int pa_nil)))))))), ?_⟩)
  obtain ⟨_, _, rfl, a, b, d, l, v, ld, rq, rfl, rfl, S, O, nd, hb, k⟩ := h
  have W := O.wf
  obtain ⟨xs, hx, hA⟩ := S.nodes
  have hl := hA.1
  have hn := W.n1
  have own := own_mem a l
  simp only [Kpd9.change] at k
  have mv : Kpd9.maxValue = 100000 := rfl
  walk_at "rd"
  refine r_lstg (xs := [nv v, nv ld, nv rq]) (SqL.of hb) rfl ?_
  walk_at "rd"
  refine ⟨l.nodes, xs, rfl, .inl (SqL.of hx), ?_⟩
  rw [hl]
  walk_at "rd"
  refine r_reqd (fun h1 => ?_) (fun h1 => ?_)
  rotate_left
  · rw [if_pos (by omega)] at k
    exact Fail.rai k .refl
  rw [if_neg (by omega)] at k
  walk_at "rd"
  refine ifd (fun h2 => ?_) (fun h2 => ?_)
  rotate_left
  · walk_at "rd"
    refine r_reqF ?_
    rw [if_pos (by omega)] at k
    exact Fail.rai k .refl
  walk_at "rd"
  refine r_reqd (fun h3 => ?_) (fun h3 => ?_)
  rotate_left
  · rw [if_pos (by omega)] at k
    exact Fail.rai k .refl
  rw [if_neg (by omega)] at k
  have en : d.nodes[v]? = some (d.nodes.getD v node0) := by simp [List.getD_eq_getElem?_getD, show v < d.nodes.length by omega]
  generalize d.nodes.getD v node0 = n at en
  obtain ⟨xn, exn, pn, rfl, hpn⟩ := hA.got en
  walk_at "rd"
  refine r_ixL (SqL.of hx) (atI_nat exn) ?_
  walk_at "rd"
  refine r_slT (lo := none) (hi := some 4) (ys := ((nodeRow n).map V.int).take 4) hpn (by intro z; have := z.2; revert this; exact (by decide : ¬ (4 = 7))) rfl fun T1 hT1 => ?_
  walk_at "rd"
  refine ⟨lineR rfl, fun T2 hT2 => ?_⟩
  have f1 := same_new (o := HO.tup (((nodeRow n).map V.int).take 4)) hT1
  have f2 := same_new (o := HO.tup [.int 1, nv ld, nv rq]) hT2
  refine r_catT (SqT.of (f2 _ _ upd_same)) (SqT.of upd_same) (by intro z; cases z) (by intro z; cases z) (lineR rfl) fun T3 hT3 => ?_
  have s4 := (f1.trans f2).trans (same_new (o := HO.tup (((nodeRow n).map V.int).take 4 ++ [.int 1, nv ld, nv rq])) hT3)
  have S4 := S.mono s4
  walk_at "rd"
  refine r_setL (s4 _ _ hx) (ix_nat (by omega)) ?_
  have row : (nodeRow { n with sink := some (ld, rq) }).map V.int = ((nodeRow n).map V.int).take 4 ++ [.int 1, nv ld, nv rq] := rfl
  have S5 := S4.put_nodes nd (All2.set (y := { n with sink := some (ld, rq) }) (x := .ref T3) (hA.mono fun _ _ h => Row.mono s4 h) ⟨T3, rfl, by rw [row]; exact SqT.of upd_same⟩ v)
  have em : d.nodes.modify v (fun n => { n with sink := some (ld, rq) }) = d.nodes.set v { n with sink := some (ld, rq) } := modify_set en
  rw [← em] at S5
  walk_at "rd"
  refine ⟨lineR rfl, fun q hq => ?_⟩
  have oe := (ok_modify O v (f := fun n => { n with sink := some (ld, rq) }) (fun _ => rfl) (fun _ => rfl) (fun _ => rfl)).2
  refine k q _ l ?_ ?_ upd_same
  · exact KpO.fin (((KpO.of s4).trans (KpO.put own.2.1))) hq
  · rw [oe]
    exact S5.mono (same_new hq)
theorem c_set_sink {P : Program} {w : World} {K : PySem.W.Frag} {mg : Str → Option Value} {base : Heap} {Z : Cs} (T : TX K mg Z) (c_require : Cal P w K mg base (L2.CX P w) 3 "require" ["is_right", "code"] (sp_require K Z)) {f : Addr} {fd : FuncData} (g : mg "set_sink" = some (.ref f)) (F : Fun K "set_sink" "set_sink" s_set_sink f fd) : Cal P w K mg base (L2.CX P w) 4 "set_sink" ["state", "n"] (sp_set_sink K Z) :=
  ⟨f, fd, g, F.kp, F.binds (ps := ["state", "n"]) (fun _ _ _ _ _ _ us hl => match us, hl with | [_, _], _ => rfl), ok_set_sink T c_require F⟩
abbrev s_clear_sink : Stmt := top 78
abbrev N_clear_sink : List Str := ["state", "n", "node"]
theorem sc_clear_sink : FnScope N_clear_sink ["state", "n"] (defScope s_clear_sink) := ⟨rfl, rfl, rfl, by decide +kernel, rfl, by decide +kernel, by decide +kernel⟩
def sp_clear_sink (K : PySem.W.Frag) (Z : Cs) : Sp := sp2 fun x y H Q E => ∃ (a b : Addr) (d : Design) (l : Ls) (v : Nat), x = .ref a ∧ y = .ref b ∧ StAt K Z H a d l (asgOf d) ∧ Ok d ∧ (ownA a l).Nodup ∧ H b = some (.lst ([v].map nv)) ∧ Chg K Z a l H Q E (Kpd9.change d (.clearSink v))
set_option maxHeartbeats 4000000 in
theorem ok_clear_sink {P : Program} {w : World} {K : PySem.W.Frag} {mg : Str → Option Value} {base : Heap} {Z : Cs} (T : TX K mg Z) (c_require : Cal P w K mg base (L2.CX P w) 3 "require" ["is_right", "code"] (sp_require K Z)) {f : Addr} {fd : FuncData} (F : Fun K "clear_sink" "clear_sink" s_clear_sink f fd) : FnOk P w K mg base (L2.CX P w) 4 f fd ["state", "n"] (sp_clear_sink K Z) := by
  refine F.okX sc_clear_sink len2 (fun cdv A outer s H vs Q E hr h => ⟨_, (pss_cons (ps_set (i := 2) sc_clear_sink.nd rfl (Or.inl rfl) (pe_ix (ixL (K := K) rfl) (pv 1) pe_int (fun _ _ => rfl)))
    (pss_cons (ps_expr (pe_cS c_require (takes_of rfl rfl rfl rfl) (hr.mono (by decide)) (by rfl) (pa_cons (pe_cmpR op_lt (pv 2) (pe_callB (lenK (K := K) rfl) (by rfl) T.b_len PySem.boot_len (pa_cons (fldK (K := K) rfl (pv 0) rfl) pa_nil)) (nomark _)) (pa_cons (pe_gi T.c_MISSING (by rfl)) pa_nil))))
    (pss_cons (ps_expr (pe_cS c_require (takes_of rfl rfl rfl rfl) (hr.mono (by decide)) (by rfl) (pa_cons (pe_cmpR op_eq (pe_ix (ixT (K := K) rfl) (pe_ix (ixL (K := K) rfl) (fldK (K := K) rfl (pv 0) rfl) (pv 2) (fun _ _ => rfl)) pe_int (fun _ _ => rfl)) pe_int (nomark _)) (pa_cons (pe_gi T.c_NO_SUCH (by rfl)) pa_nil))))
    (pss_cons (ps_asg (pe_op (catA (K := K) rfl) (pe_slice (slA (K := K) rfl) (pe_ix (ixL (K := K) rfl) (fldK (K := K) rfl (pv 0) rfl) (pv 2) (fun _ _ => rfl)) po_none (po_some pe_int)) (pe_tup (pa_cons pe_int (pa_cons pe_int (pa_cons pe_int pa_nil))))) (pg_sub (fldK (K := K) rfl (pv 0) rfl) (pv 2) set_list))
    (pss_one (ps_ret (pe_lst (pa_cons pe_int pa_nil)))))))), ?_⟩)
  obtain ⟨_, _, rfl, a, b, d, l, v, rfl, rfl, S, O, nd, hb, k⟩ := h
  have W := O.wf
  obtain ⟨xs, hx, hA⟩ := S.nodes
  have hl := hA.1
  have hn := W.n1
  have own := own_mem a l
  simp only [Kpd9.change] at k
  walk_at "rd"
  refine r_ixL (SqL.of hb) (v := nv v) rfl ?_
  walk_at "rd"
  refine ⟨l.nodes, xs, rfl, .inl (SqL.of hx), ?_⟩
  rw [hl]
  walk_at "rd"
  refine r_reqd (fun h1 => ?_) (fun h1 => ?_)
  rotate_left
  · rw [List.getElem?_eq_none (by omega)] at k
    exact Fail.rai k .refl
  have en : d.nodes[v]? = some (d.nodes.getD v node0) := by simp [List.getD_eq_getElem?_getD, show v < d.nodes.length by omega]
  generalize d.nodes.getD v node0 = n at en
  rw [en] at k
  dsimp only at k
  obtain ⟨xn, exn, pn, rfl, hpn⟩ := hA.got en
  walk_at "rd"
  refine r_ixL (SqL.of hx) (atI_nat exn) ?_
  walk_at "rd"
  refine r_ixT (v := .int (if n.sink.isSome then 1 else 0)) hpn rfl ?_
  walk_at "rd"
  cases hs : n.sink with
  | none =>
    refine r_reqF ?_
    rw [hs] at k
    exact Fail.rai k .refl
  | some sk =>
    refine r_req (fun _ => ?_) (fun h => by cases h)
    rw [hs] at k
    walk_at "rd"
    refine r_ixL (SqL.of hx) (atI_nat exn) ?_
    walk_at "rd"
    refine r_slT (lo := none) (hi := some 4) (ys := ((nodeRow n).map V.int).take 4) hpn (by intro z; have := z.2; revert this; exact (by decide : ¬ (4 = 7))) rfl fun T1 hT1 => ?_
    walk_at "rd"
    refine ⟨lineR rfl, fun T2 hT2 => ?_⟩
    have f1 := same_new (o := HO.tup (((nodeRow n).map V.int).take 4)) hT1
    have f2 := same_new (o := HO.tup [.int 0, .int 0, .int 0]) hT2
    refine r_catT (SqT.of (f2 _ _ upd_same)) (SqT.of upd_same) (by intro z; cases z) (by intro z; cases z) (lineR rfl) fun T3 hT3 => ?_
    have s4 := (f1.trans f2).trans (same_new (o := HO.tup (((nodeRow n).map V.int).take 4 ++ [.int 0, .int 0, .int 0])) hT3)
    have S4 := S.mono s4
    walk_at "rd"
    refine r_setL (s4 _ _ hx) (ix_nat (by omega)) ?_
    have row : (nodeRow { n with sink := none }).map V.int = ((nodeRow n).map V.int).take 4 ++ [.int 0, .int 0, .int 0] := rfl
    have S5 := S4.put_nodes nd (All2.set (y := { n with sink := none }) (x := .ref T3) (hA.mono fun _ _ h => Row.mono s4 h) ⟨T3, rfl, by rw [row]; exact SqT.of upd_same⟩ v)
    have em : d.nodes.modify v (fun n => { n with sink := none }) = d.nodes.set v { n with sink := none } := modify_set en
    rw [← em] at S5
    walk_at "rd"
    refine ⟨lineR rfl, fun q hq => ?_⟩
    have oe := (ok_modify O v (f := fun n => { n with sink := none }) (fun _ => rfl) (fun _ => rfl) (fun _ => rfl)).2
    refine k q _ l ?_ ?_ upd_same
    · exact KpO.fin (((KpO.of s4).trans (KpO.put own.2.1))) hq
    · rw [oe]
      exact S5.mono (same_new hq)
theorem c_clear_sink {P : Program} {w : World} {K : PySem.W.Frag} {mg : Str → Option Value} {base : Heap} {Z : Cs} (T : TX K mg Z) (c_require : Cal P w K mg base (L2.CX P w) 3 "require" ["is_right", "code"] (sp_require K Z)) {f : Addr} {fd : FuncData} (g : mg "clear_sink" = some (.ref f)) (F : Fun K "clear_sink" "clear_sink" s_clear_sink f fd) : Cal P w K mg base (L2.CX P w) 4 "clear_sink" ["state", "n"] (sp_clear_sink K Z) :=
  ⟨f, fd, g, F.kp, F.binds (ps := ["state", "n"]) (fun _ _ _ _ _ _ us hl => match us, hl with | [_, _], _ => rfl), ok_clear_sink T c_require F⟩
abbrev s_add_buffer : Stmt := top 79
abbrev N_add_buffer : List Str := ["state", "n", "capacitance", "resistance", "delay", "cost"]
theorem sc_add_buffer : FnScope N_add_buffer ["state", "n"] (defScope s_add_buffer) := ⟨rfl, rfl, rfl, by decide +kernel, rfl, by decide +kernel, by decide +kernel⟩
def sp_add_buffer (K : PySem.W.Frag) (Z : Cs) : Sp := sp2 fun x y H Q E => ∃ (a b : Addr) (d : Design) (l : Ls) (c r t co : Nat), x = .ref a ∧ y = .ref b ∧ StAt K Z H a d l (asgOf d) ∧ Ok d ∧ (ownA a l).Nodup ∧ H b = some (.lst ([c, r, t, co].map nv)) ∧ Chg K Z a l H Q E (Kpd9.change d (.addBuffer c r t co))
set_option maxHeartbeats 4000000 in
theorem ok_add_buffer {P : Program} {w : World} {K : PySem.W.Frag} {mg : Str → Option Value} {base : Heap} {Z : Cs} (T : TX K mg Z) (c_require : Cal P w K mg base (L2.CX P w) 3 "require" ["is_right", "code"] (sp_require K Z)) {f : Addr} {fd : FuncData} (F : Fun K "add_buffer" "add_buffer" s_add_buffer f fd) : FnOk P w K mg base (L2.CX P w) 4 f fd ["state", "n"] (sp_add_buffer K Z) := by
  refine F.okX sc_add_buffer len2 (fun cdv A outer s H vs Q E hr h => ⟨_, (pss_cons (ps_asg (pv 1) (pg_lst (n := 4) (by rfl) (pgs_cons (pg_name (i := 2) sc_add_buffer.nd rfl (Or.inl rfl)) (pgs_cons (pg_name (i := 3) sc_add_buffer.nd rfl (Or.inl rfl)) (pgs_cons (pg_name (i := 4) sc_add_buffer.nd rfl (Or.inl rfl)) (pgs_cons (pg_name (i := 5) sc_add_buffer.nd rfl (Or.inl rfl)) pgs_nil))))))
    (pss_cons (ps_expr (pe_cS c_require (takes_of rfl rfl rfl rfl) (hr.mono (by decide)) (by rfl) (pa_cons (pe_and (pe_cmpR op_le (pe_callB (call_max3 rfl) (by rfl) T.b_max (by decide +kernel) (pa_cons (pv 2) (pa_cons (pv 4) (pa_cons (pv 5) pa_nil)))) (pe_gi T.c_MOST_VALUE (by rfl)) (nomark _)) (pe_one (pe_cmpR op_le (pv 3) (pe_gi T.c_MOST_WIRE (by rfl)) (nomark _)))) (pa_cons (pe_gi T.c_OUT_OF_RANGE (by rfl)) pa_nil))))
    (pss_cons (ps_expr (pe_cS c_require (takes_of rfl rfl rfl rfl) (hr.mono (by decide)) (by rfl) (pa_cons (pe_cmpR op_lt (pe_callB (lenK (K := K) rfl) (by rfl) T.b_len PySem.boot_len (pa_cons (fldK (K := K) rfl (pv 0) rfl) pa_nil)) (pe_gi T.c_MOST_BUFFERS (by rfl)) (nomark _)) (pa_cons (pe_gi T.c_FULL (by rfl)) pa_nil))))
    (pss_cons (ps_expr (pe_bm PySem.F.plainAttrs_list PySem.F.slot_list_append PySem.F.type_list_append mt_append (fldK (K := K) rfl (pv 0) rfl) (pa_cons (pe_tup (pa_cons (pv 2) (pa_cons (pv 3) (pa_cons (pv 4) (pa_cons (pv 5) pa_nil))))) pa_nil)))
    (pss_one (ps_ret (pe_lst (pa_cons (pe_op op_sub (pe_callB (lenK (K := K) rfl) (by rfl) T.b_len PySem.boot_len (pa_cons (fldK (K := K) rfl (pv 0) rfl) pa_nil)) pe_int) pa_nil)))))))), ?_⟩)
  obtain ⟨_, _, rfl, a, b, d, l, c, r, t, co, rfl, rfl, S, O, nd, hb, k⟩ := h
  have W := O.wf
  obtain ⟨xs, hx, hA⟩ := S.library
  have hl := hA.1
  have hn := W.lib
  have own := own_mem a l
  simp only [Kpd9.change] at k
  have mv : Kpd9.maxValue = 100000 := rfl
  have ml : Kpd9.maxLibrary = 3 := rfl
  walk_at "rd"
  refine r_lstg (xs := [nv c, nv r, nv t, nv co]) (SqL.of hb) rfl ?_
  walk_at "rd"
  refine ⟨_, _, _, rfl, ?_⟩
  walk_at "rd"
  unfold max3
  refine ifd (fun h2 => ?_) (fun h2 => ?_)
  rotate_left
  · walk_at "rd"
    refine r_reqF ?_
    have h2' : Kpd9.maxValue < c ∨ 1000 < r ∨ Kpd9.maxValue < t ∨ Kpd9.maxValue < co := by
      split at h2 <;> split at h2 <;> omega
    rw [if_pos h2'] at k
    exact Fail.rai k .refl
  walk_at "rd"
  refine r_reqd (fun h3 => ?_) (fun h3 => ?_)
  rotate_left
  · rw [if_pos (by omega)] at k
    exact Fail.rai k .refl
  have h23 : ¬ (Kpd9.maxValue < c ∨ 1000 < r ∨ Kpd9.maxValue < t ∨ Kpd9.maxValue < co) := by
    split at h2 <;> split at h2 <;> omega
  rw [if_neg h23] at k
  walk_at "rd"
  refine ⟨l.library, xs, rfl, .inl (SqL.of hx), ?_⟩
  rw [hl]
  walk_at "rd"
  refine r_reqd (fun h4 => ?_) (fun h4 => ?_)
  rotate_left
  · rw [if_pos (by omega)] at k
    exact Fail.rai k .refl
  rw [if_neg (by omega)] at k
  walk_at "rd"
  refine ⟨ty_list hx, ?_⟩
  walk_at "rd"
  refine ⟨lineR rfl, fun T1 hT1 => ?_⟩
  have e2 := same_new (o := HO.tup [nv c, nv r, nv t, nv co]) hT1
  have S2 := S.mono e2
  walk_at "rd"
  refine ⟨l.library, xs, _, rfl, rfl, e2 _ _ hx, line1 (by omega), ?_⟩
  have S3 := S2.put_library nd (All2.snoc (y := (⟨c, r, t, co⟩ : Buffer)) (hA.mono fun _ _ h => Row.mono e2 h) ⟨T1, rfl, SqT.of upd_same⟩)
  walk_at "rd"
  obtain ⟨ys, hy, hB⟩ := S3.library
  refine ⟨l.library, ys, rfl, .inl (SqL.of hy), ?_⟩
  rw [hB.1]
  walk_at "rd"
  refine ⟨lineR rfl, fun q hq => ?_⟩
  have oe := (ok_addBuffer O (b := ⟨c, r, t, co⟩) (by dsimp only; omega) (by omega)).2
  refine k q _ l ?_ ?_ ?_
  · exact KpO.fin (((KpO.of e2).trans (KpO.put own.2.2.1))) hq
  · rw [oe]
    exact S3.mono (same_new hq)
  · rw [upd_same]
    dsimp only [resL, Kpd9.number, List.map]
    simp
theorem c_add_buffer {P : Program} {w : World} {K : PySem.W.Frag} {mg : Str → Option Value} {base : Heap} {Z : Cs} (T : TX K mg Z) (c_require : Cal P w K mg base (L2.CX P w) 3 "require" ["is_right", "code"] (sp_require K Z)) {f : Addr} {fd : FuncData} (g : mg "add_buffer" = some (.ref f)) (F : Fun K "add_buffer" "add_buffer" s_add_buffer f fd) : Cal P w K mg base (L2.CX P w) 4 "add_buffer" ["state", "n"] (sp_add_buffer K Z) :=
  ⟨f, fd, g, F.kp, F.binds (ps := ["state", "n"]) (fun _ _ _ _ _ _ us hl => match us, hl with | [_, _], _ => rfl), ok_add_buffer T c_require F⟩


theorem stF_len {d : Design} {l : Ls} {asg : Nat} : (stF d l asg).length < 1000 := (by decide : 12 < 1000)
abbrev s_set_buffers : Stmt := top 80
abbrev N_set_buffers : List Str := ["state", "choices"]
theorem sc_set_buffers : FnScope N_set_buffers ["state", "choices"] (defScope s_set_buffers) := ⟨rfl, rfl, rfl, by decide +kernel, rfl, by decide +kernel, by decide +kernel⟩
def sp_set_buffers (K : PySem.W.Frag) (Z : Cs) : Sp := sp2 fun x y H Q E => ∃ (a b : Addr) (d : Design) (l : Ls) (c : List Nat), x = .ref a ∧ y = .ref b ∧ StAt K Z H a d l (asgOf d) ∧ Ok d ∧ H b = some (.lst (c.map nv)) ∧ c.length ≤ 1000 ∧ Chg K Z a l H Q E (Kpd9.change d (.setBuffers c))
set_option maxHeartbeats 4000000 in
theorem ok_set_buffers {P : Program} {w : World} {K : PySem.W.Frag} {mg : Str → Option Value} {base : Heap} {Z : Cs} (T : TX K mg Z) (c_are_choices : Cal P w K mg base CX0 1 "are_choices" ["nodes", "library", "numbers"] (sp_are_choices K Z)) (c_cost_of_buffers : Cal P w K mg base CX0 1 "cost_of_buffers" ["library", "choices"] (sp_cost_of_buffers K Z)) (c_require : Cal P w K mg base (L2.CX P w) 3 "require" ["is_right", "code"] (sp_require K Z)) (c_require_budget : Cal P w K mg base (L2.CX P w) 4 "require_budget" ["state"] (sp_require_budget K Z)) {f : Addr} {fd : FuncData} (F : Fun K "set_buffers" "set_buffers" s_set_buffers f fd) : FnOk P w K mg base (L2.CX P w) 5 f fd ["state", "choices"] (sp_set_buffers K Z) := by
  refine F.okX sc_set_buffers len2 (fun cdv A outer s H vs Q E hr h => ⟨_, (pss_cons (ps_expr (pe_cS c_require (takes_of rfl rfl rfl rfl) (hr.mono (by decide)) (by rfl) (pa_cons (pe_c c_are_choices (hr.mono (by decide)) (by rfl) (pa_cons (fldK (K := K) rfl (pv 0) rfl) (pa_cons (fldK (K := K) rfl (pv 0) rfl) (pa_cons (pv 1) pa_nil)))) (pa_cons (pe_gi T.c_OUT_OF_RANGE (by rfl)) pa_nil))))
    (pss_cons (ps_fld (pv 0) (pe_callTy call_list_of (by rfl) T.b_list (by decide +kernel) (pa_cons (pv 1) pa_nil)) rfl)
    (pss_cons (ps_expr (pe_cS c_require_budget (takes_of rfl rfl rfl rfl) (hr.mono (by decide)) (by rfl) (pa_cons (pv 0) pa_nil)))
    (pss_one (ps_ret (pe_lst (pa_cons (pe_c c_cost_of_buffers (hr.mono (by decide)) (by rfl) (pa_cons (fldK (K := K) rfl (pv 0) rfl) (pa_cons (pv 1) pa_nil))) pa_nil))))))), ?_⟩)
  obtain ⟨_, _, rfl, a, b, d, l, c, rfl, rfl, S, O, hb, hcl, k⟩ := h
  have W := O.wf
  have hn := W.n1
  have hlb := W.lib
  have own := own_mem a l
  simp only [Kpd9.change] at k
  walk_at "rd"
  refine ⟨_, _, _, rfl, l.nodes, l.library, b, d.nodes, d.library, c, rfl, rfl, rfl, S.nodes, S.library, hb, by omega, by omega, fun H1 e1 => ?_⟩
  have S1 := S.mono e1
  walk_at "rd"
  refine r_req (fun h1 => ?_) (fun h1 => ?_)
  rotate_left
  · rw [if_pos h1] at k
    exact Fail.rai k (.of e1)
  rw [if_neg (by rw [h1]; decide)] at k
  have ok := ok_setBuffers O h1
  have cok := areChoices_ok h1
  walk_at "rd"
  refine ⟨b, _, rfl, .inl (SqL.of (e1 _ _ hb)), fun p hp => ?_⟩
  have e2 := same_new (o := HO.lst (c.map nv)) hp
  have S2 := S1.mono e2
  obtain ⟨dx, ho⟩ := S2.obj
  walk_at "rd"
  refine r_fput ho T.clS T.nS_choices stF_len (gs := stF { d with choices := c, spent := d.spent - Kpd9.costOf d.library d.choices + Kpd9.costOf d.library c } { l with choices := p } (asgOf d)) rfl ?_
  have S3 : StAt K Z _ a { d with choices := c, spent := d.spent - Kpd9.costOf d.library d.choices + Kpd9.costOf d.library c } { l with choices := p } (asgOf d) := StAt.fields ho S2.nodes S2.library upd_same S2.changes S2.conflicts S2.needs S2.spares
  have sum := ok.1.sum
  rw [ok.2] at sum
  dsimp only at sum
  have kp : KpO (ownA a l) H _ := (KpO.of (e1.trans e2)).trans (KpO.put (o := .ins Z.CS dx (stF { d with choices := c, spent := d.spent - Kpd9.costOf d.library d.choices + Kpd9.costOf d.library c } { l with choices := p } (asgOf d))) own.1)
  walk_at "rd"
  refine ⟨_, rfl, a, _, _, _, rfl, S3, ok.1.wf, fun hle H4 e4 => ?_, fun hgt => ?_⟩
  rotate_left
  · dsimp only at hgt
    rw [if_pos (by omega)] at k
    exact Fail.rai k kp
  dsimp only at hle
  rw [if_neg (by omega)] at k
  have S4 := S3.mono e4
  have hb4 := e4 _ _ (put_lst (C' := Z.CS) (dx' := dx) (fs' := stF { d with choices := c, spent := d.spent - Kpd9.costOf d.library d.choices + Kpd9.costOf d.library c } { l with choices := p } (asgOf d)) ho (e2 _ _ (e1 _ _ hb)))
  walk_at "rd"
  refine ⟨_, _, rfl, l.library, b, d.library, c, rfl, rfl, S4.library, hb4, hcl, cok.2, fun H5 e5 => ?_⟩
  walk_at "rd"
  refine ⟨lineR rfl, fun q hq => ?_⟩
  refine k q _ { l with choices := p } (KpO.finN (kp.trans (.of (e4.trans e5))) hq (fun b hb => by
    simp only [ownA, List.mem_cons, List.not_mem_nil, or_false] at hb ⊢
    rcases hb with rfl | rfl | rfl | rfl | rfl | rfl | rfl | rfl
    · exact .inl (.inl rfl)
    · exact .inl (by simp)
    · exact .inl (by simp)
    · exact .inr (e1.free hp)
    · exact .inl (by simp)
    · exact .inl (by simp)
    · exact .inl (by simp)
    · exact .inl (by simp))) ?_ upd_same
  rw [ok.2]
  exact (S4.mono e5).mono (same_new hq)
theorem c_set_buffers {P : Program} {w : World} {K : PySem.W.Frag} {mg : Str → Option Value} {base : Heap} {Z : Cs} (T : TX K mg Z) (c_are_choices : Cal P w K mg base CX0 1 "are_choices" ["nodes", "library", "numbers"] (sp_are_choices K Z)) (c_cost_of_buffers : Cal P w K mg base CX0 1 "cost_of_buffers" ["library", "choices"] (sp_cost_of_buffers K Z)) (c_require : Cal P w K mg base (L2.CX P w) 3 "require" ["is_right", "code"] (sp_require K Z)) (c_require_budget : Cal P w K mg base (L2.CX P w) 4 "require_budget" ["state"] (sp_require_budget K Z)) {f : Addr} {fd : FuncData} (g : mg "set_buffers" = some (.ref f)) (F : Fun K "set_buffers" "set_buffers" s_set_buffers f fd) : Cal P w K mg base (L2.CX P w) 5 "set_buffers" ["state", "choices"] (sp_set_buffers K Z) :=
  ⟨f, fd, g, F.kp, F.binds (ps := ["state", "choices"]) (fun _ _ _ _ _ _ us hl => match us, hl with | [_, _], _ => rfl), ok_set_buffers T c_are_choices c_cost_of_buffers c_require c_require_budget F⟩
abbrev s_add_violation : Stmt := top 81
abbrev N_add_violation : List Str := ["state"]
theorem sc_add_violation : FnScope N_add_violation ["state"] (defScope s_add_violation) := ⟨rfl, rfl, rfl, by decide +kernel, rfl, by decide +kernel, by decide +kernel⟩
def sp_add_violation (K : PySem.W.Frag) (Z : Cs) : Sp := sp1 fun x H Q E => ∃ (a : Addr) (d : Design) (l : Ls), x = .ref a ∧ StAt K Z H a d l (asgOf d) ∧ Ok d ∧ Chg K Z a l H Q E (Kpd9.change d .addViolation)
set_option maxHeartbeats 4000000 in
theorem ok_add_violation {P : Program} {w : World} {K : PySem.W.Frag} {mg : Str → Option Value} {base : Heap} {Z : Cs} (T : TX K mg Z) (c_require : Cal P w K mg base (L2.CX P w) 3 "require" ["is_right", "code"] (sp_require K Z)) {f : Addr} {fd : FuncData} (F : Fun K "add_violation" "add_violation" s_add_violation f fd) : FnOk P w K mg base (L2.CX P w) 4 f fd ["state"] (sp_add_violation K Z) := by
  refine F.okX sc_add_violation len1 (fun cdv A outer s H vs Q E hr h => ⟨_, (pss_cons (ps_expr (pe_cS c_require (takes_of rfl rfl rfl rfl) (hr.mono (by decide)) (by rfl) (pa_cons (pe_cmpR op_lt (fldK (K := K) rfl (pv 0) rfl) (pe_gi T.c_MOST_VIOLATIONS (by rfl)) (nomark _)) (pa_cons (pe_gi T.c_FULL (by rfl)) pa_nil))))
    (pss_cons (ps_fldaug (pv 0) pe_int in_add)
    (pss_one (ps_ret (pe_lst (pa_cons (pe_op op_sub (fldK (K := K) rfl (pv 0) rfl) pe_int) pa_nil)))))), ?_⟩)
  obtain ⟨_, rfl, a, d, l, rfl, S, O, k⟩ := h
  have W := O.wf
  have own := own_mem a l
  have mv : Kpd9.maxViolations = 8 := rfl
  simp only [Kpd9.change] at k
  walk_at "rd"
  refine r_reqd (fun h1 => ?_) (fun h1 => ?_)
  rotate_left
  · rw [if_pos (by omega)] at k
    exact Fail.rai k .refl
  rw [if_neg (by omega)] at k
  have ok := ok_addViolation O (by omega)
  obtain ⟨dx, ho⟩ := S.obj
  walk_at "rd"
  unfold sFldAug
  walk_at "rd"
  refine ⟨a, Z.CS, dx, _, nv d.repairs.violations, rfl, ho, T.clS, T.nS_violations, rfl, ?_⟩
  walk_at "rd"
  refine ⟨_, _, rfl, rfl, dx, _, ho, stF_len, ?_⟩
  have S2 : StAt K Z _ a { d with repairs := { d.repairs with violations := d.repairs.violations + 1 } } l (asgOf d) := StAt.fields ho S.nodes S.library S.choices S.changes S.conflicts S.needs S.spares
  have eput : putF "violations" (.int ((d.repairs.violations : Int) + 1)) (stF d l (asgOf d)) = stF { d with repairs := { d.repairs with violations := d.repairs.violations + 1 } } l (asgOf d) := rfl
  rw [eput]
  walk_at "rd"
  refine ⟨lineR rfl, fun q hq => ?_⟩
  refine k q _ l (KpO.fin (KpO.put own.1) hq) ?_ ?_
  · rw [ok.2]
    exact S2.mono (same_new hq)
  · rw [upd_same]
    dsimp only [resL, Kpd9.number, List.map]
    simp
theorem c_add_violation {P : Program} {w : World} {K : PySem.W.Frag} {mg : Str → Option Value} {base : Heap} {Z : Cs} (T : TX K mg Z) (c_require : Cal P w K mg base (L2.CX P w) 3 "require" ["is_right", "code"] (sp_require K Z)) {f : Addr} {fd : FuncData} (g : mg "add_violation" = some (.ref f)) (F : Fun K "add_violation" "add_violation" s_add_violation f fd) : Cal P w K mg base (L2.CX P w) 4 "add_violation" ["state"] (sp_add_violation K Z) :=
  ⟨f, fd, g, F.kp, F.binds (ps := ["state"]) (fun _ _ _ _ _ _ us hl => match us, hl with | [_], _ => rfl), ok_add_violation T c_require F⟩
abbrev s_add_change : Stmt := top 82
abbrev N_add_change : List Str := ["state", "n", "cost", "repaired"]
theorem sc_add_change : FnScope N_add_change ["state", "n"] (defScope s_add_change) := ⟨rfl, rfl, rfl, by decide +kernel, rfl, by decide +kernel, by decide +kernel⟩
def sp_add_change (K : PySem.W.Frag) (Z : Cs) : Sp := sp2 fun x y H Q E => ∃ (a b : Addr) (d : Design) (l : Ls) (co z : Nat), x = .ref a ∧ y = .ref b ∧ StAt K Z H a d l (asgOf d) ∧ Ok d ∧ (ownA a l).Nodup ∧ H b = some (.lst ([co, z].map nv)) ∧ Chg K Z a l H Q E (Kpd9.change d (.addChange co z))
set_option maxHeartbeats 4000000 in
theorem ok_add_change {P : Program} {w : World} {K : PySem.W.Frag} {mg : Str → Option Value} {base : Heap} {Z : Cs} (T : TX K mg Z) (c_all_of : Cal P w K mg base CX0 1 "all_of" ["count"] (sp_all_of K Z)) (c_require : Cal P w K mg base (L2.CX P w) 3 "require" ["is_right", "code"] (sp_require K Z)) {f : Addr} {fd : FuncData} (F : Fun K "add_change" "add_change" s_add_change f fd) : FnOk P w K mg base (L2.CX P w) 4 f fd ["state", "n"] (sp_add_change K Z) := by
  refine F.okX sc_add_change len2 (fun cdv A outer s H vs Q E hr h => ⟨_, (pss_cons (ps_asg (pv 1) (pg_lst (n := 2) (by rfl) (pgs_cons (pg_name (i := 2) sc_add_change.nd rfl (Or.inl rfl)) (pgs_cons (pg_name (i := 3) sc_add_change.nd rfl (Or.inl rfl)) pgs_nil))))
    (pss_cons (ps_expr (pe_cS c_require (takes_of rfl rfl rfl rfl) (hr.mono (by decide)) (by rfl) (pa_cons (pe_and (pe_cmpR op_le (pv 2) (pe_gi T.c_MOST_VALUE (by rfl)) (nomark _)) (pe_one (pe_cmpR op_le (pv 3) (pe_c c_all_of (hr.mono (by decide)) (by rfl) (pa_cons (fldK (K := K) rfl (pv 0) rfl) pa_nil)) (nomark _)))) (pa_cons (pe_gi T.c_OUT_OF_RANGE (by rfl)) pa_nil))))
    (pss_cons (ps_expr (pe_cS c_require (takes_of rfl rfl rfl rfl) (hr.mono (by decide)) (by rfl) (pa_cons (pe_cmpR op_lt (pe_callB (lenK (K := K) rfl) (by rfl) T.b_len PySem.boot_len (pa_cons (fldK (K := K) rfl (pv 0) rfl) pa_nil)) (pe_gi T.c_MOST_CHANGES (by rfl)) (nomark _)) (pa_cons (pe_gi T.c_FULL (by rfl)) pa_nil))))
    (pss_cons (ps_expr (pe_bm PySem.F.plainAttrs_list PySem.F.slot_list_append PySem.F.type_list_append mt_append (fldK (K := K) rfl (pv 0) rfl) (pa_cons (pe_tup (pa_cons (pv 2) (pa_cons (pv 3) pa_nil))) pa_nil)))
    (pss_one (ps_ret (pe_lst (pa_cons (pe_op op_sub (pe_callB (lenK (K := K) rfl) (by rfl) T.b_len PySem.boot_len (pa_cons (fldK (K := K) rfl (pv 0) rfl) pa_nil)) pe_int) pa_nil)))))))), ?_⟩)
  obtain ⟨_, _, rfl, a, b, d, l, co, z, rfl, rfl, S, O, nd, hb, k⟩ := h
  have W := O.wf
  have hv := W.vio
  obtain ⟨xs, hx, hA⟩ := S.changes
  have hl := hA.1
  have hn := W.chg
  have own := own_mem a l
  have mv : Kpd9.maxValue = 100000 := rfl
  have mc : Kpd9.maxChanges = 9 := rfl
  have hp : 0 < 2 ^ d.repairs.violations := Nat.pow_pos (by decide)
  simp only [Kpd9.change] at k
  walk_at "rd"
  refine r_lstg (xs := [nv co, nv z]) (SqL.of hb) rfl ?_
  walk_at "rd"
  refine ifd (fun h2 => ?_) (fun h2 => ?_)
  rotate_left
  · walk_at "rd"
    refine r_reqF ?_
    rw [if_pos (.inl (by omega))] at k
    exact Fail.rai k .refl
  walk_at "rd"
  refine ⟨_, rfl, d.repairs.violations, rfl, by omega, ?_⟩
  walk_at "rd"
  refine r_reqd (fun h3 => ?_) (fun h3 => ?_)
  rotate_left
  · rw [if_pos (.inr (by generalize 2 ^ d.repairs.violations = m at *; omega))] at k
    exact Fail.rai k .refl
  have h23 : ¬ (Kpd9.maxValue < co ∨ 2 ^ d.repairs.violations ≤ z) := by
    generalize 2 ^ d.repairs.violations = m at *
    omega
  rw [if_neg h23] at k
  walk_at "rd"
  refine ⟨l.changes, xs, rfl, .inl (SqL.of hx), ?_⟩
  rw [hl]
  walk_at "rd"
  refine r_reqd (fun h4 => ?_) (fun h4 => ?_)
  rotate_left
  · rw [if_pos (by omega)] at k
    exact Fail.rai k .refl
  rw [if_neg (by omega)] at k
  walk_at "rd"
  refine ⟨ty_list hx, ?_⟩
  walk_at "rd"
  refine ⟨lineR rfl, fun T1 hT1 => ?_⟩
  have e2 := same_new (o := HO.tup [nv co, nv z]) hT1
  have S2 := S.mono e2
  walk_at "rd"
  refine ⟨l.changes, xs, _, rfl, rfl, e2 _ _ hx, line1 (by omega), ?_⟩
  have S3 := S2.put_changes nd (All2.snoc (y := (⟨co, z⟩ : Change)) (hA.mono fun _ _ h => Row.mono e2 h) ⟨T1, rfl, SqT.of upd_same⟩)
  walk_at "rd"
  obtain ⟨ys, hy, hB⟩ := S3.changes
  refine ⟨l.changes, ys, rfl, .inl (SqL.of hy), ?_⟩
  rw [hB.1]
  walk_at "rd"
  refine ⟨lineR rfl, fun q hq => ?_⟩
  have oe := (ok_addChange O (c := ⟨co, z⟩) (by omega)).2
  refine k q _ l ?_ ?_ ?_
  · exact KpO.fin (((KpO.of e2).trans (KpO.put own.2.2.2.2.1))) hq
  · rw [oe]
    exact S3.mono (same_new hq)
  · rw [upd_same]
    dsimp only [resL, Kpd9.number, List.map]
    simp
theorem c_add_change {P : Program} {w : World} {K : PySem.W.Frag} {mg : Str → Option Value} {base : Heap} {Z : Cs} (T : TX K mg Z) (c_all_of : Cal P w K mg base CX0 1 "all_of" ["count"] (sp_all_of K Z)) (c_require : Cal P w K mg base (L2.CX P w) 3 "require" ["is_right", "code"] (sp_require K Z)) {f : Addr} {fd : FuncData} (g : mg "add_change" = some (.ref f)) (F : Fun K "add_change" "add_change" s_add_change f fd) : Cal P w K mg base (L2.CX P w) 4 "add_change" ["state", "n"] (sp_add_change K Z) :=
  ⟨f, fd, g, F.kp, F.binds (ps := ["state", "n"]) (fun _ _ _ _ _ _ us hl => match us, hl with | [_, _], _ => rfl), ok_add_change T c_all_of c_require F⟩


def cfD (c : Nat × Nat) : PyData := .tuple [.int c.1, .int c.2]
theorem cfD_eq (x y : Nat × Nat) : PyData.eqv (cfD x) (cfD y) = (x == y) := by
  unfold cfD
  simp only [PyData.eqv, PyData.eqvAll, Bool.and_true]
  rw [Bool.eq_iff_iff]
  simp only [Bool.and_eq_true, beq_iff_eq, Prod.ext_iff]
  omega
theorem lay_cfs : ∀ l : List (Nat × Nat), PyData.canLayAll0 (l.map cfD) = true
  | [] => rfl
  | c :: r => by
    rw [List.map_cons, PyData.canLayAll0, lay_cfs r]
    rfl
theorem shaped_cf (c : Nat × Nat) : SeqAt.shaped (cfD c) = true := by
  unfold SeqAt.shaped cfD
  simp [PyData.canLay0, PyData.canLayAll0, PyData.depth, PyData.depthAll]
theorem depth_cfs : ∀ l : List (Nat × Nat), PyData.depthAll (l.map cfD) ≤ 2
  | [] => by simp [PyData.depthAll]
  | c :: r => by
    have := depth_cfs r
    rw [List.map_cons, PyData.depthAll]
    have e : (cfD c).depth = 1 := by simp [cfD, PyData.depth, PyData.depthAll]
    omega
theorem shaped_cfs (l : List (Nat × Nat)) : SeqAt.shaped (.list (l.map cfD)) = true := by
  have := depth_cfs l
  unfold SeqAt.shaped
  rw [Bool.and_eq_true, decide_eq_true_eq]
  refine ⟨?_, ?_⟩
  · rw [PyData.canLay0]
    exact lay_cfs l
  · rw [PyData.depth]
    omega
theorem dp_cf {K : PySem.W.Frag} {H : Hp} {p : Addr} {c : Nat × Nat} (h : SqT K H p [nv c.1, nv c.2]) : Dp K H (.ref p) (cfD c) := .tup h (.cons (.int _) (.cons (.int _) .nil))
theorem dp_cfs {K : PySem.W.Frag} {H : Hp} : ∀ {xs : List V} {cs : List (Nat × Nat)}, All2 (fun x y => Row K H x (cfRow y)) xs cs → DpAll K H xs (cs.map cfD)
  | [], [], _ => .nil
  | [], _ :: _, h => by have := h.1; simp at this
  | _ :: _, [], h => by have := h.1; simp at this
  | x :: xs, c :: cs, h => by
    obtain ⟨p, rfl, t⟩ := h.2 0 x c rfl rfl
    exact .cons (dp_cf t) (dp_cfs ⟨by have := h.1; simpa using this, fun i a b e1 e2 => h.2 (i + 1) a b e1 e2⟩)
theorem any_cf (cs : List (Nat × Nat)) (c : Nat × Nat) : ((cs.map cfD).any fun z => PyData.eqv z (cfD c)) = cs.contains c := by
  induction cs with
  | nil => rfl
  | cons x r ih =>
    rw [List.map_cons, List.any_cons, ih, cfD_eq, List.contains_cons]
    congr 1
    rw [Bool.eq_iff_iff, beq_iff_eq, beq_iff_eq]
    exact eq_comm
abbrev s_add_conflict : Stmt := top 83
abbrev N_add_conflict : List Str := ["state", "n", "first", "second"]
theorem sc_add_conflict : FnScope N_add_conflict ["state", "n"] (defScope s_add_conflict) := ⟨rfl, rfl, rfl, by decide +kernel, rfl, by decide +kernel, by decide +kernel⟩
def sp_add_conflict (K : PySem.W.Frag) (Z : Cs) : Sp := sp2 fun x y H Q E => ∃ (a b : Addr) (d : Design) (l : Ls) (i j : Nat), x = .ref a ∧ y = .ref b ∧ StAt K Z H a d l (asgOf d) ∧ Ok d ∧ (ownA a l).Nodup ∧ H b = some (.lst ([i, j].map nv)) ∧ Chg K Z a l H Q E (Kpd9.change d (.addConflict i j))
set_option maxHeartbeats 4000000 in
theorem ok_add_conflict {P : Program} {w : World} {K : PySem.W.Frag} {mg : Str → Option Value} {base : Heap} {Z : Cs} (T : TX K mg Z) (c_contains : Cal P w K mg base CX0 1 "contains" ["number", "index"] (sp_contains K Z)) (c_require : Cal P w K mg base (L2.CX P w) 3 "require" ["is_right", "code"] (sp_require K Z)) {f : Addr} {fd : FuncData} (F : Fun K "add_conflict" "add_conflict" s_add_conflict f fd) : FnOk P w K mg base (L2.CX P w) 4 f fd ["state", "n"] (sp_add_conflict K Z) := by
  refine F.okX sc_add_conflict len2 (fun cdv A outer s H vs Q E hr h => ⟨_, (pss_cons (ps_par (i := 2) (j := 3) (by rfl) sc_add_conflict.nd rfl rfl (by decide) rfl rfl (pa_cons (pe_callB (cr_min rfl) (by rfl) T.b_min (by decide +kernel) (pa_cons (pv 1) pa_nil)) (pa_cons (pe_callB (cr_max rfl) (by rfl) T.b_max (by decide +kernel) (pa_cons (pv 1) pa_nil)) pa_nil)) (by rfl))
    (pss_cons (ps_expr (pe_cS c_require (takes_of rfl rfl rfl rfl) (hr.mono (by decide)) (by rfl) (pa_cons (pe_cmpR op_lt (pv 3) (pe_callB (lenK (K := K) rfl) (by rfl) T.b_len PySem.boot_len (pa_cons (fldK (K := K) rfl (pv 0) rfl) pa_nil)) (nomark _)) (pa_cons (pe_gi T.c_MISSING (by rfl)) pa_nil))))
    (pss_cons (ps_expr (pe_cS c_require (takes_of rfl rfl rfl rfl) (hr.mono (by decide)) (by rfl) (pa_cons (pe_cmpR op_ne (pv 2) (pv 3) (nomark _)) (pa_cons (pe_gi T.c_OUT_OF_RANGE (by rfl)) pa_nil))))
    (pss_cons (ps_expr (pe_cS c_require (takes_of rfl rfl rfl rfl) (hr.mono (by decide)) (by rfl) (pa_cons (pe_cmpR (notInD (K := K) rfl (by have := hr.un; change (A.deeper _).units + 65 < cLine; omega)) (pe_tup (pa_cons (pv 2) (pa_cons (pv 3) pa_nil))) (fldK (K := K) rfl (pv 0) rfl) (by rfl)) (pa_cons (pe_gi T.c_TWICE (by rfl)) pa_nil))))
    (pss_cons (ps_expr (pe_cS c_require (takes_of rfl rfl rfl rfl) (hr.mono (by decide)) (by rfl) (pa_cons (pe_cmpR op_lt (pe_callB (lenK (K := K) rfl) (by rfl) T.b_len PySem.boot_len (pa_cons (fldK (K := K) rfl (pv 0) rfl) pa_nil)) (pe_gi T.c_MOST_CONFLICTS (by rfl)) (nomark _)) (pa_cons (pe_gi T.c_FULL (by rfl)) pa_nil))))
    (pss_cons (ps_expr (pe_cS c_require (takes_of rfl rfl rfl rfl) (hr.mono (by decide)) (by rfl) (pa_cons (pe_or (pe_not (pe_c c_contains (hr.mono (by decide)) (by rfl) (pa_cons (fldK (K := K) rfl (pv 0) rfl) (pa_cons (pv 2) pa_nil)))) (pe_one (pe_not (pe_c c_contains (hr.mono (by decide)) (by rfl) (pa_cons (fldK (K := K) rfl (pv 0) rfl) (pa_cons (pv 3) pa_nil)))))) (pa_cons (pe_gi T.c_CONFLICTING (by rfl)) pa_nil))))
    (pss_cons (ps_expr (pe_bm PySem.F.plainAttrs_list PySem.F.slot_list_append PySem.F.type_list_append mt_append (fldK (K := K) rfl (pv 0) rfl) (pa_cons (pe_tup (pa_cons (pv 2) (pa_cons (pv 3) pa_nil))) pa_nil)))
    (pss_one (ps_ret (pe_lst (pa_cons (pe_callB (lenK (K := K) rfl) (by rfl) T.b_len PySem.boot_len (pa_cons (fldK (K := K) rfl (pv 0) rfl) pa_nil)) pa_nil))))))))))), ?_⟩)
  obtain ⟨_, _, rfl, a, b, d, l, i, j, rfl, rfl, S, O, nd, hb, k⟩ := h
  have W := O.wf
  obtain ⟨xs, hx, hA⟩ := S.conflicts
  obtain ⟨zs, hzs, hC⟩ := S.changes
  have hl := hA.1
  have hn := W.cfl
  have hcn := W.chg
  have own := own_mem a l
  have mc : Kpd9.maxConflicts = 10 := rfl
  simp only [Kpd9.change] at k
  walk_at "rd"
  refine ⟨b, [(i : Int), (j : Int)], rfl, SqL.of hb, by simp, fun m1 h1 h2 => ?_⟩
  have em1 : m1 = ((min i j : Nat) : Int) := by
    have q1 := h2 _ (by simp : (i : Int) ∈ [(i : Int), (j : Int)])
    have q2 := h2 _ (by simp : (j : Int) ∈ [(i : Int), (j : Int)])
    have q3 : m1 = (i : Int) ∨ m1 = (j : Int) := by simpa using h1
    omega
  subst em1
  walk_at "rd"
  refine ⟨b, [(i : Int), (j : Int)], rfl, SqL.of hb, by simp, fun m2 h3 h4 => ?_⟩
  have em2 : m2 = ((max i j : Nat) : Int) := by
    have q1 := h4 _ (by simp : (i : Int) ∈ [(i : Int), (j : Int)])
    have q2 := h4 _ (by simp : (j : Int) ∈ [(i : Int), (j : Int)])
    have q3 : m2 = (i : Int) ∨ m2 = (j : Int) := by simpa using h3
    omega
  subst em2
  walk_at "rd"
  refine ⟨l.changes, zs, rfl, .inl (SqL.of hzs), ?_⟩
  rw [hC.1]
  walk_at "rd"
  refine r_reqd (fun c1 => ?_) (fun c1 => ?_)
  rotate_left
  · rw [if_pos (by omega)] at k
    exact Fail.rai k .refl
  rw [if_neg (by omega)] at k
  walk_at "rd"
  refine r_req (fun c2 => ?_) (fun c2 => ?_)
  rotate_left
  · have e : i = j := by
      have := of_decide_eq_true (by simpa using c2 : decide (V.int ((min i j : Nat) : Int) = V.int ((max i j : Nat) : Int)) = true)
      have := V.int.inj this
      omega
    rw [if_pos e] at k
    exact Fail.rai k .refl
  have hij : ¬ i = j := fun e => by
    subst e
    simp at c2
  rw [if_neg hij] at k
  walk_at "rd"
  refine ⟨lineR rfl, fun T0 hT0 => ?_⟩
  have f0 := same_new (o := HO.tup [nv (min i j), nv (max i j)]) hT0
  have S0 := S.mono f0
  walk_at "rd"
  refine ⟨cfD (min i j, max i j), d.repairs.conflicts.map cfD, dp_cf (SqT.of upd_same), .lst (SqL.of (f0 _ _ hx)) (dp_cfs (hA.mono fun _ _ h => h.mono f0)), shaped_cf _, shaped_cfs _, ?_⟩
  rw [any_cf]
  walk_at "rd"
  refine r_req (fun c3 => ?_) (fun c3 => ?_)
  rotate_left
  · rw [if_pos (by simpa using c3)] at k
    exact Fail.rai k (.of f0)
  rw [if_neg (by simpa using c3)] at k
  walk_at "rd"
  refine ⟨l.conflicts, xs, rfl, .inl (SqL.of (f0 _ _ hx)), ?_⟩
  rw [hl]
  walk_at "rd"
  refine r_reqd (fun c4 => ?_) (fun c4 => ?_)
  rotate_left
  · rw [if_pos (by omega)] at k
    exact Fail.rai k (.of f0)
  rw [if_neg (by omega)] at k
  walk_at "rd"
  refine ⟨_, _, rfl, _, _, rfl, rfl, ?_⟩
  walk_at "rd"
  have done : ¬ (d.repairs.applied.testBit i = true ∧ d.repairs.applied.testBit j = true) → Done K Z a l H Q { d with repairs := { d.repairs with conflicts := d.repairs.conflicts ++ [(min i j, max i j)] } } [((d.repairs.conflicts.length + 1 : Nat) : Int)] := fun q => by
    rw [if_neg q] at k
    exact k
  have fail : (d.repairs.applied.testBit i = true ∧ d.repairs.applied.testBit j = true) → Fail Z a l H E (-16) := fun q => by
    rw [if_pos q] at k
    exact k
  have bits : (d.repairs.applied.testBit (min i j) = true ∧ d.repairs.applied.testBit (max i j) = true) ↔ (d.repairs.applied.testBit i = true ∧ d.repairs.applied.testBit j = true) := by
    rcases Nat.le_total i j with h | h
    · rw [Nat.min_eq_left h, Nat.max_eq_right h]
    · rw [Nat.min_eq_right h, Nat.max_eq_left h]
      exact and_comm
  have oe := (ok_addConflict O (c := (min i j, max i j)) (by omega)).2
  have S0r : All2 (fun x n => Row K (upd H T0 (HO.tup [nv (min i j), nv (max i j)])) x (cfRow n)) xs d.repairs.conflicts := hA.mono fun _ _ h => Row.mono f0 h
  refine ifb (fun b1 => ?_) (fun b1 => ?_)
  rotate_left
  · have b1' : d.repairs.applied.testBit (min i j) = true := by simpa using b1
    walk_at "rd"
    refine ⟨_, _, rfl, _, _, rfl, rfl, ?_⟩
    walk_at "rd"
    refine r_req (fun b2 => ?_) (fun b2 => ?_)
    rotate_left
    · have b2' : d.repairs.applied.testBit (max i j) = true := by simpa using b2
      exact Fail.rai (fail (bits.mp ⟨b1', b2'⟩)) (.of f0)
    have b2' : d.repairs.applied.testBit (max i j) = false := by simpa using b2
    have k2 := done fun q => by
      have := (bits.mpr q).2
      rw [b2'] at this
      cases this
    walk_at "rd"
    refine ⟨ty_list (f0 _ _ hx), ?_⟩
    walk_at "rd"
    refine ⟨lineR rfl, fun T1 hT1 => ?_⟩
    have e2 := same_new (o := HO.tup [nv (min i j), nv (max i j)]) hT1
    have S2 := S0.mono e2
    walk_at "rd"
    refine ⟨l.conflicts, xs, _, rfl, rfl, e2 _ _ (f0 _ _ hx), line1 (by omega), ?_⟩
    have S3 := S2.put_conflicts nd (All2.snoc (y := (min i j, max i j)) (S0r.mono fun _ _ h => Row.mono e2 h) ⟨T1, rfl, SqT.of upd_same⟩)
    walk_at "rd"
    obtain ⟨ys, hy, hB⟩ := S3.conflicts
    refine ⟨l.conflicts, ys, rfl, .inl (SqL.of hy), ?_⟩
    rw [hB.1]
    walk_at "rd"
    refine ⟨lineR rfl, fun q hq => ?_⟩
    refine k2 q _ l ?_ ?_ ?_
    · exact KpO.fin (((KpO.of (f0.trans e2)).trans (KpO.put own.2.2.2.2.2.1))) hq
    · rw [oe]
      exact S3.mono (same_new hq)
    · rw [upd_same]
      dsimp only [List.map]
      simp
  · have b1' : d.repairs.applied.testBit (min i j) = false := by simpa using b1
    walk_at "rd"
    refine r_req (fun _ => ?_) (fun h => by cases h)
    have k2 := done fun q => by
      have := (bits.mpr q).1
      rw [b1'] at this
      cases this
    walk_at "rd"
    refine ⟨ty_list (f0 _ _ hx), ?_⟩
    walk_at "rd"
    refine ⟨lineR rfl, fun T1 hT1 => ?_⟩
    have e2 := same_new (o := HO.tup [nv (min i j), nv (max i j)]) hT1
    have S2 := S0.mono e2
    walk_at "rd"
    refine ⟨l.conflicts, xs, _, rfl, rfl, e2 _ _ (f0 _ _ hx), line1 (by omega), ?_⟩
    have S3 := S2.put_conflicts nd (All2.snoc (y := (min i j, max i j)) (S0r.mono fun _ _ h => Row.mono e2 h) ⟨T1, rfl, SqT.of upd_same⟩)
    walk_at "rd"
    obtain ⟨ys, hy, hB⟩ := S3.conflicts
    refine ⟨l.conflicts, ys, rfl, .inl (SqL.of hy), ?_⟩
    rw [hB.1]
    walk_at "rd"
    refine ⟨lineR rfl, fun q hq => ?_⟩
    refine k2 q _ l ?_ ?_ ?_
    · exact KpO.fin (((KpO.of (f0.trans e2)).trans (KpO.put own.2.2.2.2.2.1))) hq
    · rw [oe]
      exact S3.mono (same_new hq)
    · rw [upd_same]
      dsimp only [List.map]
      simp
theorem c_add_conflict {P : Program} {w : World} {K : PySem.W.Frag} {mg : Str → Option Value} {base : Heap} {Z : Cs} (T : TX K mg Z) (c_contains : Cal P w K mg base CX0 1 "contains" ["number", "index"] (sp_contains K Z)) (c_require : Cal P w K mg base (L2.CX P w) 3 "require" ["is_right", "code"] (sp_require K Z)) {f : Addr} {fd : FuncData} (g : mg "add_conflict" = some (.ref f)) (F : Fun K "add_conflict" "add_conflict" s_add_conflict f fd) : Cal P w K mg base (L2.CX P w) 4 "add_conflict" ["state", "n"] (sp_add_conflict K Z) :=
  ⟨f, fd, g, F.kp, F.binds (ps := ["state", "n"]) (fun _ _ _ _ _ _ us hl => match us, hl with | [_, _], _ => rfl), ok_add_conflict T c_contains c_require F⟩


abbrev s_apply_repair : Stmt := top 84
abbrev N_apply_repair : List Str := ["state", "n", "chosen"]
theorem sc_apply_repair : FnScope N_apply_repair ["state", "n"] (defScope s_apply_repair) := ⟨rfl, rfl, rfl, by decide +kernel, rfl, by decide +kernel, by decide +kernel⟩
def sp_apply_repair (K : PySem.W.Frag) (Z : Cs) : Sp := sp2 fun x y H Q E => ∃ (a b : Addr) (d : Design) (l : Ls) (z : Nat), x = .ref a ∧ y = .ref b ∧ StAt K Z H a d l (asgOf d) ∧ Ok d ∧ H b = some (.lst ([z].map nv)) ∧ Chg K Z a l H Q E (Kpd9.change d (.applyRepair z))
set_option maxHeartbeats 4000000 in
theorem ok_apply_repair {P : Program} {w : World} {K : PySem.W.Frag} {mg : Str → Option Value} {base : Heap} {Z : Cs} (T : TX K mg Z) (c_all_of : Cal P w K mg base CX0 1 "all_of" ["count"] (sp_all_of K Z)) (c_first_conflict : Cal P w K mg base CX0 2 "first_conflict" ["state", "chosen"] (sp_first_conflict K Z)) (c_require : Cal P w K mg base (L2.CX P w) 3 "require" ["is_right", "code"] (sp_require K Z)) (c_require_budget : Cal P w K mg base (L2.CX P w) 4 "require_budget" ["state"] (sp_require_budget K Z)) (c_unrepaired : Cal P w K mg base CX0 3 "unrepaired" ["state", "chosen"] (sp_unrepaired K Z)) {f : Addr} {fd : FuncData} (F : Fun K "apply_repair" "apply_repair" s_apply_repair f fd) : FnOk P w K mg base (L2.CX P w) 5 f fd ["state", "n"] (sp_apply_repair K Z) := by
  refine F.okX sc_apply_repair len2 (fun cdv A outer s H vs Q E hr h => ⟨_, (pss_cons (ps_set (i := 2) sc_apply_repair.nd rfl (Or.inl rfl) (pe_ix (ixL (K := K) rfl) (pv 1) pe_int (fun _ _ => rfl)))
    (pss_cons (ps_expr (pe_cS c_require (takes_of rfl rfl rfl rfl) (hr.mono (by decide)) (by rfl) (pa_cons (pe_and (pe_cmpR op_le (pv 2) (pe_c c_all_of (hr.mono (by decide)) (by rfl) (pa_cons (pe_callB (lenK (K := K) rfl) (by rfl) T.b_len PySem.boot_len (pa_cons (fldK (K := K) rfl (pv 0) rfl) pa_nil)) pa_nil)) (nomark _)) (pe_one (pe_cmpR op_eq (pe_op op_and (pv 2) (fldK (K := K) rfl (pv 0) rfl)) pe_int (nomark _)))) (pa_cons (pe_gi T.c_OUT_OF_RANGE (by rfl)) pa_nil))))
    (pss_cons (ps_expr (pe_cS c_require (takes_of rfl rfl rfl rfl) (hr.mono (by decide)) (by rfl) (pa_cons (pe_cmpR op_isN (pe_c c_first_conflict (hr.mono (by decide)) (by rfl) (pa_cons (pv 0) (pa_cons (pv 2) pa_nil))) pe_non (nomark _)) (pa_cons (pe_gi T.c_CONFLICTING (by rfl)) pa_nil))))
    (pss_cons (ps_fld (pv 0) (pe_op op_or (fldK (K := K) rfl (pv 0) rfl) (pv 2)) rfl)
    (pss_cons (ps_expr (pe_cS c_require_budget (takes_of rfl rfl rfl rfl) (hr.mono (by decide)) (by rfl) (pa_cons (pv 0) pa_nil)))
    (pss_one (ps_ret (pe_lst (pa_cons (pe_c c_unrepaired (hr.mono (by decide)) (by rfl) (pa_cons (pv 0) (pa_cons pe_int pa_nil))) pa_nil))))))))), ?_⟩)
  obtain ⟨_, _, rfl, a, b, d, l, z, rfl, rfl, S, O, hb, k⟩ := h
  have W := O.wf
  obtain ⟨xs, hx, hA⟩ := S.changes
  have hn := W.chg
  have own := own_mem a l
  have hp : 0 < 2 ^ d.repairs.changes.length := Nat.pow_pos (by decide)
  simp only [Kpd9.change] at k
  walk_at "rd"
  refine r_ixL (SqL.of hb) (v := nv z) rfl ?_
  walk_at "rd"
  refine ⟨l.changes, xs, rfl, .inl (SqL.of hx), ?_⟩
  rw [hA.1]
  walk_at "rd"
  refine ⟨_, rfl, d.repairs.changes.length, rfl, by omega, ?_⟩
  walk_at "rd"
  refine ifd (fun h1 => ?_) (fun h1 => ?_)
  rotate_left
  · walk_at "rd"
    refine r_reqF ?_
    rw [if_pos (.inl (by generalize 2 ^ d.repairs.changes.length = m at *; omega))] at k
    exact Fail.rai k .refl
  have h1' : z < 2 ^ d.repairs.changes.length := by
    generalize 2 ^ d.repairs.changes.length = m at *
    omega
  walk_at "rd"
  rw [band]
  refine r_req (fun h2 => ?_) (fun h2 => ?_)
  rotate_left
  · have ne : z &&& d.repairs.applied ≠ 0 := fun e => by
      rw [e] at h2
      exact absurd h2 (by decide)
    rw [if_pos (.inr ne)] at k
    exact Fail.rai k .refl
  have h2' : z &&& d.repairs.applied = 0 := by
    have := V.int.inj (of_decide_eq_true h2)
    omega
  rw [if_neg (fun q => q.elim (fun q => Nat.lt_irrefl _ (Nat.lt_of_lt_of_le h1' q)) fun q => q h2')] at k
  walk_at "rd"
  refine ⟨_, _, rfl, a, d, l, asgOf d, z, rfl, rfl, S, fun v H1 e1 hv => ?_⟩
  have S1 := S.mono e1
  walk_at "rd"
  cases hc : Kpd9.conflictIn d.repairs (z ||| d.repairs.applied) with
  | some c =>
    rw [hc] at hv k
    obtain ⟨p, rfl, hp⟩ := hv
    refine ⟨rfl, ?_⟩
    walk_at "rd"
    refine r_reqF ?_
    exact Fail.rai k (.of e1)
  | none =>
    rw [hc] at hv k
    have ev : v = .non := hv
    subst ev
    refine ⟨rfl, ?_⟩
    walk_at "rd"
    refine r_req (fun _ => ?_) (fun h => by cases h)
    have ok := ok_applyRepair O h1' h2'
    obtain ⟨dx, ho⟩ := S1.obj
    walk_at "rd"
    rw [bor, Nat.or_comm]
    refine r_fput ho T.clS T.nS_applied stF_len (gs := stF { d with repairs := { d.repairs with applied := z ||| d.repairs.applied }, spent := d.spent + Kpd9.repairCost d.repairs z } l (asgOf d)) rfl ?_
    have S3 : StAt K Z _ a { d with repairs := { d.repairs with applied := z ||| d.repairs.applied }, spent := d.spent + Kpd9.repairCost d.repairs z } l (asgOf d) := StAt.fields ho S1.nodes S1.library S1.choices S1.changes S1.conflicts S1.needs S1.spares
    have sum := ok.1.sum
    rw [ok.2] at sum
    dsimp only at sum
    have kp : KpO (ownA a l) H _ := (KpO.of e1).trans (KpO.put (o := .ins Z.CS dx (stF { d with repairs := { d.repairs with applied := z ||| d.repairs.applied }, spent := d.spent + Kpd9.repairCost d.repairs z } l (asgOf d))) own.1)
    walk_at "rd"
    refine ⟨_, rfl, a, _, _, _, rfl, S3, ok.1.wf, fun hle H4 e4 => ?_, fun hgt => ?_⟩
    rotate_left
    · dsimp only at hgt
      rw [if_neg (by simp), if_pos (by omega)] at k
      exact Fail.rai k kp
    dsimp only at hle
    rw [if_neg (by simp), if_neg (by omega)] at k
    have S4 := S3.mono e4
    walk_at "rd"
    refine ⟨_, _, rfl, a, _, _, _, 0, rfl, rfl, S4, ok.1.wf, fun H5 e5 => ?_⟩
    walk_at "rd"
    refine ⟨lineR rfl, fun q hq => ?_⟩
    refine k q _ l (KpO.fin (kp.trans (.of (e4.trans e5))) hq) ?_ ?_
    · rw [ok.2]
      exact (S4.mono e5).mono (same_new hq)
    · rw [upd_same]
      dsimp only [resL, Kpd9.number, List.map]
      rw [Nat.zero_or]
      rfl
theorem c_apply_repair {P : Program} {w : World} {K : PySem.W.Frag} {mg : Str → Option Value} {base : Heap} {Z : Cs} (T : TX K mg Z) (c_all_of : Cal P w K mg base CX0 1 "all_of" ["count"] (sp_all_of K Z)) (c_first_conflict : Cal P w K mg base CX0 2 "first_conflict" ["state", "chosen"] (sp_first_conflict K Z)) (c_require : Cal P w K mg base (L2.CX P w) 3 "require" ["is_right", "code"] (sp_require K Z)) (c_require_budget : Cal P w K mg base (L2.CX P w) 4 "require_budget" ["state"] (sp_require_budget K Z)) (c_unrepaired : Cal P w K mg base CX0 3 "unrepaired" ["state", "chosen"] (sp_unrepaired K Z)) {f : Addr} {fd : FuncData} (g : mg "apply_repair" = some (.ref f)) (F : Fun K "apply_repair" "apply_repair" s_apply_repair f fd) : Cal P w K mg base (L2.CX P w) 5 "apply_repair" ["state", "n"] (sp_apply_repair K Z) :=
  ⟨f, fd, g, F.kp, F.binds (ps := ["state", "n"]) (fun _ _ _ _ _ _ us hl => match us, hl with | [_, _], _ => rfl), ok_apply_repair T c_all_of c_first_conflict c_require c_require_budget c_unrepaired F⟩
abbrev s_are_place : Stmt := top 85
abbrev N_are_place : List Str := ["n"]
theorem sc_are_place : FnScope N_are_place ["n"] (defScope s_are_place) := ⟨rfl, rfl, rfl, by decide +kernel, rfl, by decide +kernel, by decide +kernel⟩
def sp_are_place (K : PySem.W.Frag) (Z : Cs) : Sp := sp1 fun x H Q _ => ∃ (b : Addr) (i y z : Nat), x = .ref b ∧ H b = some (.lst ([i, y, z].map nv)) ∧ Q (.bl (decide (i ≤ 9 ∧ y ≤ 100000 ∧ z ≤ 100000))) H
set_option maxHeartbeats 4000000 in
theorem ok_are_place {P : Program} {w : World} {K : PySem.W.Frag} {mg : Str → Option Value} {base : Heap} {Z : Cs} (T : TX K mg Z)  {f : Addr} {fd : FuncData} (F : Fun K "are_place" "are_place" s_are_place f fd) : FnOk P w K mg base CX0 1 f fd ["n"] (sp_are_place K Z) := by
  refine F.ok sc_are_place len1 (fun cdv A outer s H vs Q E hr h => ⟨_, (pss_one (ps_ret (pe_and (pe_cmpR op_le (pe_ix (ixL (K := K) rfl) (pv 0) pe_int (fun _ _ => rfl)) (pe_gi T.c_MOST_KIND (by rfl)) (nomark _)) (pe_one (pe_cmpR op_le (pe_callB (call_max2 rfl) (by rfl) T.b_max (by decide +kernel) (pa_cons (pe_ix (ixL (K := K) rfl) (pv 0) pe_int (fun _ _ => rfl)) (pa_cons (pe_ix (ixL (K := K) rfl) (pv 0) pe_int (fun _ _ => rfl)) pa_nil))) (pe_gi T.c_MOST_VALUE (by rfl)) (nomark _)))))), ?_⟩)
  obtain ⟨_, rfl, b, i, y, z, rfl, hb, k⟩ := h
  walk_at "rd"
  refine r_ixL (SqL.of hb) (v := nv i) rfl ?_
  walk_at "rd"
  refine ifd (fun h1 => ?_) (fun h1 => ?_)
  · walk_at "rd"
    refine r_ixL (SqL.of hb) (v := nv y) rfl ?_
    walk_at "rd"
    refine r_ixL (SqL.of hb) (v := nv z) rfl ?_
    walk_at "rd"
    refine ⟨_, _, rfl, ?_⟩
    walk_at "rd"
    have e : decide ((if (z : Int) > (y : Int) then (z : Int) else (y : Int)) ≤ 100000) = decide (i ≤ 9 ∧ y ≤ 100000 ∧ z ≤ 100000) := by
      refine decide_eq_decide.mpr ?_
      split <;> omega
    rw [e]
    exact k
  · walk_at "rd"
    have e : decide (i ≤ 9 ∧ y ≤ 100000 ∧ z ≤ 100000) = false := decide_eq_false (by omega)
    rw [e] at k
    exact k
theorem c_are_place {P : Program} {w : World} {K : PySem.W.Frag} {mg : Str → Option Value} {base : Heap} {Z : Cs} (T : TX K mg Z)  {f : Addr} {fd : FuncData} (g : mg "are_place" = some (.ref f)) (F : Fun K "are_place" "are_place" s_are_place f fd) : Cal P w K mg base CX0 1 "are_place" ["n"] (sp_are_place K Z) :=
  ⟨f, fd, g, F.kp, F.binds (ps := ["n"]) (fun _ _ _ _ _ _ us hl => match us, hl with | [_], _ => rfl), ok_are_place T  F⟩
abbrev s_add_need : Stmt := top 86
abbrev N_add_need : List Str := ["state", "n"]
theorem sc_add_need : FnScope N_add_need ["state", "n"] (defScope s_add_need) := ⟨rfl, rfl, rfl, by decide +kernel, rfl, by decide +kernel, by decide +kernel⟩
def sp_add_need (K : PySem.W.Frag) (Z : Cs) : Sp := sp2 fun x y H Q E => ∃ (a b : Addr) (d : Design) (l : Ls) (i u v : Nat), x = .ref a ∧ y = .ref b ∧ StAt K Z H a d l (asgOf d) ∧ Ok d ∧ (ownA a l).Nodup ∧ H b = some (.lst ([i, u, v].map nv)) ∧ Chg K Z a l H Q E (Kpd9.change d (.addNeed i u v))
set_option maxHeartbeats 4000000 in
theorem ok_add_need {P : Program} {w : World} {K : PySem.W.Frag} {mg : Str → Option Value} {base : Heap} {Z : Cs} (T : TX K mg Z) (c_are_place : Cal P w K mg base CX0 1 "are_place" ["n"] (sp_are_place K Z)) (c_require : Cal P w K mg base (L2.CX P w) 3 "require" ["is_right", "code"] (sp_require K Z)) {f : Addr} {fd : FuncData} (F : Fun K "add_need" "add_need" s_add_need f fd) : FnOk P w K mg base (L2.CX P w) 4 f fd ["state", "n"] (sp_add_need K Z) := by
  refine F.okX sc_add_need len2 (fun cdv A outer s H vs Q E hr h => ⟨_, (pss_cons (ps_expr (pe_cS c_require (takes_of rfl rfl rfl rfl) (hr.mono (by decide)) (by rfl) (pa_cons (pe_c c_are_place (hr.mono (by decide)) (by rfl) (pa_cons (pv 1) pa_nil)) (pa_cons (pe_gi T.c_OUT_OF_RANGE (by rfl)) pa_nil))))
    (pss_cons (ps_expr (pe_cS c_require (takes_of rfl rfl rfl rfl) (hr.mono (by decide)) (by rfl) (pa_cons (pe_cmpR op_lt (pe_callB (lenK (K := K) rfl) (by rfl) T.b_len PySem.boot_len (pa_cons (fldK (K := K) rfl (pv 0) rfl) pa_nil)) (pe_gi T.c_MOST_NEEDS (by rfl)) (nomark _)) (pa_cons (pe_gi T.c_FULL (by rfl)) pa_nil))))
    (pss_cons (ps_expr (pe_bm PySem.F.plainAttrs_list PySem.F.slot_list_append PySem.F.type_list_append mt_append (fldK (K := K) rfl (pv 0) rfl) (pa_cons (pe_tup (pa_cons (pe_ix (ixL (K := K) rfl) (pv 1) pe_int (fun _ _ => rfl)) (pa_cons (pe_ix (ixL (K := K) rfl) (pv 1) pe_int (fun _ _ => rfl)) (pa_cons (pe_ix (ixL (K := K) rfl) (pv 1) pe_int (fun _ _ => rfl)) pa_nil)))) pa_nil)))
    (pss_one (ps_ret (pe_lst (pa_cons (pe_op op_sub (pe_callB (lenK (K := K) rfl) (by rfl) T.b_len PySem.boot_len (pa_cons (fldK (K := K) rfl (pv 0) rfl) pa_nil)) pe_int) pa_nil))))))), ?_⟩)
  obtain ⟨_, _, rfl, a, b, d, l, i, u, v, rfl, rfl, S, O, nd, hb, k⟩ := h
  have W := O.wf
  obtain ⟨xs, hx, hA⟩ := S.needs
  have hn := W.need
  have own := own_mem a l
  have mv : Kpd9.maxValue = 100000 := rfl
  have mn : Kpd9.maxNeeds = 5 := rfl
  simp only [Kpd9.change] at k
  walk_at "rd"
  refine ⟨_, rfl, b, i, u, v, rfl, hb, ?_⟩
  walk_at "rd"
  refine r_reqd (fun h1 => ?_) (fun h1 => ?_)
  rotate_left
  · rw [if_pos (by omega)] at k
    exact Fail.rai k .refl
  rw [if_neg (by omega)] at k
  walk_at "rd"
  refine ⟨l.needs, xs, rfl, .inl (SqL.of hx), ?_⟩
  rw [hA.1]
  walk_at "rd"
  refine r_reqd (fun h2 => ?_) (fun h2 => ?_)
  rotate_left
  · rw [if_pos (by omega)] at k
    exact Fail.rai k .refl
  rw [if_neg (by omega)] at k
  walk_at "rd"
  refine ⟨ty_list hx, ?_⟩
  walk_at "rd"
  refine r_ixL (SqL.of hb) (v := nv i) rfl ?_
  walk_at "rd"
  refine r_ixL (SqL.of hb) (v := nv u) rfl ?_
  walk_at "rd"
  refine r_ixL (SqL.of hb) (v := nv v) rfl ?_
  walk_at "rd"
  refine ⟨lineR rfl, fun T1 hT1 => ?_⟩
  have e2 := same_new (o := HO.tup [nv i, nv u, nv v]) hT1
  have S2 := S.mono e2
  walk_at "rd"
  refine ⟨l.needs, xs, _, rfl, rfl, e2 _ _ hx, line1 (by rw [hA.1]; omega), ?_⟩
  have S3 := S2.put_needs nd (All2.snoc (y := (⟨i, u, v⟩ : Spot)) (hA.mono fun _ _ h => Row.mono e2 h) ⟨T1, rfl, SqT.of upd_same⟩)
  walk_at "rd"
  obtain ⟨ys, hy, hB⟩ := S3.needs
  refine ⟨l.needs, ys, rfl, .inl (SqL.of hy), ?_⟩
  rw [hB.1]
  walk_at "rd"
  refine ⟨lineR rfl, fun q hq => ?_⟩
  have oe := (ok_addNeed O (x := ⟨i, u, v⟩) (by omega)).2
  refine k q _ l ?_ ?_ ?_
  · exact KpO.fin (((KpO.of e2).trans (KpO.put own.2.2.2.2.2.2.1))) hq
  · rw [oe]
    exact S3.mono (same_new hq)
  · rw [upd_same]
    dsimp only [resL, Kpd9.number, List.map]
    simp
theorem c_add_need {P : Program} {w : World} {K : PySem.W.Frag} {mg : Str → Option Value} {base : Heap} {Z : Cs} (T : TX K mg Z) (c_are_place : Cal P w K mg base CX0 1 "are_place" ["n"] (sp_are_place K Z)) (c_require : Cal P w K mg base (L2.CX P w) 3 "require" ["is_right", "code"] (sp_require K Z)) {f : Addr} {fd : FuncData} (g : mg "add_need" = some (.ref f)) (F : Fun K "add_need" "add_need" s_add_need f fd) : Cal P w K mg base (L2.CX P w) 4 "add_need" ["state", "n"] (sp_add_need K Z) :=
  ⟨f, fd, g, F.kp, F.binds (ps := ["state", "n"]) (fun _ _ _ _ _ _ us hl => match us, hl with | [_, _], _ => rfl), ok_add_need T c_are_place c_require F⟩
abbrev s_add_spare : Stmt := top 87
abbrev N_add_spare : List Str := ["state", "n"]
theorem sc_add_spare : FnScope N_add_spare ["state", "n"] (defScope s_add_spare) := ⟨rfl, rfl, rfl, by decide +kernel, rfl, by decide +kernel, by decide +kernel⟩
def sp_add_spare (K : PySem.W.Frag) (Z : Cs) : Sp := sp2 fun x y H Q E => ∃ (a b : Addr) (d : Design) (l : Ls) (i u v : Nat), x = .ref a ∧ y = .ref b ∧ StAt K Z H a d l (asgOf d) ∧ Ok d ∧ (ownA a l).Nodup ∧ H b = some (.lst ([i, u, v].map nv)) ∧ Chg K Z a l H Q E (Kpd9.change d (.addSpare i u v))
set_option maxHeartbeats 4000000 in
theorem ok_add_spare {P : Program} {w : World} {K : PySem.W.Frag} {mg : Str → Option Value} {base : Heap} {Z : Cs} (T : TX K mg Z) (c_are_place : Cal P w K mg base CX0 1 "are_place" ["n"] (sp_are_place K Z)) (c_require : Cal P w K mg base (L2.CX P w) 3 "require" ["is_right", "code"] (sp_require K Z)) {f : Addr} {fd : FuncData} (F : Fun K "add_spare" "add_spare" s_add_spare f fd) : FnOk P w K mg base (L2.CX P w) 4 f fd ["state", "n"] (sp_add_spare K Z) := by
  refine F.okX sc_add_spare len2 (fun cdv A outer s H vs Q E hr h => ⟨_, (pss_cons (ps_expr (pe_cS c_require (takes_of rfl rfl rfl rfl) (hr.mono (by decide)) (by rfl) (pa_cons (pe_c c_are_place (hr.mono (by decide)) (by rfl) (pa_cons (pv 1) pa_nil)) (pa_cons (pe_gi T.c_OUT_OF_RANGE (by rfl)) pa_nil))))
    (pss_cons (ps_expr (pe_cS c_require (takes_of rfl rfl rfl rfl) (hr.mono (by decide)) (by rfl) (pa_cons (pe_cmpR op_lt (pe_callB (lenK (K := K) rfl) (by rfl) T.b_len PySem.boot_len (pa_cons (fldK (K := K) rfl (pv 0) rfl) pa_nil)) (pe_gi T.c_MOST_SPARES (by rfl)) (nomark _)) (pa_cons (pe_gi T.c_FULL (by rfl)) pa_nil))))
    (pss_cons (ps_expr (pe_bm PySem.F.plainAttrs_list PySem.F.slot_list_append PySem.F.type_list_append mt_append (fldK (K := K) rfl (pv 0) rfl) (pa_cons (pe_tup (pa_cons (pe_ix (ixL (K := K) rfl) (pv 1) pe_int (fun _ _ => rfl)) (pa_cons (pe_ix (ixL (K := K) rfl) (pv 1) pe_int (fun _ _ => rfl)) (pa_cons (pe_ix (ixL (K := K) rfl) (pv 1) pe_int (fun _ _ => rfl)) pa_nil)))) pa_nil)))
    (pss_one (ps_ret (pe_lst (pa_cons (pe_op op_sub (pe_callB (lenK (K := K) rfl) (by rfl) T.b_len PySem.boot_len (pa_cons (fldK (K := K) rfl (pv 0) rfl) pa_nil)) pe_int) pa_nil))))))), ?_⟩)
  obtain ⟨_, _, rfl, a, b, d, l, i, u, v, rfl, rfl, S, O, nd, hb, k⟩ := h
  have W := O.wf
  obtain ⟨xs, hx, hA⟩ := S.spares
  have hn := W.spare
  have own := own_mem a l
  have mv : Kpd9.maxValue = 100000 := rfl
  have mn : Kpd9.maxSpares = 7 := rfl
  simp only [Kpd9.change] at k
  walk_at "rd"
  refine ⟨_, rfl, b, i, u, v, rfl, hb, ?_⟩
  walk_at "rd"
  refine r_reqd (fun h1 => ?_) (fun h1 => ?_)
  rotate_left
  · rw [if_pos (by omega)] at k
    exact Fail.rai k .refl
  rw [if_neg (by omega)] at k
  walk_at "rd"
  refine ⟨l.spares, xs, rfl, .inl (SqL.of hx), ?_⟩
  rw [hA.1]
  walk_at "rd"
  refine r_reqd (fun h2 => ?_) (fun h2 => ?_)
  rotate_left
  · rw [if_pos (by omega)] at k
    exact Fail.rai k .refl
  rw [if_neg (by omega)] at k
  walk_at "rd"
  refine ⟨ty_list hx, ?_⟩
  walk_at "rd"
  refine r_ixL (SqL.of hb) (v := nv i) rfl ?_
  walk_at "rd"
  refine r_ixL (SqL.of hb) (v := nv u) rfl ?_
  walk_at "rd"
  refine r_ixL (SqL.of hb) (v := nv v) rfl ?_
  walk_at "rd"
  refine ⟨lineR rfl, fun T1 hT1 => ?_⟩
  have e2 := same_new (o := HO.tup [nv i, nv u, nv v]) hT1
  have S2 := S.mono e2
  walk_at "rd"
  refine ⟨l.spares, xs, _, rfl, rfl, e2 _ _ hx, line1 (by rw [hA.1]; omega), ?_⟩
  have S3 := S2.put_spares nd (All2.snoc (y := (⟨i, u, v⟩ : Spot)) (hA.mono fun _ _ h => Row.mono e2 h) ⟨T1, rfl, SqT.of upd_same⟩)
  walk_at "rd"
  obtain ⟨ys, hy, hB⟩ := S3.spares
  refine ⟨l.spares, ys, rfl, .inl (SqL.of hy), ?_⟩
  rw [hB.1]
  walk_at "rd"
  refine ⟨lineR rfl, fun q hq => ?_⟩
  have oe := (ok_addSpare O (x := ⟨i, u, v⟩) (by omega)).2
  refine k q _ l ?_ ?_ ?_
  · exact KpO.fin (((KpO.of e2).trans (KpO.put own.2.2.2.2.2.2.2))) hq
  · rw [oe]
    exact S3.mono (same_new hq)
  · rw [upd_same]
    dsimp only [resL, Kpd9.number, List.map]
    simp
theorem c_add_spare {P : Program} {w : World} {K : PySem.W.Frag} {mg : Str → Option Value} {base : Heap} {Z : Cs} (T : TX K mg Z) (c_are_place : Cal P w K mg base CX0 1 "are_place" ["n"] (sp_are_place K Z)) (c_require : Cal P w K mg base (L2.CX P w) 3 "require" ["is_right", "code"] (sp_require K Z)) {f : Addr} {fd : FuncData} (g : mg "add_spare" = some (.ref f)) (F : Fun K "add_spare" "add_spare" s_add_spare f fd) : Cal P w K mg base (L2.CX P w) 4 "add_spare" ["state", "n"] (sp_add_spare K Z) :=
  ⟨f, fd, g, F.kp, F.binds (ps := ["state", "n"]) (fun _ _ _ _ _ _ us hl => match us, hl with | [_, _], _ => rfl), ok_add_spare T c_are_place c_require F⟩


theorem all2_same {B : Type} {R : V → B → Prop} {v : Nat → V} {g : Nat → B} : ∀ (L : List Nat), (∀ i ∈ L, R (v i) (g i)) → All2 R (L.map v) (L.map g)
  | [], _ => .nil
  | i :: L, h => by
    have ih := all2_same L fun j hj => h j (by simp [hj])
    exact (All2.one (h i (by simp))).app ih
abbrev s_apply_spares : Stmt := top 88
abbrev N_apply_spares : List Str := ["state", "best", "total", "chosen", "j", "spare"]
theorem sc_apply_spares : FnScope N_apply_spares ["state"] (defScope s_apply_spares) := ⟨rfl, rfl, rfl, by decide +kernel, rfl, by decide +kernel, by decide +kernel⟩
def sp_apply_spares (K : PySem.W.Frag) (Z : Cs) : Sp := sp1 fun x H Q E => ∃ (a : Addr) (d : Design) (l : Ls), x = .ref a ∧ StAt K Z H a d l (asgOf d) ∧ Ok d ∧ Chg K Z a l H Q E (Kpd9.change d .applySpares)
set_option maxHeartbeats 4000000 in
theorem ok_apply_spares {P : Program} {w : World} {K : PySem.W.Frag} {mg : Str → Option Value} {base : Heap} {Z : Cs} (T : TX K mg Z) (c_best_assignment : Cal P w K mg base CX0 3 "best_assignment" ["needs", "spares"] (sp_best_assignment K Z)) (c_require : Cal P w K mg base (L2.CX P w) 3 "require" ["is_right", "code"] (sp_require K Z)) (c_require_budget : Cal P w K mg base (L2.CX P w) 4 "require_budget" ["state"] (sp_require_budget K Z)) {f : Addr} {fd : FuncData} (F : Fun K "apply_spares" "apply_spares" s_apply_spares f fd) : FnOk P w K mg base (L2.CX P w) 5 f fd ["state"] (sp_apply_spares K Z) := by
  refine F.okX sc_apply_spares len1 (fun cdv A outer s H vs Q E hr h => ⟨_, (pss_cons (ps_set (i := 1) sc_apply_spares.nd rfl (Or.inl rfl) (pe_c c_best_assignment (hr.mono (by decide)) (by rfl) (pa_cons (fldK (K := K) rfl (pv 0) rfl) (pa_cons (fldK (K := K) rfl (pv 0) rfl) pa_nil))))
    (pss_cons (ps_expr (pe_cS c_require (takes_of rfl rfl rfl rfl) (hr.mono (by decide)) (by rfl) (pa_cons (pe_cmpR op_notN (pv 1) pe_non (nomark _)) (pa_cons (pe_gi T.c_NO_RESULT (by rfl)) pa_nil))))
    (pss_cons (ps_asg (pv 1) (pgT (K := K) (n := 2) rfl (by rfl) (pgs_cons (pg_name (i := 2) sc_apply_spares.nd rfl (Or.inl rfl)) (pgs_cons (pg_name (i := 3) sc_apply_spares.nd rfl (Or.inr rfl)) pgs_nil))))
    (pss_cons (ps_fld (pv 0) (pe_op op_add (fldK (K := K) rfl (pv 0) rfl) (pv 2)) rfl)
    (pss_cons (ps_fld (pv 0) (pe_lc (own := [("j", 4), ("spare", 5)]) (by rfl) sc_apply_spares.nd (pi_enum (by rfl) T.b_enumerate (pa_cons (fldK (K := K) rfl (pv 0) rfl) pa_nil)) (blkOk_by (own := [("j", 4), ("spare", 5)]) (N := N_apply_spares) (sc := defScope s_apply_spares) (by decide +kernel)) (fun _ _ _ _ _ => (pgT (K := K) (n := 2) rfl (by rfl) (pgs_cons (pg_name (i := 4) sc_apply_spares.nd rfl (Or.inl rfl)) (pgs_cons (pg_name (i := 5) sc_apply_spares.nd rfl (Or.inl rfl)) pgs_nil)))) (fun _ _ _ _ _ => (pts_one (pt_cmpR (notInK (K := K) rfl) (pv 4) (pv 3) (by rfl)))) (fun _ _ _ _ _ => (pv 5))) rfl)
    (pss_cons (ps_fld (pv 0) (pe_lst pa_nil) rfl)
    (pss_cons (ps_expr (pe_cS c_require_budget (takes_of rfl rfl rfl rfl) (hr.mono (by decide)) (by rfl) (pa_cons (pv 0) pa_nil)))
    (pss_one (ps_ret (pe_lst (pa_cons (pv 2) pa_nil))))))))))), ?_⟩)
  obtain ⟨_, rfl, a, d, l, rfl, S, O, k⟩ := h
  have W := O.wf
  have own := own_mem a l
  simp only [Kpd9.change] at k
  walk_at "rd"
  refine ⟨_, _, rfl, l.needs, l.spares, d.needs, d.spares, rfl, rfl, S.needs, S.spares, W.need, W.spare, fun v H1 e1 hv => ?_⟩
  have S1 := S.mono e1
  walk_at "rd"
  cases hb : Kpd9.bestAssignment d.needs d.spares with
  | none =>
    rw [hb] at hv k
    have ev : v = .non := hv
    subst ev
    refine ⟨rfl, ?_⟩
    walk_at "rd"
    exact r_reqF (Fail.rai k (.of e1))
  | some c =>
    rw [hb] at hv k
    have cok := bestA_ok hb
    obtain ⟨p, q, rfl, hp, hq⟩ := hv
    refine ⟨rfl, ?_⟩
    walk_at "rd"
    refine r_req (fun _ => ?_) (fun h => by cases h)
    walk_at "rd"
    refine r_tupg (SqT.of hp) rfl ?_
    walk_at "rd"
    dsimp only at k
    generalize htot : Kpd9.totalDistance d.needs d.spares c = total at k hp ⊢
    have ok := ok_applySpares O c total
    obtain ⟨dx, ho⟩ := S1.obj
    refine r_fput ho T.clS T.nS_assigned stF_len (gs := stF d l (asgOf d + total)) rfl ?_
    have S2 : StAt K Z _ a d l (asgOf d + total) := StAt.fields ho S1.nodes S1.library S1.choices S1.changes S1.conflicts S1.needs S1.spares
    have hq2 := put_lst (C' := Z.CS) (dx' := dx) (fs' := stF d l (asgOf d + total)) ho hq
    have kp2 : KpO (ownA a l) H _ := (KpO.of e1).trans (KpO.put (o := .ins Z.CS dx (stF d l (asgOf d + total))) own.1)
    generalize upd H1 a (.ins Z.CS dx (stF d l (asgOf d + total))) = H2 at S2 hq2 kp2 ⊢
    obtain ⟨xs, hx, hA⟩ := S2.spares
    have hsl := W.spare
    walk_at "rd"
    refine lcP2 (J := Ite K l.spares) (fun R r => ?_) (walk_enum (xs := xs)) (fun j => !c.contains j) (fun j => xs.getD j .non) (fun H1 e => SqL.of (e _ _ hx)) (by rw [hA.1]; omega) (by intro _ _; rfl) ?_ ?_ ?_
    · walk_at "rd"
      exact ⟨l.spares, _, rfl, SqL.of hx, r⟩
    · intro j x y hj ex ey
      cases ex
      refine Evl.et_is (Evl.et_test (Evl.ev_op (Evl.ev_var rfl) (Evl.ev_var rfl) (Evl.rv_niL (SqL.of hq2) rfl (flat_nv c)))) ?_
      rw [inV_nv]
    · intro j x y hj ex ey _
      rw [getD_of ey]
      exact Evl.ev_var rfl
    · intro D H3 hD0 e3 hD3
      have S3 := S2.mono e3
      have rest : TabA K H3 D spRow (restSpares d c) := by
        refine ⟨_, hD3, ?_⟩
        unfold Evl.given restSpares
        rw [hA.1]
        refine all2_same _ fun j hj => ?_
        have hj2 : j < d.spares.length := List.mem_range.mp (List.mem_filter.mp hj).1
        have es : d.spares[j]? = some d.spares[j] := by simp [hj2]
        have esp := spot_of es
        rw [esp]
        obtain ⟨x2, ex2, r2⟩ := hA.got es
        rw [getD_of ex2]
        exact Row.mono e3 r2
      obtain ⟨dx3, ho3⟩ := S3.obj
      walk_at "rd"
      refine r_fput ho3 T.clS T.nS_spares stF_len (gs := stF { d with spares := restSpares d c } { l with spares := D } (asgOf d + total)) rfl ?_
      have S4 : StAt K Z _ a { d with spares := restSpares d c } { l with spares := D } (asgOf d + total) := StAt.fields ho3 S3.nodes S3.library S3.choices S3.changes S3.conflicts S3.needs rest
      have kp4 : KpO (ownA a l) H _ := (kp2.trans (.of e3)).trans (KpO.put (o := .ins Z.CS dx3 (stF { d with spares := restSpares d c } { l with spares := D } (asgOf d + total))) own.1)
      generalize upd H3 a (.ins Z.CS dx3 (stF { d with spares := restSpares d c } { l with spares := D } (asgOf d + total))) = H4 at S4 kp4 ⊢
      walk_at "rd"
      refine ⟨lineR rfl, fun p5 hp5 => ?_⟩
      have e5 := same_new (o := HO.lst []) hp5
      have S5 := S4.mono e5
      obtain ⟨dx5, ho5⟩ := S5.obj
      walk_at "rd"
      refine r_fput ho5 T.clS T.nS_needs stF_len (gs := stF { d with needs := [], spares := restSpares d c, spent := d.spent + total } { l with spares := D, needs := p5 } (asgOf d + total)) rfl ?_
      have S6 : StAt K Z _ a { d with needs := [], spares := restSpares d c, spent := d.spent + total } { l with spares := D, needs := p5 } (asgOf d + total) := StAt.fields ho5 S5.nodes S5.library S5.choices S5.changes S5.conflicts ⟨[], upd_same, .nil⟩ S5.spares
      have kp6 : KpO (ownA a l) H _ := (kp4.trans (.of e5)).trans (KpO.put (o := .ins Z.CS dx5 (stF { d with needs := [], spares := restSpares d c, spent := d.spent + total } { l with spares := D, needs := p5 } (asgOf d + total))) own.1)
      have sum := ok.1.sum
      rw [ok.2] at sum
      dsimp only at sum
      walk_at "rd"
      refine ⟨_, rfl, a, _, _, _, rfl, S6, ok.1.wf, fun hle H7 e7 => ?_, fun hgt => ?_⟩
      rotate_left
      · dsimp only at hgt
        rw [if_pos (by omega)] at k
        exact Fail.rai k kp6
      dsimp only at hle
      rw [if_neg (by omega)] at k
      have S7 := S6.mono e7
      walk_at "rd"
      refine ⟨lineR rfl, fun q hq => ?_⟩
      refine k q _ { l with spares := D, needs := p5 } (KpO.finN (kp6.trans (.of e7)) hq (fun b hb => by
        simp only [ownA, List.mem_cons, List.not_mem_nil, or_false] at hb ⊢
        rcases hb with rfl | rfl | rfl | rfl | rfl | rfl | rfl | rfl
        · exact .inl (.inl rfl)
        · exact .inl (by simp)
        · exact .inl (by simp)
        · exact .inl (by simp)
        · exact .inl (by simp)
        · exact .inl (by simp)
        · exact .inr (kp4.2 _ hp5)
        · exact .inr (kp2.2 _ hD0))) ?_ upd_same
      have e := ok.2
      unfold restSpares at e
      rw [e]
      exact S7.mono (same_new hq)
theorem c_apply_spares {P : Program} {w : World} {K : PySem.W.Frag} {mg : Str → Option Value} {base : Heap} {Z : Cs} (T : TX K mg Z) (c_best_assignment : Cal P w K mg base CX0 3 "best_assignment" ["needs", "spares"] (sp_best_assignment K Z)) (c_require : Cal P w K mg base (L2.CX P w) 3 "require" ["is_right", "code"] (sp_require K Z)) (c_require_budget : Cal P w K mg base (L2.CX P w) 4 "require_budget" ["state"] (sp_require_budget K Z)) {f : Addr} {fd : FuncData} (g : mg "apply_spares" = some (.ref f)) (F : Fun K "apply_spares" "apply_spares" s_apply_spares f fd) : Cal P w K mg base (L2.CX P w) 5 "apply_spares" ["state"] (sp_apply_spares K Z) :=
  ⟨f, fd, g, F.kp, F.binds (ps := ["state"]) (fun _ _ _ _ _ _ us hl => match us, hl with | [_], _ => rfl), ok_apply_spares T c_best_assignment c_require c_require_budget F⟩
inductive EdQ : Nat → List Nat → Kpd9.Request → Prop
  | q1 (p r c t : Nat) : EdQ 1 [p, r, c, t] (.addNode p r c t)
  | q2 (v l q : Nat) : EdQ 2 [v, l, q] (.setSink v l q)
  | q3 (v : Nat) : EdQ 3 [v] (.clearSink v)
  | q4 (c r t k : Nat) : EdQ 4 [c, r, t, k] (.addBuffer c r t k)
  | q10 (c : List Nat) : EdQ 10 c (.setBuffers c)
  | q12 : EdQ 12 [] .addViolation
  | q13 (k z : Nat) : EdQ 13 [k, z] (.addChange k z)
  | q14 (i j : Nat) : EdQ 14 [i, j] (.addConflict i j)
  | q20 (z : Nat) : EdQ 20 [z] (.applyRepair z)
  | q21 (k x y : Nat) : EdQ 21 [k, x, y] (.addNeed k x y)
  | q22 (k x y : Nat) : EdQ 22 [k, x, y] (.addSpare k x y)
  | q26 : EdQ 26 [] .applySpares
abbrev s_tree_changed : Stmt := top 89
abbrev N_tree_changed : List Str := ["state", "operation", "n"]
theorem sc_tree_changed : FnScope N_tree_changed ["state", "operation", "n"] (defScope s_tree_changed) := ⟨rfl, rfl, rfl, by decide +kernel, rfl, by decide +kernel, by decide +kernel⟩
def sp_tree_changed (K : PySem.W.Frag) (Z : Cs) : Sp := sp3 fun x y z H Q E => ∃ (a b : Addr) (d : Design) (l : Ls) (op : Nat) (args : List Nat) (q : Kpd9.Request), x = .ref a ∧ y = nv op ∧ z = .ref b ∧ StAt K Z H a d l (asgOf d) ∧ Ok d ∧ (ownA a l).Nodup ∧ H b = some (.lst (args.map nv)) ∧ args.length ≤ 1000 ∧ EdQ op args q ∧ op ≤ 10 ∧ Chg K Z a l H Q E (Kpd9.change d q)
set_option maxHeartbeats 4000000 in
theorem ok_tree_changed {P : Program} {w : World} {K : PySem.W.Frag} {mg : Str → Option Value} {base : Heap} {Z : Cs} (T : TX K mg Z) (c_add_buffer : Cal P w K mg base (L2.CX P w) 4 "add_buffer" ["state", "n"] (sp_add_buffer K Z)) (c_add_node : Cal P w K mg base (L2.CX P w) 4 "add_node" ["state", "n"] (sp_add_node K Z)) (c_clear_sink : Cal P w K mg base (L2.CX P w) 4 "clear_sink" ["state", "n"] (sp_clear_sink K Z)) (c_set_buffers : Cal P w K mg base (L2.CX P w) 5 "set_buffers" ["state", "choices"] (sp_set_buffers K Z)) (c_set_sink : Cal P w K mg base (L2.CX P w) 4 "set_sink" ["state", "n"] (sp_set_sink K Z)) {f : Addr} {fd : FuncData} (F : Fun K "tree_changed" "tree_changed" s_tree_changed f fd) : FnOk P w K mg base (L2.CX P w) 6 f fd ["state", "operation", "n"] (sp_tree_changed K Z) := by
  refine F.okX sc_tree_changed len3 (fun cdv A outer s H vs Q E hr h => ⟨_, (pss_cons (ps_if (pt_cmpR op_eq (pv 1) pe_int (nomark _)) (pss_one (ps_ret (pe_cS c_add_node (takes_of rfl rfl rfl rfl) (hr.mono (by decide)) (by rfl) (pa_cons (pv 0) (pa_cons (pv 2) pa_nil))))) pss_nil)
    (pss_cons (ps_if (pt_cmpR op_eq (pv 1) pe_int (nomark _)) (pss_one (ps_ret (pe_cS c_set_sink (takes_of rfl rfl rfl rfl) (hr.mono (by decide)) (by rfl) (pa_cons (pv 0) (pa_cons (pv 2) pa_nil))))) pss_nil)
    (pss_cons (ps_if (pt_cmpR op_eq (pv 1) pe_int (nomark _)) (pss_one (ps_ret (pe_cS c_clear_sink (takes_of rfl rfl rfl rfl) (hr.mono (by decide)) (by rfl) (pa_cons (pv 0) (pa_cons (pv 2) pa_nil))))) pss_nil)
    (pss_one (ps_ret (pe_ifExp (pt_cmpR op_eq (pv 1) pe_int (nomark _)) (pe_cS c_add_buffer (takes_of rfl rfl rfl rfl) (hr.mono (by decide)) (by rfl) (pa_cons (pv 0) (pa_cons (pv 2) pa_nil))) (pe_cS c_set_buffers (takes_of rfl rfl rfl rfl) (hr.mono (by decide)) (by rfl) (pa_cons (pv 0) (pa_cons (pv 2) pa_nil))))))))), ?_⟩)
  obtain ⟨_, _, _, rfl, a, b, d, l, op, args, q, rfl, rfl, rfl, S, O, nd, hb, hl, hq, h10, k⟩ := h
  cases hq
  case q1 =>
    walk_at "rd"
    refine iteT ?_
    walk_at "rd"
    exact ⟨_, _, rfl, a, b, d, l, _, _, _, _, rfl, rfl, S, O, nd, hb, k⟩
  case q2 =>
    walk_at "rd"
    refine iteF ?_
    walk_at "rd"
    refine iteT ?_
    walk_at "rd"
    exact ⟨_, _, rfl, a, b, d, l, _, _, _, rfl, rfl, S, O, nd, hb, k⟩
  case q3 =>
    walk_at "rd"
    refine iteF ?_
    walk_at "rd"
    refine iteF ?_
    walk_at "rd"
    refine iteT ?_
    walk_at "rd"
    exact ⟨_, _, rfl, a, b, d, l, _, rfl, rfl, S, O, nd, hb, k⟩
  case q4 =>
    walk_at "rd"
    refine iteF ?_
    walk_at "rd"
    refine iteF ?_
    walk_at "rd"
    refine iteF ?_
    walk_at "rd"
    refine iteT ?_
    walk_at "rd"
    exact ⟨_, _, rfl, a, b, d, l, _, _, _, _, rfl, rfl, S, O, nd, hb, k⟩
  case q10 =>
    walk_at "rd"
    refine iteF ?_
    walk_at "rd"
    refine iteF ?_
    walk_at "rd"
    refine iteF ?_
    walk_at "rd"
    refine iteF ?_
    walk_at "rd"
    exact ⟨_, _, rfl, a, b, d, l, _, rfl, rfl, S, O, hb, hl, k⟩
  all_goals omega
theorem c_tree_changed {P : Program} {w : World} {K : PySem.W.Frag} {mg : Str → Option Value} {base : Heap} {Z : Cs} (T : TX K mg Z) (c_add_buffer : Cal P w K mg base (L2.CX P w) 4 "add_buffer" ["state", "n"] (sp_add_buffer K Z)) (c_add_node : Cal P w K mg base (L2.CX P w) 4 "add_node" ["state", "n"] (sp_add_node K Z)) (c_clear_sink : Cal P w K mg base (L2.CX P w) 4 "clear_sink" ["state", "n"] (sp_clear_sink K Z)) (c_set_buffers : Cal P w K mg base (L2.CX P w) 5 "set_buffers" ["state", "choices"] (sp_set_buffers K Z)) (c_set_sink : Cal P w K mg base (L2.CX P w) 4 "set_sink" ["state", "n"] (sp_set_sink K Z)) {f : Addr} {fd : FuncData} (g : mg "tree_changed" = some (.ref f)) (F : Fun K "tree_changed" "tree_changed" s_tree_changed f fd) : Cal P w K mg base (L2.CX P w) 6 "tree_changed" ["state", "operation", "n"] (sp_tree_changed K Z) :=
  ⟨f, fd, g, F.kp, F.binds (ps := ["state", "operation", "n"]) (fun _ _ _ _ _ _ us hl => match us, hl with | [_, _, _], _ => rfl), ok_tree_changed T c_add_buffer c_add_node c_clear_sink c_set_buffers c_set_sink F⟩


abbrev s_changed : Stmt := top 90
abbrev N_changed : List Str := ["state", "operation", "n"]
theorem sc_changed : FnScope N_changed ["state", "operation", "n"] (defScope s_changed) := ⟨rfl, rfl, rfl, by decide +kernel, rfl, by decide +kernel, by decide +kernel⟩
def sp_changed (K : PySem.W.Frag) (Z : Cs) : Sp := sp3 fun x y z H Q E => ∃ (a b : Addr) (d : Design) (l : Ls) (op : Nat) (args : List Nat) (q : Kpd9.Request), x = .ref a ∧ y = nv op ∧ z = .ref b ∧ StAt K Z H a d l (asgOf d) ∧ Ok d ∧ (ownA a l).Nodup ∧ H b = some (.lst (args.map nv)) ∧ args.length ≤ 1000 ∧ EdQ op args q ∧ Chg K Z a l H Q E (Kpd9.change d q)
set_option maxHeartbeats 4000000 in
theorem ok_changed {P : Program} {w : World} {K : PySem.W.Frag} {mg : Str → Option Value} {base : Heap} {Z : Cs} (T : TX K mg Z) (c_add_change : Cal P w K mg base (L2.CX P w) 4 "add_change" ["state", "n"] (sp_add_change K Z)) (c_add_conflict : Cal P w K mg base (L2.CX P w) 4 "add_conflict" ["state", "n"] (sp_add_conflict K Z)) (c_add_need : Cal P w K mg base (L2.CX P w) 4 "add_need" ["state", "n"] (sp_add_need K Z)) (c_add_spare : Cal P w K mg base (L2.CX P w) 4 "add_spare" ["state", "n"] (sp_add_spare K Z)) (c_add_violation : Cal P w K mg base (L2.CX P w) 4 "add_violation" ["state"] (sp_add_violation K Z)) (c_apply_repair : Cal P w K mg base (L2.CX P w) 5 "apply_repair" ["state", "n"] (sp_apply_repair K Z)) (c_apply_spares : Cal P w K mg base (L2.CX P w) 5 "apply_spares" ["state"] (sp_apply_spares K Z)) (c_tree_changed : Cal P w K mg base (L2.CX P w) 6 "tree_changed" ["state", "operation", "n"] (sp_tree_changed K Z)) {f : Addr} {fd : FuncData} (F : Fun K "changed" "changed" s_changed f fd) : FnOk P w K mg base (L2.CX P w) 7 f fd ["state", "operation", "n"] (sp_changed K Z) := by
  refine F.okX sc_changed len3 (fun cdv A outer s H vs Q E hr h => ⟨_, (pss_cons (ps_if (pt_cmpR op_le (pv 1) pe_int (nomark _)) (pss_one (ps_ret (pe_cS c_tree_changed (takes_of rfl rfl rfl rfl) (hr.mono (by decide)) (by rfl) (pa_cons (pv 0) (pa_cons (pv 1) (pa_cons (pv 2) pa_nil)))))) pss_nil)
    (pss_cons (ps_if (pt_cmpR op_eq (pv 1) pe_int (nomark _)) (pss_one (ps_ret (pe_cS c_add_violation (takes_of rfl rfl rfl rfl) (hr.mono (by decide)) (by rfl) (pa_cons (pv 0) pa_nil)))) pss_nil)
    (pss_cons (ps_if (pt_cmpR op_eq (pv 1) pe_int (nomark _)) (pss_one (ps_ret (pe_cS c_add_change (takes_of rfl rfl rfl rfl) (hr.mono (by decide)) (by rfl) (pa_cons (pv 0) (pa_cons (pv 2) pa_nil))))) pss_nil)
    (pss_cons (ps_if (pt_cmpR op_eq (pv 1) pe_int (nomark _)) (pss_one (ps_ret (pe_cS c_add_conflict (takes_of rfl rfl rfl rfl) (hr.mono (by decide)) (by rfl) (pa_cons (pv 0) (pa_cons (pv 2) pa_nil))))) pss_nil)
    (pss_cons (ps_if (pt_cmpR op_eq (pv 1) pe_int (nomark _)) (pss_one (ps_ret (pe_cS c_apply_repair (takes_of rfl rfl rfl rfl) (hr.mono (by decide)) (by rfl) (pa_cons (pv 0) (pa_cons (pv 2) pa_nil))))) pss_nil)
    (pss_cons (ps_if (pt_cmpR op_eq (pv 1) pe_int (nomark _)) (pss_one (ps_ret (pe_cS c_add_need (takes_of rfl rfl rfl rfl) (hr.mono (by decide)) (by rfl) (pa_cons (pv 0) (pa_cons (pv 2) pa_nil))))) pss_nil)
    (pss_one (ps_ret (pe_ifExp (pt_cmpR op_eq (pv 1) pe_int (nomark _)) (pe_cS c_add_spare (takes_of rfl rfl rfl rfl) (hr.mono (by decide)) (by rfl) (pa_cons (pv 0) (pa_cons (pv 2) pa_nil))) (pe_cS c_apply_spares (takes_of rfl rfl rfl rfl) (hr.mono (by decide)) (by rfl) (pa_cons (pv 0) pa_nil))))))))))), ?_⟩)
  obtain ⟨_, _, _, rfl, a, b, d, l, op, args, q, rfl, rfl, rfl, S, O, nd, hb, hl, hq, k⟩ := h
  by_cases h10 : op ≤ 10
  · walk_at "rd"
    refine ifd (fun _ => ?_) (fun n => absurd (by omega) n)
    walk_at "rd"
    exact ⟨_, _, _, rfl, a, b, d, l, op, args, q, rfl, rfl, rfl, S, O, nd, hb, hl, hq, h10, k⟩
  cases hq
  case q1 => omega
  case q2 => omega
  case q3 => omega
  case q4 => omega
  case q10 => omega
  case q12 =>
    walk_at "rd"
    refine iteF ?_
    walk_at "rd"
    refine iteT ?_
    walk_at "rd"
    exact ⟨_, rfl, a, d, l, rfl, S, O, k⟩
  case q13 =>
    walk_at "rd"
    refine iteF ?_
    walk_at "rd"
    refine iteF ?_
    walk_at "rd"
    refine iteT ?_
    walk_at "rd"
    exact ⟨_, _, rfl, a, b, d, l, _, _, rfl, rfl, S, O, nd, hb, k⟩
  case q14 =>
    walk_at "rd"
    refine iteF ?_
    walk_at "rd"
    refine iteF ?_
    walk_at "rd"
    refine iteF ?_
    walk_at "rd"
    refine iteT ?_
    walk_at "rd"
    exact ⟨_, _, rfl, a, b, d, l, _, _, rfl, rfl, S, O, nd, hb, k⟩
  case q20 =>
    walk_at "rd"
    refine iteF ?_
    walk_at "rd"
    refine iteF ?_
    walk_at "rd"
    refine iteF ?_
    walk_at "rd"
    refine iteF ?_
    walk_at "rd"
    refine iteT ?_
    walk_at "rd"
    exact ⟨_, _, rfl, a, b, d, l, _, rfl, rfl, S, O, hb, k⟩
  case q21 =>
    walk_at "rd"
    refine iteF ?_
    walk_at "rd"
    refine iteF ?_
    walk_at "rd"
    refine iteF ?_
    walk_at "rd"
    refine iteF ?_
    walk_at "rd"
    refine iteF ?_
    walk_at "rd"
    refine iteT ?_
    walk_at "rd"
    exact ⟨_, _, rfl, a, b, d, l, _, _, _, rfl, rfl, S, O, nd, hb, k⟩
  case q22 =>
    walk_at "rd"
    refine iteF ?_
    walk_at "rd"
    refine iteF ?_
    walk_at "rd"
    refine iteF ?_
    walk_at "rd"
    refine iteF ?_
    walk_at "rd"
    refine iteF ?_
    walk_at "rd"
    refine iteF ?_
    walk_at "rd"
    refine iteT ?_
    walk_at "rd"
    exact ⟨_, _, rfl, a, b, d, l, _, _, _, rfl, rfl, S, O, nd, hb, k⟩
  case q26 =>
    walk_at "rd"
    refine iteF ?_
    walk_at "rd"
    refine iteF ?_
    walk_at "rd"
    refine iteF ?_
    walk_at "rd"
    refine iteF ?_
    walk_at "rd"
    refine iteF ?_
    walk_at "rd"
    refine iteF ?_
    walk_at "rd"
    refine iteF ?_
    walk_at "rd"
    exact ⟨_, rfl, a, d, l, rfl, S, O, k⟩
theorem c_changed {P : Program} {w : World} {K : PySem.W.Frag} {mg : Str → Option Value} {base : Heap} {Z : Cs} (T : TX K mg Z) (c_add_change : Cal P w K mg base (L2.CX P w) 4 "add_change" ["state", "n"] (sp_add_change K Z)) (c_add_conflict : Cal P w K mg base (L2.CX P w) 4 "add_conflict" ["state", "n"] (sp_add_conflict K Z)) (c_add_need : Cal P w K mg base (L2.CX P w) 4 "add_need" ["state", "n"] (sp_add_need K Z)) (c_add_spare : Cal P w K mg base (L2.CX P w) 4 "add_spare" ["state", "n"] (sp_add_spare K Z)) (c_add_violation : Cal P w K mg base (L2.CX P w) 4 "add_violation" ["state"] (sp_add_violation K Z)) (c_apply_repair : Cal P w K mg base (L2.CX P w) 5 "apply_repair" ["state", "n"] (sp_apply_repair K Z)) (c_apply_spares : Cal P w K mg base (L2.CX P w) 5 "apply_spares" ["state"] (sp_apply_spares K Z)) (c_tree_changed : Cal P w K mg base (L2.CX P w) 6 "tree_changed" ["state", "operation", "n"] (sp_tree_changed K Z)) {f : Addr} {fd : FuncData} (g : mg "changed" = some (.ref f)) (F : Fun K "changed" "changed" s_changed f fd) : Cal P w K mg base (L2.CX P w) 7 "changed" ["state", "operation", "n"] (sp_changed K Z) :=
  ⟨f, fd, g, F.kp, F.binds (ps := ["state", "operation", "n"]) (fun _ _ _ _ _ _ us hl => match us, hl with | [_, _, _], _ => rfl), ok_changed T c_add_change c_add_conflict c_add_need c_add_spare c_add_violation c_apply_repair c_apply_spares c_tree_changed F⟩


def Tell (Z : Cs) (H : Hp) (Q : VK) (E : XK) (r : List Int) : Prop := RetL (r.map V.int) H Q ∧ ∀ c, r = [c] → Rai Z.CR c H E
theorem Tell.mono {Z : Cs} {H H1 : Hp} {Q : VK} {E : XK} {r : List Int} (e : Same H H1) (h : Tell Z H Q E r) : Tell Z H1 Q E r :=
  ⟨fun p H2 hp s hq => h.1 p H2 (e.free hp) (e.trans s) hq, fun c hc dx H2 s hq => h.2 c hc dx H2 (e.trans s) hq⟩
theorem Tell.err {Z : Cs} {H H1 : Hp} {Q : VK} {E : XK} {r : List Int} {c : Int} (h : Tell Z H Q E r) (e : Same H H1) (hr : r = [c]) : Rai Z.CR c H1 E := (h.mono e).2 c hr
theorem Tell.ret {Z : Cs} {H H1 : Hp} {Q : VK} {E : XK} {r : List Int} {p : Addr} {xs : List V} (h : Tell Z H Q E r) (e : Same H H1) (hp : H1 p = none) (hx : xs = r.map V.int) : Q (.ref p) (upd H1 p (.lst xs)) :=
  h.1 p _ (e.free hp) (e.trans (same_new hp)) (by rw [upd_same, hx])
theorem r_cat {H : Hp} {Q : VK} {a b : Addr} {xs ys : List V} (hx : H a = some (.lst xs)) (hy : H b = some (.lst ys)) (hl : xs.length + ys.length ≤ 100000) (h : ∀ p, H p = none → Q (.ref p) (upd H p (.lst (xs ++ ys)))) : rCat (.ref a) (.ref b) H Q :=
  ⟨a, b, xs, ys, rfl, rfl, hx, hy, line2 hl, h⟩
theorem nv_ints (l : List Nat) : l.map nv = (Kpd9.toInts l).map V.int := by
  unfold Kpd9.toInts
  rw [List.map_map]
  rfl
theorem halves_len (z : Int) : (halvesM z).length = 2 := by
  unfold halvesM
  split <;> rfl
abbrev s_require_choices : Stmt := top 94
abbrev N_require_choices : List Str := ["state", "numbers"]
theorem sc_require_choices : FnScope N_require_choices ["state", "numbers"] (defScope s_require_choices) := ⟨rfl, rfl, rfl, by decide +kernel, rfl, by decide +kernel, by decide +kernel⟩
def sp_require_choices (K : PySem.W.Frag) (Z : Cs) : Sp := sp2 fun x y H Q E => ∃ (a b : Addr) (d : Design) (l : Ls) (asg : Nat) (c : List Nat), x = .ref a ∧ y = .ref b ∧ StAt K Z H a d l asg ∧ Wf d ∧ H b = some (.lst (c.map nv)) ∧ (Kpd9.areChoices d.library d.nodes c = true → RetV .non H Q) ∧ (Kpd9.areChoices d.library d.nodes c = false → Rai Z.CR (-22) H E)
set_option maxHeartbeats 4000000 in
theorem ok_require_choices {P : Program} {w : World} {K : PySem.W.Frag} {mg : Str → Option Value} {base : Heap} {Z : Cs} (T : TX K mg Z) (c_are_choices : Cal P w K mg base CX0 1 "are_choices" ["nodes", "library", "numbers"] (sp_are_choices K Z)) (c_require : Cal P w K mg base (L2.CX P w) 3 "require" ["is_right", "code"] (sp_require K Z)) {f : Addr} {fd : FuncData} (F : Fun K "require_choices" "require_choices" s_require_choices f fd) : FnOk P w K mg base (L2.CX P w) 4 f fd ["state", "numbers"] (sp_require_choices K Z) := by
  refine F.okX sc_require_choices len2 (fun cdv A outer s H vs Q E hr h => ⟨_, (pss_one (ps_expr (pe_cS c_require (takes_of rfl rfl rfl rfl) (hr.mono (by decide)) (by rfl) (pa_cons (pe_c c_are_choices (hr.mono (by decide)) (by rfl) (pa_cons (fldK (K := K) rfl (pv 0) rfl) (pa_cons (fldK (K := K) rfl (pv 0) rfl) (pa_cons (pv 1) pa_nil)))) (pa_cons (pe_gi T.c_OUT_OF_RANGE (by rfl)) pa_nil))))), ?_⟩)
  obtain ⟨_, _, rfl, a, b, d, l, asg, c, rfl, rfl, S, W, hb, k1, k2⟩ := h
  have := W.n1
  have := W.lib
  walk_at "rd"
  refine ⟨_, _, _, rfl, l.nodes, l.library, b, d.nodes, d.library, c, rfl, rfl, rfl, S.nodes, S.library, hb, by omega, by omega, fun H1 e1 => ?_⟩
  walk_at "rd"
  refine r_req (fun h1 => ?_) (fun h1 => ?_)
  · walk_at "rd"
    exact k1 h1 H1 e1
  · exact fun dx H2 s e => k2 h1 dx H2 (e1.trans s) e
theorem c_require_choices {P : Program} {w : World} {K : PySem.W.Frag} {mg : Str → Option Value} {base : Heap} {Z : Cs} (T : TX K mg Z) (c_are_choices : Cal P w K mg base CX0 1 "are_choices" ["nodes", "library", "numbers"] (sp_are_choices K Z)) (c_require : Cal P w K mg base (L2.CX P w) 3 "require" ["is_right", "code"] (sp_require K Z)) {f : Addr} {fd : FuncData} (g : mg "require_choices" = some (.ref f)) (F : Fun K "require_choices" "require_choices" s_require_choices f fd) : Cal P w K mg base (L2.CX P w) 4 "require_choices" ["state", "numbers"] (sp_require_choices K Z) :=
  ⟨f, fd, g, F.kp, F.binds (ps := ["state", "numbers"]) (fun _ _ _ _ _ _ us hl => match us, hl with | [_, _], _ => rfl), ok_require_choices T c_are_choices c_require F⟩
abbrev s_require_sinks : Stmt := top 95
abbrev N_require_sinks : List Str := ["state"]
theorem sc_require_sinks : FnScope N_require_sinks ["state"] (defScope s_require_sinks) := ⟨rfl, rfl, rfl, by decide +kernel, rfl, by decide +kernel, by decide +kernel⟩
def sp_require_sinks (K : PySem.W.Frag) (Z : Cs) : Sp := sp1 fun x H Q E => ∃ (a : Addr) (d : Design) (l : Ls) (asg : Nat), x = .ref a ∧ StAt K Z H a d l asg ∧ Wf d ∧ (sinks d.nodes = true → RetV .non H Q) ∧ (sinks d.nodes = false → Rai Z.CR (-6) H E)
set_option maxHeartbeats 4000000 in
theorem ok_require_sinks {P : Program} {w : World} {K : PySem.W.Frag} {mg : Str → Option Value} {base : Heap} {Z : Cs} (T : TX K mg Z) (c_has_sinks : Cal P w K mg base CX0 1 "has_sinks" ["nodes"] (sp_has_sinks K Z)) (c_require : Cal P w K mg base (L2.CX P w) 3 "require" ["is_right", "code"] (sp_require K Z)) {f : Addr} {fd : FuncData} (F : Fun K "require_sinks" "require_sinks" s_require_sinks f fd) : FnOk P w K mg base (L2.CX P w) 4 f fd ["state"] (sp_require_sinks K Z) := by
  refine F.okX sc_require_sinks len1 (fun cdv A outer s H vs Q E hr h => ⟨_, (pss_one (ps_expr (pe_cS c_require (takes_of rfl rfl rfl rfl) (hr.mono (by decide)) (by rfl) (pa_cons (pe_c c_has_sinks (hr.mono (by decide)) (by rfl) (pa_cons (fldK (K := K) rfl (pv 0) rfl) pa_nil)) (pa_cons (pe_gi T.c_NO_SUCH (by rfl)) pa_nil))))), ?_⟩)
  obtain ⟨_, rfl, a, d, l, asg, rfl, S, W, k1, k2⟩ := h
  have := W.n1
  walk_at "rd"
  refine ⟨_, rfl, l.nodes, d.nodes, rfl, S.nodes, by omega, fun H1 e1 => ?_⟩
  walk_at "rd"
  refine r_req (fun h1 => ?_) (fun h1 => ?_)
  · walk_at "rd"
    exact k1 h1 H1 e1
  · exact fun dx H2 s e => k2 h1 dx H2 (e1.trans s) e
theorem c_require_sinks {P : Program} {w : World} {K : PySem.W.Frag} {mg : Str → Option Value} {base : Heap} {Z : Cs} (T : TX K mg Z) (c_has_sinks : Cal P w K mg base CX0 1 "has_sinks" ["nodes"] (sp_has_sinks K Z)) (c_require : Cal P w K mg base (L2.CX P w) 3 "require" ["is_right", "code"] (sp_require K Z)) {f : Addr} {fd : FuncData} (g : mg "require_sinks" = some (.ref f)) (F : Fun K "require_sinks" "require_sinks" s_require_sinks f fd) : Cal P w K mg base (L2.CX P w) 4 "require_sinks" ["state"] (sp_require_sinks K Z) :=
  ⟨f, fd, g, F.kp, F.binds (ps := ["state"]) (fun _ _ _ _ _ _ us hl => match us, hl with | [_], _ => rfl), ok_require_sinks T c_has_sinks c_require F⟩
abbrev s_evaluate : Stmt := top 96
abbrev N_evaluate : List Str := ["state", "choices", "load", "slack"]
theorem sc_evaluate : FnScope N_evaluate ["state", "choices"] (defScope s_evaluate) := ⟨rfl, rfl, rfl, by decide +kernel, rfl, by decide +kernel, by decide +kernel⟩
def sp_evaluate (K : PySem.W.Frag) (Z : Cs) : Sp := sp2 fun x y H Q E => ∃ (a b : Addr) (d : Design) (l : Ls) (asg : Nat) (c : List Nat), x = .ref a ∧ y = .ref b ∧ StAt K Z H a d l asg ∧ Wf d ∧ H b = some (.lst (c.map nv)) ∧ Tell Z H Q E (resL (Kpd9.query d (.evaluate c)))
set_option maxHeartbeats 4000000 in
theorem ok_evaluate {P : Program} {w : World} {K : PySem.W.Frag} {mg : Str → Option Value} {base : Heap} {Z : Cs} (T : TX K mg Z) (c_cost_of_buffers : Cal P w K mg base CX0 1 "cost_of_buffers" ["library", "choices"] (sp_cost_of_buffers K Z)) (c_double_slack : Cal P w K mg base CX0 3 "double_slack" ["driver", "nodes", "library", "choices"] (sp_double_slack K Z)) (c_halves : Cal P w K mg base CX0 1 "halves" ["number"] (sp_halves K Z)) (c_require_choices : Cal P w K mg base (L2.CX P w) 4 "require_choices" ["state", "numbers"] (sp_require_choices K Z)) (c_require_sinks : Cal P w K mg base (L2.CX P w) 4 "require_sinks" ["state"] (sp_require_sinks K Z)) (c_root_values : Cal P w K mg base CX0 2 "root_values" ["nodes", "library", "choices"] (sp_root_values K Z)) {f : Addr} {fd : FuncData} (F : Fun K "evaluate" "evaluate" s_evaluate f fd) : FnOk P w K mg base (L2.CX P w) 5 f fd ["state", "choices"] (sp_evaluate K Z) := by
  refine F.okX sc_evaluate len2 (fun cdv A outer s H vs Q E hr h => ⟨_, (pss_cons (ps_expr (pe_cS c_require_choices (takes_of rfl rfl rfl rfl) (hr.mono (by decide)) (by rfl) (pa_cons (pv 0) (pa_cons (pv 1) pa_nil))))
    (pss_cons (ps_expr (pe_cS c_require_sinks (takes_of rfl rfl rfl rfl) (hr.mono (by decide)) (by rfl) (pa_cons (pv 0) pa_nil)))
    (pss_cons (ps_set (i := 2) sc_evaluate.nd rfl (Or.inl rfl) (pe_ix (ixT (K := K) rfl) (pe_c c_root_values (hr.mono (by decide)) (by rfl) (pa_cons (fldK (K := K) rfl (pv 0) rfl) (pa_cons (fldK (K := K) rfl (pv 0) rfl) (pa_cons (pv 1) pa_nil)))) pe_int (fun _ _ => rfl)))
    (pss_cons (ps_set (i := 3) sc_evaluate.nd rfl (Or.inl rfl) (pe_c c_double_slack (hr.mono (by decide)) (by rfl) (pa_cons (fldK (K := K) rfl (pv 0) rfl) (pa_cons (fldK (K := K) rfl (pv 0) rfl) (pa_cons (fldK (K := K) rfl (pv 0) rfl) (pa_cons (pv 1) pa_nil))))))
    (pss_one (ps_ret (pe_op op_cat (pe_op op_cat (pe_lst (pa_cons (pe_c c_cost_of_buffers (hr.mono (by decide)) (by rfl) (pa_cons (fldK (K := K) rfl (pv 0) rfl) (pa_cons (pv 1) pa_nil))) pa_nil)) (pe_c c_halves (hr.mono (by decide)) (by rfl) (pa_cons (pv 3) pa_nil))) (pe_lst (pa_cons (pv 2) (pa_cons pe_int pa_nil)))))))))), ?_⟩)
  obtain ⟨_, _, rfl, a, b, d, l, asg, c, rfl, rfl, S, W, hb, k⟩ := h
  have hn := W.n1
  have hd := W.drv
  walk_at "rd"
  refine ⟨_, _, rfl, a, b, d, l, asg, c, rfl, rfl, S, W, hb, fun h1 H1 e1 => ?_, fun h1 => k.err (Same.refl H) (eval_bad c h1)⟩
  have S1 := S.mono e1
  have cok := areChoices_ok h1
  walk_at "rd"
  refine ⟨_, rfl, a, d, l, asg, rfl, S1, W, fun h2 H2 e2 => ?_, fun h2 => k.err e1 (eval_none W c h1 h2)⟩
  have e12 := e1.trans e2
  have S2 := S.mono e12
  have hsl := slackI_some (driver := d.driver) (lib := d.library) (ch := c) W.tree W.n0 h2
  rw [eval_eq W c h1 h2 hsl] at k
  walk_at "rd"
  refine ⟨_, _, _, rfl, l.nodes, l.library, b, d.nodes, d.library, c, rfl, rfl, rfl, S2.nodes, S2.library, e12 _ _ hb, W.tok, cok, fun p H3 hp e3 hp3 => ?_⟩
  have e13 := e12.trans e3
  have S3 := S.mono e13
  refine r_ixT (v := .int (rootI d.library d.nodes c).1) (SqT.of hp3) rfl ?_
  walk_at "rd"
  refine ⟨_, _, _, _, rfl, d.driver, l.nodes, l.library, b, d.nodes, d.library, c, _, rfl, rfl, rfl, rfl, S3.nodes, S3.library, e13 _ _ hb, W.tok, cok, by omega, hsl, fun H4 e4 => ?_⟩
  have e14 := e13.trans e4
  have S4 := S.mono e14
  walk_at "rd"
  refine ⟨_, _, rfl, l.library, b, d.library, c, rfl, rfl, S4.library, e14 _ _ hb, by rw [cok.1]; omega, cok.2, fun H5 e5 => ?_⟩
  have e15 := e14.trans e5
  walk_at "rd"
  refine ⟨lineR rfl, fun p1 hp1 => ?_⟩
  have e6 := same_new (o := HO.lst [nv (Kpd9.costOf d.library c)]) hp1
  walk_at "rd"
  refine ⟨_, rfl, (slackI d.driver d.library d.nodes c).getD 0, rfl, fun p2 H7 hp2 e7 hp27 => ?_⟩
  refine r_cat (e7 _ _ upd_same) hp27 (by rw [List.length_map, halves_len]; simp) fun p3 hp3 => ?_
  have e8 := same_new (o := HO.lst ([nv (Kpd9.costOf d.library c)] ++ (halvesM ((slackI d.driver d.library d.nodes c).getD 0)).map V.int)) hp3
  walk_at "rd"
  refine ⟨lineR rfl, fun p4 hp4 => ?_⟩
  have e9 := same_new (o := HO.lst [.int (rootI d.library d.nodes c).1, .int 1]) hp4
  refine r_cat (e9 _ _ upd_same) upd_same (by rw [List.length_append, List.length_map, halves_len]; simp) fun p5 hp5 => ?_
  exact k.ret (((((e15.trans e6).trans e7).trans e8).trans e9)) hp5 (by simp [List.map_append])
theorem c_evaluate {P : Program} {w : World} {K : PySem.W.Frag} {mg : Str → Option Value} {base : Heap} {Z : Cs} (T : TX K mg Z) (c_cost_of_buffers : Cal P w K mg base CX0 1 "cost_of_buffers" ["library", "choices"] (sp_cost_of_buffers K Z)) (c_double_slack : Cal P w K mg base CX0 3 "double_slack" ["driver", "nodes", "library", "choices"] (sp_double_slack K Z)) (c_halves : Cal P w K mg base CX0 1 "halves" ["number"] (sp_halves K Z)) (c_require_choices : Cal P w K mg base (L2.CX P w) 4 "require_choices" ["state", "numbers"] (sp_require_choices K Z)) (c_require_sinks : Cal P w K mg base (L2.CX P w) 4 "require_sinks" ["state"] (sp_require_sinks K Z)) (c_root_values : Cal P w K mg base CX0 2 "root_values" ["nodes", "library", "choices"] (sp_root_values K Z)) {f : Addr} {fd : FuncData} (g : mg "evaluate" = some (.ref f)) (F : Fun K "evaluate" "evaluate" s_evaluate f fd) : Cal P w K mg base (L2.CX P w) 5 "evaluate" ["state", "choices"] (sp_evaluate K Z) :=
  ⟨f, fd, g, F.kp, F.binds (ps := ["state", "choices"]) (fun _ _ _ _ _ _ us hl => match us, hl with | [_, _], _ => rfl), ok_evaluate T c_cost_of_buffers c_double_slack c_halves c_require_choices c_require_sinks c_root_values F⟩
abbrev s_offer_told : Stmt := top 97
abbrev N_offer_told : List Str := ["offer", "cost", "slack", "choices"]
theorem sc_offer_told : FnScope N_offer_told ["offer"] (defScope s_offer_told) := ⟨rfl, rfl, rfl, by decide +kernel, rfl, by decide +kernel, by decide +kernel⟩
def sp_offer_told (K : PySem.W.Frag) (Z : Cs) : Sp := sp1 fun x H Q _ => ∃ (o : Off), OffR Any H x o ∧ o.2.2.length ≤ 1000 ∧ RetL ((offerL o).map V.int) H Q
set_option maxHeartbeats 4000000 in
theorem ok_offer_told {P : Program} {w : World} {K : PySem.W.Frag} {mg : Str → Option Value} {base : Heap} {Z : Cs} (T : TX K mg Z) (c_halves : Cal P w K mg base CX0 1 "halves" ["number"] (sp_halves K Z)) {f : Addr} {fd : FuncData} (F : Fun K "offer_told" "offer_told" s_offer_told f fd) : FnOk P w K mg base CX0 2 f fd ["offer"] (sp_offer_told K Z) := by
  refine F.ok sc_offer_told len1 (fun cdv A outer s H vs Q E hr h => ⟨_, (pss_cons (ps_asg (pv 0) (pgT (K := K) (n := 3) rfl (by rfl) (pgs_cons (pg_name (i := 1) sc_offer_told.nd rfl (Or.inl rfl)) (pgs_cons (pg_name (i := 2) sc_offer_told.nd rfl (Or.inl rfl)) (pgs_cons (pg_name (i := 3) sc_offer_told.nd rfl (Or.inl rfl)) pgs_nil)))))
    (pss_one (ps_ret (pe_op op_cat (pe_op op_cat (pe_lst (pa_cons (pv 1) pa_nil)) (pe_c c_halves (hr.mono (by decide)) (by rfl) (pa_cons (pv 2) pa_nil))) (pv 3))))), ?_⟩)
  obtain ⟨_, rfl, o, ⟨p, q, rfl, _, _, hp, hq⟩, hl, k⟩ := h
  walk_at "rd"
  refine r_tupg (SqT.of hp) rfl ?_
  walk_at "rd"
  refine ⟨lineR rfl, fun p1 hp1 => ?_⟩
  have e1 := same_new (o := HO.lst [nv o.1]) hp1
  walk_at "rd"
  refine ⟨_, rfl, o.2.1, rfl, fun p2 H2 hp2 e2 hp22 => ?_⟩
  refine r_cat (e2 _ _ upd_same) hp22 (by rw [List.length_map, halves_len]; simp) fun p3 hp3 => ?_
  have e3 := same_new (o := HO.lst ([nv o.1] ++ (halvesM o.2.1).map V.int)) hp3
  walk_at "rd"
  refine r_cat upd_same (e3 _ _ (e2 _ _ (e1 _ _ hq))) (by rw [List.length_append, List.length_map, List.length_map, halves_len]; simp; omega) fun p5 hp5 => ?_
  have e4 := (e1.trans e2).trans e3
  refine k p5 _ (e4.free hp5) (e4.trans (same_new hp5)) ?_
  rw [upd_same, nv_ints]
  unfold offerL
  rw [List.map_append, List.map_append]
  rfl
theorem c_offer_told {P : Program} {w : World} {K : PySem.W.Frag} {mg : Str → Option Value} {base : Heap} {Z : Cs} (T : TX K mg Z) (c_halves : Cal P w K mg base CX0 1 "halves" ["number"] (sp_halves K Z)) {f : Addr} {fd : FuncData} (g : mg "offer_told" = some (.ref f)) (F : Fun K "offer_told" "offer_told" s_offer_told f fd) : Cal P w K mg base CX0 2 "offer_told" ["offer"] (sp_offer_told K Z) :=
  ⟨f, fd, g, F.kp, F.binds (ps := ["offer"]) (fun _ _ _ _ _ _ us hl => match us, hl with | [_], _ => rfl), ok_offer_told T c_halves F⟩
abbrev s_best_buffers : Stmt := top 98
abbrev N_best_buffers : List Str := ["state"]
theorem sc_best_buffers : FnScope N_best_buffers ["state"] (defScope s_best_buffers) := ⟨rfl, rfl, rfl, by decide +kernel, rfl, by decide +kernel, by decide +kernel⟩
def sp_best_buffers (K : PySem.W.Frag) (Z : Cs) : Sp := sp1 fun x H Q E => ∃ (a : Addr) (d : Design) (l : Ls) (asg : Nat), x = .ref a ∧ StAt K Z H a d l asg ∧ Wf d ∧ Tell Z H Q E (resL (Kpd9.query d .bestBuffers))
set_option maxHeartbeats 4000000 in
theorem ok_best_buffers {P : Program} {w : World} {K : PySem.W.Frag} {mg : Str → Option Value} {base : Heap} {Z : Cs} (T : TX K mg Z) (c_best_offer : Cal P w K mg base CX0 5 "best_offer" ["state"] (sp_best_offer K Z)) (c_offer_told : Cal P w K mg base CX0 2 "offer_told" ["offer"] (sp_offer_told K Z)) (c_require_sinks : Cal P w K mg base (L2.CX P w) 4 "require_sinks" ["state"] (sp_require_sinks K Z)) {f : Addr} {fd : FuncData} (F : Fun K "best_buffers" "best_buffers" s_best_buffers f fd) : FnOk P w K mg base (L2.CX P w) 6 f fd ["state"] (sp_best_buffers K Z) := by
  refine F.okX sc_best_buffers len1 (fun cdv A outer s H vs Q E hr h => ⟨_, (pss_cons (ps_expr (pe_cS c_require_sinks (takes_of rfl rfl rfl rfl) (hr.mono (by decide)) (by rfl) (pa_cons (pv 0) pa_nil)))
    (pss_one (ps_ret (pe_c c_offer_told (hr.mono (by decide)) (by rfl) (pa_cons (pe_c c_best_offer (hr.mono (by decide)) (by rfl) (pa_cons (pv 0) pa_nil)) pa_nil))))), ?_⟩)
  obtain ⟨_, rfl, a, d, l, asg, rfl, S, W, k⟩ := h
  walk_at "rd"
  refine ⟨_, rfl, a, d, l, asg, rfl, S, W, fun h2 H2 e2 => ?_, fun h2 => k.err (Same.refl H) (bestq_none W h2)⟩
  have S2 := S.mono e2
  walk_at "rd"
  refine ⟨_, rfl, a, d, l, asg, rfl, S2, W, h2, fun u H3 g e3 g1 g2 hu => ?_⟩
  obtain ⟨o, ho, eo⟩ := bestq_eq W h2 g1 g2
  rw [ho] at hu
  rw [eo] at k
  have hm := (List.mem_filter.mp (cheap_mem _ _ ho)).1
  obtain ⟨c, hc, ec⟩ := List.mem_map.mp hm
  have cl := (choices_ok W hc).2
  walk_at "rd"
  refine ⟨_, rfl, o, hu, by rw [← ec]; dsimp only; omega, fun p H4 hp e4 hp4 => ?_⟩
  exact k.1 p H4 ((e2.trans e3).free hp) ((e2.trans e3).trans e4) hp4
theorem c_best_buffers {P : Program} {w : World} {K : PySem.W.Frag} {mg : Str → Option Value} {base : Heap} {Z : Cs} (T : TX K mg Z) (c_best_offer : Cal P w K mg base CX0 5 "best_offer" ["state"] (sp_best_offer K Z)) (c_offer_told : Cal P w K mg base CX0 2 "offer_told" ["offer"] (sp_offer_told K Z)) (c_require_sinks : Cal P w K mg base (L2.CX P w) 4 "require_sinks" ["state"] (sp_require_sinks K Z)) {f : Addr} {fd : FuncData} (g : mg "best_buffers" = some (.ref f)) (F : Fun K "best_buffers" "best_buffers" s_best_buffers f fd) : Cal P w K mg base (L2.CX P w) 6 "best_buffers" ["state"] (sp_best_buffers K Z) :=
  ⟨f, fd, g, F.kp, F.binds (ps := ["state"]) (fun _ _ _ _ _ _ us hl => match us, hl with | [_], _ => rfl), ok_best_buffers T c_best_offer c_offer_told c_require_sinks F⟩
abbrev s_cheapest_buffers : Stmt := top 99
abbrev N_cheapest_buffers : List Str := ["state", "n", "target", "divisor", "found"]
theorem sc_cheapest_buffers : FnScope N_cheapest_buffers ["state", "n"] (defScope s_cheapest_buffers) := ⟨rfl, rfl, rfl, by decide +kernel, rfl, by decide +kernel, by decide +kernel⟩
def sp_cheapest_buffers (K : PySem.W.Frag) (Z : Cs) : Sp := sp2 fun x y H Q E => ∃ (a b : Addr) (d : Design) (l : Ls) (asg : Nat) (t : Int) (v : Nat), x = .ref a ∧ y = .ref b ∧ StAt K Z H a d l asg ∧ Wf d ∧ H b = some (.lst [.int t, nv v]) ∧ Tell Z H Q E (resL (Kpd9.query d (.cheapestBuffers t v)))
set_option maxHeartbeats 4000000 in
theorem ok_cheapest_buffers {P : Program} {w : World} {K : PySem.W.Frag} {mg : Str → Option Value} {base : Heap} {Z : Cs} (T : TX K mg Z) (c_offer_told : Cal P w K mg base CX0 2 "offer_told" ["offer"] (sp_offer_told K Z)) (c_require : Cal P w K mg base (L2.CX P w) 3 "require" ["is_right", "code"] (sp_require K Z)) (c_require_sinks : Cal P w K mg base (L2.CX P w) 4 "require_sinks" ["state"] (sp_require_sinks K Z)) (c_target_offer : Cal P w K mg base CX0 5 "target_offer" ["state", "target", "divisor"] (sp_target_offer K Z)) {f : Addr} {fd : FuncData} (F : Fun K "cheapest_buffers" "cheapest_buffers" s_cheapest_buffers f fd) : FnOk P w K mg base (L2.CX P w) 6 f fd ["state", "n"] (sp_cheapest_buffers K Z) := by
  refine F.okX sc_cheapest_buffers len2 (fun cdv A outer s H vs Q E hr h => ⟨_, (pss_cons (ps_asg (pv 1) (pg_lst (n := 2) (by rfl) (pgs_cons (pg_name (i := 2) sc_cheapest_buffers.nd rfl (Or.inl rfl)) (pgs_cons (pg_name (i := 3) sc_cheapest_buffers.nd rfl (Or.inl rfl)) pgs_nil))))
    (pss_cons (ps_expr (pe_cS c_require (takes_of rfl rfl rfl rfl) (hr.mono (by decide)) (by rfl) (pa_cons (pe_and (pe_cmpR op_le (pe_callB call_abs (by rfl) T.b_abs (by decide +kernel) (pa_cons (pv 2) pa_nil)) (pe_gi T.c_MOST_TARGET (by rfl)) (nomark _)) (pe_one (pe_chain op_le op_le pe_int (pv 3) (pe_gi T.c_MOST_DIVISOR (by rfl))))) (pa_cons (pe_gi T.c_OUT_OF_RANGE (by rfl)) pa_nil))))
    (pss_cons (ps_expr (pe_cS c_require_sinks (takes_of rfl rfl rfl rfl) (hr.mono (by decide)) (by rfl) (pa_cons (pv 0) pa_nil)))
    (pss_cons (ps_set (i := 4) sc_cheapest_buffers.nd rfl (Or.inl rfl) (pe_c c_target_offer (hr.mono (by decide)) (by rfl) (pa_cons (pv 0) (pa_cons (pv 2) (pa_cons (pv 3) pa_nil)))))
    (pss_cons (ps_expr (pe_cS c_require (takes_of rfl rfl rfl rfl) (hr.mono (by decide)) (by rfl) (pa_cons (pe_cmpR op_notN (pv 4) pe_non (nomark _)) (pa_cons (pe_gi T.c_NO_RESULT (by rfl)) pa_nil))))
    (pss_one (ps_ret (pe_c c_offer_told (hr.mono (by decide)) (by rfl) (pa_cons (pv 4) pa_nil))))))))), ?_⟩)
  obtain ⟨_, _, rfl, a, b, d, l, asg, t, v, rfl, rfl, S, W, hb, k⟩ := h
  walk_at "rd"
  refine r_lstg (SqL.of hb) rfl ?_
  walk_at "rd"
  refine ⟨_, rfl, ?_⟩
  walk_at "rd"
  refine ifd (fun c1 => ?_) (fun c1 => ?_)
  rotate_left
  · walk_at "rd"
    exact r_reqF (k.err (Same.refl H) (cheapq_bad (by split at c1 <;> omega)))
  walk_at "rd"
  refine ifd (fun c2 => ?_) (fun c2 => ?_)
  rotate_left
  · walk_at "rd"
    exact r_reqF (k.err (Same.refl H) (cheapq_bad (by omega)))
  walk_at "rd"
  refine r_reqd (fun c3 => ?_) (fun c3 => ?_)
  rotate_left
  · exact k.err (Same.refl H) (cheapq_bad (by omega))
  have good : ¬ (v = 0 ∨ 1000 < v ∨ t < -1000000000 ∨ 1000000000 < t) := by
    split at c1 <;> omega
  walk_at "rd"
  refine ⟨_, rfl, a, d, l, asg, rfl, S, W, fun h2 H2 e2 => ?_, fun h2 => k.err (Same.refl H) (cheapq_none W good h2)⟩
  have S2 := S.mono e2
  rw [cheapq_eq W good h2] at k
  walk_at "rd"
  refine ⟨_, _, _, rfl, a, d, l, asg, t, v, rfl, rfl, rfl, S2, W, h2, by omega, fun u H3 e3 hu => ?_⟩
  walk_at "rd"
  cases hc : cheapM ((offersM d.driver d.library d.nodes).filter fun o => decide (2 * t ≤ o.2.1 * (v : Int))) with
  | none =>
    rw [hc] at hu k
    have eu : u = .non := hu
    subst eu
    refine ⟨rfl, ?_⟩
    walk_at "rd"
    exact r_reqF (k.err (e2.trans e3) rfl)
  | some o =>
    rw [hc] at hu k
    have hm := (List.mem_filter.mp (cheap_mem _ _ hc)).1
    obtain ⟨c, hc2, ec⟩ := List.mem_map.mp hm
    have cl := (choices_ok W hc2).2
    have hu2 := hu
    obtain ⟨pu, qu, rfl, _⟩ := hu2
    refine ⟨rfl, ?_⟩
    walk_at "rd"
    refine r_req (fun _ => ?_) (fun h => by cases h)
    walk_at "rd"
    refine ⟨_, rfl, o, hu, by rw [← ec]; dsimp only; omega, fun p H4 hp e4 hp4 => ?_⟩
    exact k.1 p H4 ((e2.trans e3).free hp) ((e2.trans e3).trans e4) hp4
theorem c_cheapest_buffers {P : Program} {w : World} {K : PySem.W.Frag} {mg : Str → Option Value} {base : Heap} {Z : Cs} (T : TX K mg Z) (c_offer_told : Cal P w K mg base CX0 2 "offer_told" ["offer"] (sp_offer_told K Z)) (c_require : Cal P w K mg base (L2.CX P w) 3 "require" ["is_right", "code"] (sp_require K Z)) (c_require_sinks : Cal P w K mg base (L2.CX P w) 4 "require_sinks" ["state"] (sp_require_sinks K Z)) (c_target_offer : Cal P w K mg base CX0 5 "target_offer" ["state", "target", "divisor"] (sp_target_offer K Z)) {f : Addr} {fd : FuncData} (g : mg "cheapest_buffers" = some (.ref f)) (F : Fun K "cheapest_buffers" "cheapest_buffers" s_cheapest_buffers f fd) : Cal P w K mg base (L2.CX P w) 6 "cheapest_buffers" ["state", "n"] (sp_cheapest_buffers K Z) :=
  ⟨f, fd, g, F.kp, F.binds (ps := ["state", "n"]) (fun _ _ _ _ _ _ us hl => match us, hl with | [_, _], _ => rfl), ok_cheapest_buffers T c_offer_told c_require c_require_sinks c_target_offer F⟩


theorem front_len56 {d : Design} (W : Wf d) : (frontM (slackAt (offersM d.driver d.library d.nodes)) (costsM (offersM d.driver d.library d.nodes))).length ≤ 56 := by
  have h1 := front_len (slackAt (offersM d.driver d.library d.nodes)) (costsM (offersM d.driver d.library d.nodes))
  have h2 := costs_le (driver := d.driver) (nodes := d.nodes) W.lib W.per (ks := costsM (offersM d.driver d.library d.nodes)) ((costs_sorted _).imp fun h => Nat.ne_of_lt h) fun k hk => (costs_mem _ k).mp hk
  omega
theorem flat_len (l : List (Nat × Int)) : (l.flatMap fun p => [(p.1 : Int)] ++ halvesM p.2).length = 3 * l.length := by
  induction l with
  | nil => rfl
  | cons p r ih =>
    rw [List.flatMap_cons, List.length_append, ih, List.length_append, halves_len, List.length_cons]
    simp
    omega
abbrev s_frontier_told : Stmt := top 100
abbrev N_frontier_told : List Str := ["state", "some", "found", "cost", "slack"]
theorem sc_frontier_told : FnScope N_frontier_told ["state"] (defScope s_frontier_told) := ⟨rfl, rfl, rfl, by decide +kernel, rfl, by decide +kernel, by decide +kernel⟩
def sp_frontier_told (K : PySem.W.Frag) (Z : Cs) : Sp := sp1 fun x H Q E => ∃ (a : Addr) (d : Design) (l : Ls) (asg : Nat), x = .ref a ∧ StAt K Z H a d l asg ∧ Wf d ∧ Tell Z H Q E (resL (Kpd9.query d .frontier))
set_option maxHeartbeats 4000000 in
theorem ok_frontier_told {P : Program} {w : World} {K : PySem.W.Frag} {mg : Str → Option Value} {base : Heap} {Z : Cs} (T : TX K mg Z) (c_frontier : Cal P w K mg base CX0 5 "frontier" ["state"] (sp_frontier K Z)) (c_halves : Cal P w K mg base CX0 1 "halves" ["number"] (sp_halves K Z)) (c_require_sinks : Cal P w K mg base (L2.CX P w) 4 "require_sinks" ["state"] (sp_require_sinks K Z)) {f : Addr} {fd : FuncData} (F : Fun K "frontier_told" "frontier_told" s_frontier_told f fd) : FnOk P w K mg base (L2.CX P w) 6 f fd ["state"] (sp_frontier_told K Z) := by
  refine F.okX sc_frontier_told len1 (fun cdv A outer s H vs Q E hr h => ⟨_, (pss_cons (ps_expr (pe_cS c_require_sinks (takes_of rfl rfl rfl rfl) (hr.mono (by decide)) (by rfl) (pa_cons (pv 0) pa_nil)))
    (pss_cons (ps_set (i := 1) sc_frontier_told.nd rfl (Or.inl rfl) (pe_c c_frontier (hr.mono (by decide)) (by rfl) (pa_cons (pv 0) pa_nil)))
    (pss_cons (ps_set (i := 2) sc_frontier_told.nd rfl (Or.inl rfl) (pe_lst (pa_cons (pe_callB (lenK (K := K) rfl) (by rfl) T.b_len PySem.boot_len (pa_cons (pv 1) pa_nil)) pa_nil)))
    (pss_cons (ps_for (passes_of rfl) rfl (pi_list (pv 1)) (pgT (K := K) (n := 2) rfl (by rfl) (pgs_cons (pg_name (i := 3) sc_frontier_told.nd rfl (Or.inl rfl)) (pgs_cons (pg_name (i := 4) sc_frontier_told.nd rfl (Or.inl rfl)) pgs_nil))) (pss_one (ps_expr (pe_bm PySem.F.plainAttrs_list PySem.F.slot_list_extend PySem.F.type_list_extend mt_extend (pv 2) (pa_cons (pe_op op_cat (pe_lst (pa_cons (pv 3) pa_nil)) (pe_c c_halves (hr.mono (by decide)) (by rfl) (pa_cons (pv 4) pa_nil))) pa_nil)))))
    (pss_one (ps_ret (pv 2))))))), ?_⟩)
  obtain ⟨_, rfl, a, d, l, asg, rfl, S, W, k⟩ := h
  walk_at "rd"
  refine ⟨_, rfl, a, d, l, asg, rfl, S, W, fun h2 H2 e2 => ?_, fun h2 => k.err (Same.refl H) (frontq_none W h2)⟩
  have S2 := S.mono e2
  rw [frontq_eq W h2] at k
  walk_at "rd"
  refine ⟨_, rfl, a, d, l, asg, rfl, S2, W, h2, fun L H3 xs hL e3 hx hA => ?_⟩
  have h56 := front_len56 W
  generalize frontM (slackAt (offersM d.driver d.library d.nodes)) (costsM (offersM d.driver d.library d.nodes)) = fr at *
  walk_at "rd"
  refine ⟨L, xs, rfl, .inl (SqL.of hx), ?_⟩
  rw [hA.1]
  walk_at "rd"
  refine ⟨lineR rfl, fun F hF => ?_⟩
  have e4 := same_new (o := HO.lst [.int (fr.length : Int)]) hF
  have neLF : L ≠ F := fun z => by rw [z, hF] at hx; cases hx
  have s4 : Same H (upd H3 F (.lst [.int (fr.length : Int)])) := (e2.trans e3).trans e4
  have hF0 : H F = none := (e2.trans e3).free hF
  walk_at "rd"
  refine r_for fun D' hD => ?_
  walk_at "rd"
  refine ⟨L, rfl, ⟨_, SqL.of (e4 _ _ hx)⟩, for_list (D := D') (xs := xs) (fun i σ H' => (∃ v1 v2, σ = [some (.ref a), some (.ref L), some (.ref F), v1, v2]) ∧ Kp F (upd H3 F (.lst [.int (fr.length : Int)])) H' ∧ H' F = some (.lst (([(fr.length : Int)] ++ (fr.take i).flatMap fun p => [(p.1 : Int)] ++ halvesM p.2).map V.int))) ?_ ?_ ?_ ?_⟩
  · exact ⟨⟨_, _, rfl⟩, fun _ _ _ h => h, upd_same⟩
  · rintro i σ H' _ ⟨_, kp, _⟩
    exact SqL.of (kp _ _ neLF (e4 _ _ hx))
  · rintro i x σ H' hi ⟨⟨v1, v2, rfl⟩, kp, hf⟩
    subst hD
    obtain ⟨p, ep, q, rfl, hq⟩ := hA.get hi
    have neq : q ≠ F := fun z => by rw [z, hF] at hq; cases hq
    have et := take_more ep
    have hil := lt_of_get ep
    refine r_tupg (SqT.of (kp _ _ neq (e4 _ _ hq))) rfl ?_
    walk_at "rd"
    refine ⟨ty_list hf, ?_⟩
    walk_at "rd"
    refine ⟨lineR rfl, fun p1 hp1 => ?_⟩
    have g1 := same_new (o := HO.lst [nv p.1]) hp1
    walk_at "rd"
    refine ⟨_, rfl, p.2, rfl, fun p2 H5 hp2 g2 hp25 => ?_⟩
    refine r_cat (g2 _ _ upd_same) hp25 (by rw [List.length_map, halves_len]; simp) fun p3 hp3 => ?_
    have g3 := same_new (o := HO.lst ([nv p.1] ++ (halvesM p.2).map V.int)) hp3
    have g13 := (g1.trans g2).trans g3
    walk_at "rd"
    have fl := flat_len (fr.take i)
    rw [List.length_take] at fl
    refine ⟨F, p3, _, _, rfl, rfl, g13 _ _ hf, upd_same, line2 ?_, ?_⟩
    · rw [List.length_map, List.length_append, fl, List.length_append, List.length_map, halves_len]
      simp
      omega
    walk_at "rd"
    refine ⟨⟨_, _, rfl⟩, (kp.trans (Kp.of g13)).trans Kp.upd, ?_⟩
    rw [upd_same, et, List.flatMap_append]
    simp [List.map_append]
  · rintro σ H' ⟨⟨v1, v2, rfl⟩, kp, hf⟩
    subst hD
    rw [List.take_of_length_le (by rw [hA.1]; exact Nat.le_refl _)] at hf
    walk_at "rd"
    exact k.1 F H' hF0 (Kp.same s4 kp hF0) hf
theorem c_frontier_told {P : Program} {w : World} {K : PySem.W.Frag} {mg : Str → Option Value} {base : Heap} {Z : Cs} (T : TX K mg Z) (c_frontier : Cal P w K mg base CX0 5 "frontier" ["state"] (sp_frontier K Z)) (c_halves : Cal P w K mg base CX0 1 "halves" ["number"] (sp_halves K Z)) (c_require_sinks : Cal P w K mg base (L2.CX P w) 4 "require_sinks" ["state"] (sp_require_sinks K Z)) {f : Addr} {fd : FuncData} (g : mg "frontier_told" = some (.ref f)) (F : Fun K "frontier_told" "frontier_told" s_frontier_told f fd) : Cal P w K mg base (L2.CX P w) 6 "frontier_told" ["state"] (sp_frontier_told K Z) :=
  ⟨f, fd, g, F.kp, F.binds (ps := ["state"]) (fun _ _ _ _ _ _ us hl => match us, hl with | [_], _ => rfl), ok_frontier_told T c_frontier c_halves c_require_sinks F⟩
abbrev s_critical_told : Stmt := top 101
abbrev N_critical_told : List Str := ["state", "choices", "found"]
theorem sc_critical_told : FnScope N_critical_told ["state", "choices"] (defScope s_critical_told) := ⟨rfl, rfl, rfl, by decide +kernel, rfl, by decide +kernel, by decide +kernel⟩
def sp_critical_told (K : PySem.W.Frag) (Z : Cs) : Sp := sp2 fun x y H Q E => ∃ (a b : Addr) (d : Design) (l : Ls) (asg : Nat) (c : List Nat), x = .ref a ∧ y = .ref b ∧ StAt K Z H a d l asg ∧ Wf d ∧ H b = some (.lst (c.map nv)) ∧ Tell Z H Q E (resL (Kpd9.query d (.criticalSink c)))
set_option maxHeartbeats 4000000 in
theorem ok_critical_told {P : Program} {w : World} {K : PySem.W.Frag} {mg : Str → Option Value} {base : Heap} {Z : Cs} (T : TX K mg Z) (c_critical_sink : Cal P w K mg base CX0 4 "critical_sink" ["state", "choices"] (sp_critical_sink K Z)) (c_require : Cal P w K mg base (L2.CX P w) 3 "require" ["is_right", "code"] (sp_require K Z)) (c_require_choices : Cal P w K mg base (L2.CX P w) 4 "require_choices" ["state", "numbers"] (sp_require_choices K Z)) (c_require_sinks : Cal P w K mg base (L2.CX P w) 4 "require_sinks" ["state"] (sp_require_sinks K Z)) {f : Addr} {fd : FuncData} (F : Fun K "critical_told" "critical_told" s_critical_told f fd) : FnOk P w K mg base (L2.CX P w) 5 f fd ["state", "choices"] (sp_critical_told K Z) := by
  refine F.okX sc_critical_told len2 (fun cdv A outer s H vs Q E hr h => ⟨_, (pss_cons (ps_expr (pe_cS c_require_choices (takes_of rfl rfl rfl rfl) (hr.mono (by decide)) (by rfl) (pa_cons (pv 0) (pa_cons (pv 1) pa_nil))))
    (pss_cons (ps_expr (pe_cS c_require_sinks (takes_of rfl rfl rfl rfl) (hr.mono (by decide)) (by rfl) (pa_cons (pv 0) pa_nil)))
    (pss_cons (ps_set (i := 2) sc_critical_told.nd rfl (Or.inl rfl) (pe_c c_critical_sink (hr.mono (by decide)) (by rfl) (pa_cons (pv 0) (pa_cons (pv 1) pa_nil))))
    (pss_cons (ps_expr (pe_cS c_require (takes_of rfl rfl rfl rfl) (hr.mono (by decide)) (by rfl) (pa_cons (pe_cmpR op_notN (pv 2) pe_non (nomark _)) (pa_cons (pe_gi T.c_NO_SUCH (by rfl)) pa_nil))))
    (pss_one (ps_ret (pe_lst (pa_cons (pv 2) pa_nil)))))))), ?_⟩)
  obtain ⟨_, _, rfl, a, b, d, l, asg, c, rfl, rfl, S, W, hb, k⟩ := h
  walk_at "rd"
  refine ⟨_, _, rfl, a, b, d, l, asg, c, rfl, rfl, S, W, hb, fun h1 H1 e1 => ?_, fun h1 => k.err (Same.refl H) (critq_bad c h1)⟩
  have S1 := S.mono e1
  have cok := areChoices_ok h1
  walk_at "rd"
  refine ⟨_, rfl, a, d, l, asg, rfl, S1, W, fun h2 H2 e2 => ?_, fun h2 => k.err e1 (critq_none W c h1 h2)⟩
  have e12 := e1.trans e2
  have S2 := S.mono e12
  rw [critq_eq W c h1] at k
  walk_at "rd"
  refine ⟨_, _, rfl, a, b, d, l, asg, c, rfl, rfl, S2, W, h2, e12 _ _ hb, cok, fun H3 e3 => ?_⟩
  have e13 := e12.trans e3
  walk_at "rd"
  cases hc : critM d.driver d.library d.nodes c with
  | none =>
    rw [hc] at k
    refine ⟨rfl, ?_⟩
    walk_at "rd"
    exact r_reqF (k.err e13 rfl)
  | some v =>
    rw [hc] at k
    refine ⟨rfl, ?_⟩
    walk_at "rd"
    refine r_req (fun _ => ?_) (fun h => by cases h)
    walk_at "rd"
    refine ⟨lineR rfl, fun p hp => ?_⟩
    exact k.ret e13 hp rfl
theorem c_critical_told {P : Program} {w : World} {K : PySem.W.Frag} {mg : Str → Option Value} {base : Heap} {Z : Cs} (T : TX K mg Z) (c_critical_sink : Cal P w K mg base CX0 4 "critical_sink" ["state", "choices"] (sp_critical_sink K Z)) (c_require : Cal P w K mg base (L2.CX P w) 3 "require" ["is_right", "code"] (sp_require K Z)) (c_require_choices : Cal P w K mg base (L2.CX P w) 4 "require_choices" ["state", "numbers"] (sp_require_choices K Z)) (c_require_sinks : Cal P w K mg base (L2.CX P w) 4 "require_sinks" ["state"] (sp_require_sinks K Z)) {f : Addr} {fd : FuncData} (g : mg "critical_told" = some (.ref f)) (F : Fun K "critical_told" "critical_told" s_critical_told f fd) : Cal P w K mg base (L2.CX P w) 5 "critical_told" ["state", "choices"] (sp_critical_told K Z) :=
  ⟨f, fd, g, F.kp, F.binds (ps := ["state", "choices"]) (fun _ _ _ _ _ _ us hl => match us, hl with | [_, _], _ => rfl), ok_critical_told T c_critical_sink c_require c_require_choices c_require_sinks F⟩
abbrev s_cheapest_repair : Stmt := top 102
abbrev N_cheapest_repair : List Str := ["state", "some"]
theorem sc_cheapest_repair : FnScope N_cheapest_repair ["state"] (defScope s_cheapest_repair) := ⟨rfl, rfl, rfl, by decide +kernel, rfl, by decide +kernel, by decide +kernel⟩
def sp_cheapest_repair (K : PySem.W.Frag) (Z : Cs) : Sp := sp1 fun x H Q E => ∃ (a : Addr) (d : Design) (l : Ls) (asg : Nat), x = .ref a ∧ StAt K Z H a d l asg ∧ Wf d ∧ Tell Z H Q E (resL (Kpd9.query d .cheapestRepair))
set_option maxHeartbeats 4000000 in
theorem ok_cheapest_repair {P : Program} {w : World} {K : PySem.W.Frag} {mg : Str → Option Value} {base : Heap} {Z : Cs} (T : TX K mg Z) (c_cheapest_repairs : Cal P w K mg base CX0 5 "cheapest_repairs" ["state"] (sp_cheapest_repairs K Z)) (c_cost_of_repairs : Cal P w K mg base CX0 2 "cost_of_repairs" ["changes", "chosen"] (sp_cost_of_repairs K Z)) (c_require : Cal P w K mg base (L2.CX P w) 3 "require" ["is_right", "code"] (sp_require K Z)) {f : Addr} {fd : FuncData} (F : Fun K "cheapest_repair" "cheapest_repair" s_cheapest_repair f fd) : FnOk P w K mg base (L2.CX P w) 6 f fd ["state"] (sp_cheapest_repair K Z) := by
  refine F.okX sc_cheapest_repair len1 (fun cdv A outer s H vs Q E hr h => ⟨_, (pss_cons (ps_set (i := 1) sc_cheapest_repair.nd rfl (Or.inl rfl) (pe_c c_cheapest_repairs (hr.mono (by decide)) (by rfl) (pa_cons (pv 0) pa_nil)))
    (pss_cons (ps_expr (pe_cS c_require (takes_of rfl rfl rfl rfl) (hr.mono (by decide)) (by rfl) (pa_cons (pe_cmpR (op_neE (K := K) rfl hr.units0) (pv 1) (pe_lst pa_nil) (nomark _)) (pa_cons (pe_gi T.c_NO_RESULT (by rfl)) pa_nil))))
    (pss_one (ps_ret (pe_lst (pa_cons (pe_c c_cost_of_repairs (hr.mono (by decide)) (by rfl) (pa_cons (fldK (K := K) rfl (pv 0) rfl) (pa_cons (pe_ix (ixL (K := K) rfl) (pv 1) pe_int (fun _ _ => rfl)) pa_nil))) (pa_cons (pe_ix (ixL (K := K) rfl) (pv 1) pe_int (fun _ _ => rfl)) pa_nil))))))), ?_⟩)
  obtain ⟨_, rfl, a, d, l, asg, rfl, S, W, k⟩ := h
  have hc9 := W.chg
  rw [cheapR_q] at k
  walk_at "rd"
  refine ⟨_, rfl, a, d, l, asg, rfl, S, W, fun L H1 hL e1 hx => ?_⟩
  walk_at "rd"
  refine ⟨lineR rfl, fun E0 hE0 => ?_⟩
  have f1 := same_new (o := HO.lst []) hE0
  have e2 := e1.trans f1
  have hx2 := f1 _ _ hx
  refine ⟨L, E0, _, rfl, rfl, SqL.of hx2, SqL.of upd_same, ?_⟩
  walk_at "rd"
  cases hR : allR d.repairs with
  | nil =>
    rw [hR] at k
    exact r_reqF (k.err e2 rfl)
  | cons z r =>
    rw [hR] at k hx2
    refine r_req (fun _ => ?_) (fun h => by cases h)
    have S2 := S.mono e2
    walk_at "rd"
    refine r_ixL (SqL.of hx2) (v := nv z) (atI_nat (j := 0) rfl) ?_
    walk_at "rd"
    refine ⟨_, _, rfl, l.changes, d.repairs.changes, z, rfl, rfl, S2.changes, by omega, fun H3 e3 => ?_⟩
    rw [← costR_eq]
    walk_at "rd"
    refine r_ixL (SqL.of (e3 _ _ hx2)) (v := nv z) (atI_nat (j := 0) rfl) ?_
    walk_at "rd"
    refine ⟨lineR rfl, fun p hp => ?_⟩
    exact k.ret (e2.trans e3) hp rfl
theorem c_cheapest_repair {P : Program} {w : World} {K : PySem.W.Frag} {mg : Str → Option Value} {base : Heap} {Z : Cs} (T : TX K mg Z) (c_cheapest_repairs : Cal P w K mg base CX0 5 "cheapest_repairs" ["state"] (sp_cheapest_repairs K Z)) (c_cost_of_repairs : Cal P w K mg base CX0 2 "cost_of_repairs" ["changes", "chosen"] (sp_cost_of_repairs K Z)) (c_require : Cal P w K mg base (L2.CX P w) 3 "require" ["is_right", "code"] (sp_require K Z)) {f : Addr} {fd : FuncData} (g : mg "cheapest_repair" = some (.ref f)) (F : Fun K "cheapest_repair" "cheapest_repair" s_cheapest_repair f fd) : Cal P w K mg base (L2.CX P w) 6 "cheapest_repair" ["state"] (sp_cheapest_repair K Z) :=
  ⟨f, fd, g, F.kp, F.binds (ps := ["state"]) (fun _ _ _ _ _ _ us hl => match us, hl with | [_], _ => rfl), ok_cheapest_repair T c_cheapest_repairs c_cost_of_repairs c_require F⟩
abbrev s_check_repair : Stmt := top 103
abbrev N_check_repair : List Str := ["state", "chosen", "conflict", "left"]
theorem sc_check_repair : FnScope N_check_repair ["state", "chosen"] (defScope s_check_repair) := ⟨rfl, rfl, rfl, by decide +kernel, rfl, by decide +kernel, by decide +kernel⟩
def sp_check_repair (K : PySem.W.Frag) (Z : Cs) : Sp := sp2 fun x y H Q E => ∃ (a : Addr) (d : Design) (l : Ls) (asg : Nat) (z : Nat), x = .ref a ∧ y = nv z ∧ StAt K Z H a d l asg ∧ Wf d ∧ Tell Z H Q E (resL (Kpd9.query d (.checkRepair z)))
set_option maxHeartbeats 4000000 in
theorem ok_check_repair {P : Program} {w : World} {K : PySem.W.Frag} {mg : Str → Option Value} {base : Heap} {Z : Cs} (T : TX K mg Z) (c_all_of : Cal P w K mg base CX0 1 "all_of" ["count"] (sp_all_of K Z)) (c_cost_of_repairs : Cal P w K mg base CX0 2 "cost_of_repairs" ["changes", "chosen"] (sp_cost_of_repairs K Z)) (c_first_conflict : Cal P w K mg base CX0 2 "first_conflict" ["state", "chosen"] (sp_first_conflict K Z)) (c_require : Cal P w K mg base (L2.CX P w) 3 "require" ["is_right", "code"] (sp_require K Z)) (c_unrepaired : Cal P w K mg base CX0 3 "unrepaired" ["state", "chosen"] (sp_unrepaired K Z)) {f : Addr} {fd : FuncData} (F : Fun K "check_repair" "check_repair" s_check_repair f fd) : FnOk P w K mg base (L2.CX P w) 4 f fd ["state", "chosen"] (sp_check_repair K Z) := by
  refine F.okX sc_check_repair len2 (fun cdv A outer s H vs Q E hr h => ⟨_, (pss_cons (ps_expr (pe_cS c_require (takes_of rfl rfl rfl rfl) (hr.mono (by decide)) (by rfl) (pa_cons (pe_cmpR op_le (pv 1) (pe_c c_all_of (hr.mono (by decide)) (by rfl) (pa_cons (pe_callB (lenK (K := K) rfl) (by rfl) T.b_len PySem.boot_len (pa_cons (fldK (K := K) rfl (pv 0) rfl) pa_nil)) pa_nil)) (nomark _)) (pa_cons (pe_gi T.c_OUT_OF_RANGE (by rfl)) pa_nil))))
    (pss_cons (ps_if (pt_cmpR op_ne (pe_op op_and (pv 1) (fldK (K := K) rfl (pv 0) rfl)) pe_int (nomark _)) (pss_one (ps_ret (pe_lst (pa_cons pe_int (pa_cons (pe_op op_and (pv 1) (fldK (K := K) rfl (pv 0) rfl)) pa_nil))))) pss_nil)
    (pss_cons (ps_set (i := 2) sc_check_repair.nd rfl (Or.inl rfl) (pe_c c_first_conflict (hr.mono (by decide)) (by rfl) (pa_cons (pv 0) (pa_cons (pv 1) pa_nil))))
    (pss_cons (ps_if (pt_cmpR op_notN (pv 2) pe_non (nomark _)) (pss_one (ps_ret (pe_lst (pa_cons pe_int (pa_cons (pe_ix (ixT (K := K) rfl) (pv 2) pe_int (fun _ _ => rfl)) (pa_cons (pe_ix (ixT (K := K) rfl) (pv 2) pe_int (fun _ _ => rfl)) pa_nil)))))) pss_nil)
    (pss_cons (ps_set (i := 3) sc_check_repair.nd rfl (Or.inl rfl) (pe_c c_unrepaired (hr.mono (by decide)) (by rfl) (pa_cons (pv 0) (pa_cons (pv 1) pa_nil))))
    (pss_one (ps_ret (pe_ifExp (pt_cmpR op_ne (pv 3) pe_int (nomark _)) (pe_lst (pa_cons pe_int (pa_cons (pv 3) pa_nil))) (pe_lst (pa_cons pe_int (pa_cons (pe_c c_cost_of_repairs (hr.mono (by decide)) (by rfl) (pa_cons (fldK (K := K) rfl (pv 0) rfl) (pa_cons (pv 1) pa_nil))) pa_nil))))))))))), ?_⟩)
  obtain ⟨_, _, rfl, a, d, l, asg, z, rfl, rfl, S, W, k⟩ := h
  have hc9 := W.chg
  obtain ⟨xs, hx, hA⟩ := S.changes
  have hp0 : 0 < 2 ^ d.repairs.changes.length := Nat.pow_pos (by decide)
  walk_at "rd"
  refine ⟨l.changes, xs, rfl, .inl (SqL.of hx), ?_⟩
  rw [hA.1]
  walk_at "rd"
  refine ⟨_, rfl, d.repairs.changes.length, rfl, by omega, ?_⟩
  walk_at "rd"
  refine r_reqd (fun h1 => ?_) (fun h1 => ?_)
  rotate_left
  · exact k.err (Same.refl H) (check_bad (by generalize 2 ^ d.repairs.changes.length = m at *; omega))
  have h1' : ¬ 2 ^ d.repairs.changes.length ≤ z := by
    generalize 2 ^ d.repairs.changes.length = m at *
    omega
  rw [check_eq h1'] at k
  walk_at "rd"
  rw [band]
  refine ifN (fun ne => ?_) (fun e0 => ?_)
  · rw [if_pos (by omega)] at k
    walk_at "rd"
    rw [band]
    refine ⟨lineR rfl, fun p hp => ?_⟩
    exact k.ret (Same.refl H) hp rfl
  · rw [if_neg (by omega)] at k
    walk_at "rd"
    refine ⟨_, _, rfl, a, d, l, asg, z, rfl, rfl, S, fun v H1 e1 hv => ?_⟩
    have S1 := S.mono e1
    walk_at "rd"
    cases hc : Kpd9.conflictIn d.repairs (z ||| d.repairs.applied) with
    | some c =>
      rw [hc] at hv k
      obtain ⟨p, rfl, hp⟩ := hv
      refine ⟨rfl, true, rfl, iteT ?_⟩
      walk_at "rd"
      refine r_ixT (SqT.of hp) rfl ?_
      walk_at "rd"
      refine r_ixT (SqT.of hp) rfl ?_
      walk_at "rd"
      refine ⟨lineR rfl, fun p2 hp2 => ?_⟩
      exact k.ret e1 hp2 rfl
    | none =>
      rw [hc] at hv k
      have ev : v = .non := hv
      subst ev
      refine ⟨rfl, false, rfl, iteF ?_⟩
      dsimp only at k
      walk_at "rd"
      refine ⟨_, _, rfl, a, d, l, asg, z, rfl, rfl, S1, W, fun H2 e2 => ?_⟩
      have S2 := S1.mono e2
      walk_at "rd"
      refine ifN (fun ne => ?_) (fun ee => ?_)
      · rw [if_neg (by omega)] at k
        walk_at "rd"
        refine ⟨lineR rfl, fun p2 hp2 => ?_⟩
        exact k.ret (e1.trans e2) hp2 rfl
      · rw [if_pos (by omega)] at k
        walk_at "rd"
        refine ⟨_, _, rfl, l.changes, d.repairs.changes, z, rfl, rfl, S2.changes, by omega, fun H3 e3 => ?_⟩
        rw [← costR_eq]
        walk_at "rd"
        refine ⟨lineR rfl, fun p2 hp2 => ?_⟩
        exact k.ret ((e1.trans e2).trans e3) hp2 rfl
theorem c_check_repair {P : Program} {w : World} {K : PySem.W.Frag} {mg : Str → Option Value} {base : Heap} {Z : Cs} (T : TX K mg Z) (c_all_of : Cal P w K mg base CX0 1 "all_of" ["count"] (sp_all_of K Z)) (c_cost_of_repairs : Cal P w K mg base CX0 2 "cost_of_repairs" ["changes", "chosen"] (sp_cost_of_repairs K Z)) (c_first_conflict : Cal P w K mg base CX0 2 "first_conflict" ["state", "chosen"] (sp_first_conflict K Z)) (c_require : Cal P w K mg base (L2.CX P w) 3 "require" ["is_right", "code"] (sp_require K Z)) (c_unrepaired : Cal P w K mg base CX0 3 "unrepaired" ["state", "chosen"] (sp_unrepaired K Z)) {f : Addr} {fd : FuncData} (g : mg "check_repair" = some (.ref f)) (F : Fun K "check_repair" "check_repair" s_check_repair f fd) : Cal P w K mg base (L2.CX P w) 4 "check_repair" ["state", "chosen"] (sp_check_repair K Z) :=
  ⟨f, fd, g, F.kp, F.binds (ps := ["state", "chosen"]) (fun _ _ _ _ _ _ us hl => match us, hl with | [_, _], _ => rfl), ok_check_repair T c_all_of c_cost_of_repairs c_first_conflict c_require c_unrepaired F⟩
abbrev s_essential : Stmt := top 104
abbrev N_essential : List Str := ["state", "some"]
theorem sc_essential : FnScope N_essential ["state"] (defScope s_essential) := ⟨rfl, rfl, rfl, by decide +kernel, rfl, by decide +kernel, by decide +kernel⟩
def sp_essential (K : PySem.W.Frag) (Z : Cs) : Sp := sp1 fun x H Q E => ∃ (a : Addr) (d : Design) (l : Ls) (asg : Nat), x = .ref a ∧ StAt K Z H a d l asg ∧ Wf d ∧ Tell Z H Q E (resL (Kpd9.query d .essential))
set_option maxHeartbeats 4000000 in
theorem ok_essential {P : Program} {w : World} {K : PySem.W.Frag} {mg : Str → Option Value} {base : Heap} {Z : Cs} (T : TX K mg Z) (c_cheapest_repairs : Cal P w K mg base CX0 5 "cheapest_repairs" ["state"] (sp_cheapest_repairs K Z)) (c_common_changes : Cal P w K mg base CX0 1 "common_changes" ["some"] (sp_common_changes K Z)) (c_require : Cal P w K mg base (L2.CX P w) 3 "require" ["is_right", "code"] (sp_require K Z)) {f : Addr} {fd : FuncData} (F : Fun K "essential" "essential" s_essential f fd) : FnOk P w K mg base (L2.CX P w) 6 f fd ["state"] (sp_essential K Z) := by
  refine F.okX sc_essential len1 (fun cdv A outer s H vs Q E hr h => ⟨_, (pss_cons (ps_set (i := 1) sc_essential.nd rfl (Or.inl rfl) (pe_c c_cheapest_repairs (hr.mono (by decide)) (by rfl) (pa_cons (pv 0) pa_nil)))
    (pss_cons (ps_expr (pe_cS c_require (takes_of rfl rfl rfl rfl) (hr.mono (by decide)) (by rfl) (pa_cons (pe_cmpR (op_neE (K := K) rfl hr.units0) (pv 1) (pe_lst pa_nil) (nomark _)) (pa_cons (pe_gi T.c_NO_RESULT (by rfl)) pa_nil))))
    (pss_one (ps_ret (pe_lst (pa_cons (pe_c c_common_changes (hr.mono (by decide)) (by rfl) (pa_cons (pv 1) pa_nil)) pa_nil)))))), ?_⟩)
  obtain ⟨_, rfl, a, d, l, asg, rfl, S, W, k⟩ := h
  rw [essential_q] at k
  walk_at "rd"
  refine ⟨_, rfl, a, d, l, asg, rfl, S, W, fun L H1 hL e1 hx => ?_⟩
  walk_at "rd"
  refine ⟨lineR rfl, fun E0 hE0 => ?_⟩
  have f1 := same_new (o := HO.lst []) hE0
  have e2 := e1.trans f1
  have hx2 := f1 _ _ hx
  refine ⟨L, E0, _, rfl, rfl, SqL.of hx2, SqL.of upd_same, ?_⟩
  walk_at "rd"
  cases hR : allR d.repairs with
  | nil =>
    rw [hR, if_pos rfl] at k
    exact r_reqF (k.err e2 rfl)
  | cons z r =>
    rw [if_neg (by rw [hR]; simp)] at k
    refine r_req (fun _ => ?_) (fun h => by cases h)
    walk_at "rd"
    refine ⟨_, rfl, L, allR d.repairs, rfl, hx2, by rw [hR]; simp, fun H3 e3 => ?_⟩
    walk_at "rd"
    refine ⟨lineR rfl, fun p hp => ?_⟩
    exact k.ret (e2.trans e3) hp rfl
theorem c_essential {P : Program} {w : World} {K : PySem.W.Frag} {mg : Str → Option Value} {base : Heap} {Z : Cs} (T : TX K mg Z) (c_cheapest_repairs : Cal P w K mg base CX0 5 "cheapest_repairs" ["state"] (sp_cheapest_repairs K Z)) (c_common_changes : Cal P w K mg base CX0 1 "common_changes" ["some"] (sp_common_changes K Z)) (c_require : Cal P w K mg base (L2.CX P w) 3 "require" ["is_right", "code"] (sp_require K Z)) {f : Addr} {fd : FuncData} (g : mg "essential" = some (.ref f)) (F : Fun K "essential" "essential" s_essential f fd) : Cal P w K mg base (L2.CX P w) 6 "essential" ["state"] (sp_essential K Z) :=
  ⟨f, fd, g, F.kp, F.binds (ps := ["state"]) (fun _ _ _ _ _ _ us hl => match us, hl with | [_], _ => rfl), ok_essential T c_cheapest_repairs c_common_changes c_require F⟩


theorem raised_len (r : Repairs) : (Kpd9.raisedPrices r).length = r.violations := by rw [prices_eq, prices_len]
theorem sumInt_eq (l : List Int) : Kpd9.sumInt l = l.sum := by
  unfold Kpd9.sumInt
  have : ∀ (l : List Int) (a : Int), l.foldl (· + ·) a = a + l.sum := by
    intro l
    induction l with
    | nil => intro a; simp
    | cons x r ih => intro a; rw [List.foldl_cons, ih, List.sum_cons]; omega
  rw [this]
  omega
theorem tree_ints (l : List Node) : Kpd9.toInts (l.flatMap fun n => [n.parent, n.resistance, n.capacitance, if n.isAllowed then 1 else 0, if n.sink.isSome then 1 else 0, (n.sink.map Prod.fst).getD 0, (n.sink.map Prod.snd).getD 0]) = l.flatMap nodeRow := by
  induction l with
  | nil => rfl
  | cons n r ih =>
    rw [List.flatMap_cons, List.flatMap_cons, ← ih]
    unfold Kpd9.toInts
    rw [List.map_append]
    congr 1
    unfold nodeRow
    cases n.isAllowed <;> cases n.sink <;> rfl
theorem rows_len (l : List Node) : (l.flatMap nodeRow).length = 7 * l.length := by
  induction l with
  | nil => rfl
  | cons n r ih =>
    rw [List.flatMap_cons, List.length_append, ih, List.length_cons]
    show 7 + _ = _
    omega
abbrev s_prices_told : Stmt := top 105
abbrev N_prices_told : List Str := ["state", "prices"]
theorem sc_prices_told : FnScope N_prices_told ["state"] (defScope s_prices_told) := ⟨rfl, rfl, rfl, by decide +kernel, rfl, by decide +kernel, by decide +kernel⟩
def sp_prices_told (K : PySem.W.Frag) (Z : Cs) : Sp := sp1 fun x H Q _ => ∃ (a : Addr) (d : Design) (l : Ls) (asg : Nat), x = .ref a ∧ StAt K Z H a d l asg ∧ Wf d ∧ RetL ((resL (Kpd9.query d .raisedPrices)).map V.int) H Q
set_option maxHeartbeats 4000000 in
theorem ok_prices_told {P : Program} {w : World} {K : PySem.W.Frag} {mg : Str → Option Value} {base : Heap} {Z : Cs} (T : TX K mg Z) (c_price_sum : Cal P w K mg base CX0 2 "price_sum" ["prices", "violations"] (sp_price_sum K Z)) (c_raised_prices : Cal P w K mg base CX0 5 "raised_prices" ["state"] (sp_raised_prices K Z)) (c_unrepaired : Cal P w K mg base CX0 3 "unrepaired" ["state", "chosen"] (sp_unrepaired K Z)) {f : Addr} {fd : FuncData} (F : Fun K "prices_told" "prices_told" s_prices_told f fd) : FnOk P w K mg base CX0 6 f fd ["state"] (sp_prices_told K Z) := by
  refine F.ok sc_prices_told len1 (fun cdv A outer s H vs Q E hr h => ⟨_, (pss_cons (ps_set (i := 1) sc_prices_told.nd rfl (Or.inl rfl) (pe_c c_raised_prices (hr.mono (by decide)) (by rfl) (pa_cons (pv 0) pa_nil)))
    (pss_one (ps_ret (pe_op op_cat (pe_lst (pa_cons (pe_c c_price_sum (hr.mono (by decide)) (by rfl) (pa_cons (pv 1) (pa_cons (pe_c c_unrepaired (hr.mono (by decide)) (by rfl) (pa_cons (pv 0) (pa_cons pe_int pa_nil))) pa_nil))) pa_nil)) (pv 1))))), ?_⟩)
  obtain ⟨_, rfl, a, d, l, asg, rfl, S, W, k⟩ := h
  have hv8 := W.vio
  have hlen := raised_len d.repairs
  have er : resL (Kpd9.query d .raisedPrices) = [(Kpd9.priceSum d.repairs (Kpd9.raisedPrices d.repairs) : Int)] ++ Kpd9.toInts (Kpd9.raisedPrices d.repairs) := rfl
  rw [er, priceSum_eq] at k
  walk_at "rd"
  refine ⟨_, rfl, a, d, l, asg, rfl, S, W, fun L H1 hL e1 hx => ?_⟩
  generalize Kpd9.raisedPrices d.repairs = ps at *
  have S1 := S.mono e1
  walk_at "rd"
  refine ⟨_, _, rfl, a, d, l, asg, 0, rfl, rfl, S1, W, fun H2 e2 => ?_⟩
  rw [open_eq]
  walk_at "rd"
  refine ⟨_, _, rfl, L, ps, _, rfl, rfl, e2 _ _ hx, by omega, fun H3 e3 => ?_⟩
  rw [hlen]
  walk_at "rd"
  refine ⟨lineR rfl, fun p1 hp1 => ?_⟩
  have e4 := same_new (o := HO.lst [nv (psum d.repairs.violations ps (openM d.repairs))]) hp1
  walk_at "rd"
  refine r_cat upd_same (e4 _ _ (e3 _ _ (e2 _ _ hx))) (by simp; omega) fun p hp => ?_
  have e5 := (((e1.trans e2).trans e3).trans e4)
  refine k p _ (e5.free hp) (e5.trans (same_new hp)) ?_
  rw [upd_same, nv_ints, List.map_append]
  rfl
theorem c_prices_told {P : Program} {w : World} {K : PySem.W.Frag} {mg : Str → Option Value} {base : Heap} {Z : Cs} (T : TX K mg Z) (c_price_sum : Cal P w K mg base CX0 2 "price_sum" ["prices", "violations"] (sp_price_sum K Z)) (c_raised_prices : Cal P w K mg base CX0 5 "raised_prices" ["state"] (sp_raised_prices K Z)) (c_unrepaired : Cal P w K mg base CX0 3 "unrepaired" ["state", "chosen"] (sp_unrepaired K Z)) {f : Addr} {fd : FuncData} (g : mg "prices_told" = some (.ref f)) (F : Fun K "prices_told" "prices_told" s_prices_told f fd) : Cal P w K mg base CX0 6 "prices_told" ["state"] (sp_prices_told K Z) :=
  ⟨f, fd, g, F.kp, F.binds (ps := ["state"]) (fun _ _ _ _ _ _ us hl => match us, hl with | [_], _ => rfl), ok_prices_told T c_price_sum c_raised_prices c_unrepaired F⟩
abbrev s_check_prices : Stmt := top 106
abbrev N_check_prices : List Str := ["state", "prices", "found"]
theorem sc_check_prices : FnScope N_check_prices ["state", "prices"] (defScope s_check_prices) := ⟨rfl, rfl, rfl, by decide +kernel, rfl, by decide +kernel, by decide +kernel⟩
def sp_check_prices (K : PySem.W.Frag) (Z : Cs) : Sp := sp2 fun x y H Q E => ∃ (a b : Addr) (d : Design) (l : Ls) (asg : Nat) (ps : List Nat), x = .ref a ∧ y = .ref b ∧ StAt K Z H a d l asg ∧ Wf d ∧ H b = some (.lst (ps.map nv)) ∧ Tell Z H Q E (resL (Kpd9.query d (.checkPrices ps)))
set_option maxHeartbeats 4000000 in
theorem ok_check_prices {P : Program} {w : World} {K : PySem.W.Frag} {mg : Str → Option Value} {base : Heap} {Z : Cs} (T : TX K mg Z) (c_first_overpriced : Cal P w K mg base CX0 4 "first_overpriced" ["state", "prices"] (sp_first_overpriced K Z)) (c_price_sum : Cal P w K mg base CX0 2 "price_sum" ["prices", "violations"] (sp_price_sum K Z)) (c_require : Cal P w K mg base (L2.CX P w) 3 "require" ["is_right", "code"] (sp_require K Z)) (c_unrepaired : Cal P w K mg base CX0 3 "unrepaired" ["state", "chosen"] (sp_unrepaired K Z)) {f : Addr} {fd : FuncData} (F : Fun K "check_prices" "check_prices" s_check_prices f fd) : FnOk P w K mg base (L2.CX P w) 5 f fd ["state", "prices"] (sp_check_prices K Z) := by
  refine F.okX sc_check_prices len2 (fun cdv A outer s H vs Q E hr h => ⟨_, (pss_cons (ps_expr (pe_cS c_require (takes_of rfl rfl rfl rfl) (hr.mono (by decide)) (by rfl) (pa_cons (pe_cmpR op_eq (pe_callB (lenK (K := K) rfl) (by rfl) T.b_len PySem.boot_len (pa_cons (pv 1) pa_nil)) (fldK (K := K) rfl (pv 0) rfl) (nomark _)) (pa_cons (pe_gi T.c_OUT_OF_RANGE (by rfl)) pa_nil))))
    (pss_cons (ps_set (i := 2) sc_check_prices.nd rfl (Or.inl rfl) (pe_c c_first_overpriced (hr.mono (by decide)) (by rfl) (pa_cons (pv 0) (pa_cons (pv 1) pa_nil))))
    (pss_one (ps_ret (pe_ifExp (pt_cmpR op_notN (pv 2) pe_non (nomark _)) (pe_lst (pa_cons pe_int (pa_cons (pv 2) pa_nil))) (pe_lst (pa_cons pe_int (pa_cons (pe_c c_price_sum (hr.mono (by decide)) (by rfl) (pa_cons (pv 1) (pa_cons (pe_c c_unrepaired (hr.mono (by decide)) (by rfl) (pa_cons (pv 0) (pa_cons pe_int pa_nil))) pa_nil))) pa_nil)))))))), ?_⟩)
  obtain ⟨_, _, rfl, a, b, d, l, asg, ps, rfl, rfl, S, W, hb, k⟩ := h
  have hv8 := W.vio
  simp only [Kpd9.query] at k
  walk_at "rd"
  refine ⟨b, _, rfl, .inl (SqL.of hb), ?_⟩
  rw [List.length_map]
  walk_at "rd"
  refine r_req (fun h1 => ?_) (fun h1 => ?_)
  rotate_left
  · have ne : ps.length ≠ d.repairs.violations := fun e => by
      rw [e] at h1
      simp at h1
    rw [if_pos ne] at k
    exact k.err (Same.refl H) rfl
  have e : ps.length = d.repairs.violations := by
    have := V.int.inj (of_decide_eq_true h1)
    omega
  rw [if_neg (by omega)] at k
  walk_at "rd"
  refine ⟨_, _, rfl, a, b, d, l, asg, ps, rfl, rfl, S, W, hb, e, fun H1 e1 => ?_⟩
  have S1 := S.mono e1
  walk_at "rd"
  cases ho : Kpd9.overpriced d.repairs ps with
  | some i =>
    rw [ho] at k
    refine ⟨rfl, true, rfl, iteT ?_⟩
    walk_at "rd"
    refine ⟨lineR rfl, fun p hp => ?_⟩
    exact k.ret e1 hp rfl
  | none =>
    rw [ho] at k
    refine ⟨rfl, false, rfl, iteF ?_⟩
    walk_at "rd"
    refine ⟨_, _, rfl, a, d, l, asg, 0, rfl, rfl, S1, W, fun H2 e2 => ?_⟩
    rw [open_eq]
    walk_at "rd"
    refine ⟨_, _, rfl, b, ps, _, rfl, rfl, e2 _ _ (e1 _ _ hb), by omega, fun H3 e3 => ?_⟩
    rw [e]
    walk_at "rd"
    refine ⟨lineR rfl, fun p hp => ?_⟩
    exact k.ret ((e1.trans e2).trans e3) hp rfl
theorem c_check_prices {P : Program} {w : World} {K : PySem.W.Frag} {mg : Str → Option Value} {base : Heap} {Z : Cs} (T : TX K mg Z) (c_first_overpriced : Cal P w K mg base CX0 4 "first_overpriced" ["state", "prices"] (sp_first_overpriced K Z)) (c_price_sum : Cal P w K mg base CX0 2 "price_sum" ["prices", "violations"] (sp_price_sum K Z)) (c_require : Cal P w K mg base (L2.CX P w) 3 "require" ["is_right", "code"] (sp_require K Z)) (c_unrepaired : Cal P w K mg base CX0 3 "unrepaired" ["state", "chosen"] (sp_unrepaired K Z)) {f : Addr} {fd : FuncData} (g : mg "check_prices" = some (.ref f)) (F : Fun K "check_prices" "check_prices" s_check_prices f fd) : Cal P w K mg base (L2.CX P w) 5 "check_prices" ["state", "prices"] (sp_check_prices K Z) :=
  ⟨f, fd, g, F.kp, F.binds (ps := ["state", "prices"]) (fun _ _ _ _ _ _ us hl => match us, hl with | [_, _], _ => rfl), ok_check_prices T c_first_overpriced c_price_sum c_require c_unrepaired F⟩
abbrev s_assign_spares : Stmt := top 107
abbrev N_assign_spares : List Str := ["state", "best"]
theorem sc_assign_spares : FnScope N_assign_spares ["state"] (defScope s_assign_spares) := ⟨rfl, rfl, rfl, by decide +kernel, rfl, by decide +kernel, by decide +kernel⟩
def sp_assign_spares (K : PySem.W.Frag) (Z : Cs) : Sp := sp1 fun x H Q E => ∃ (a : Addr) (d : Design) (l : Ls) (asg : Nat), x = .ref a ∧ StAt K Z H a d l asg ∧ Wf d ∧ Tell Z H Q E (resL (Kpd9.query d .assignSpares))
set_option maxHeartbeats 4000000 in
theorem ok_assign_spares {P : Program} {w : World} {K : PySem.W.Frag} {mg : Str → Option Value} {base : Heap} {Z : Cs} (T : TX K mg Z) (c_best_assignment : Cal P w K mg base CX0 3 "best_assignment" ["needs", "spares"] (sp_best_assignment K Z)) (c_require : Cal P w K mg base (L2.CX P w) 3 "require" ["is_right", "code"] (sp_require K Z)) {f : Addr} {fd : FuncData} (F : Fun K "assign_spares" "assign_spares" s_assign_spares f fd) : FnOk P w K mg base (L2.CX P w) 4 f fd ["state"] (sp_assign_spares K Z) := by
  refine F.okX sc_assign_spares len1 (fun cdv A outer s H vs Q E hr h => ⟨_, (pss_cons (ps_set (i := 1) sc_assign_spares.nd rfl (Or.inl rfl) (pe_c c_best_assignment (hr.mono (by decide)) (by rfl) (pa_cons (fldK (K := K) rfl (pv 0) rfl) (pa_cons (fldK (K := K) rfl (pv 0) rfl) pa_nil))))
    (pss_cons (ps_expr (pe_cS c_require (takes_of rfl rfl rfl rfl) (hr.mono (by decide)) (by rfl) (pa_cons (pe_cmpR op_notN (pv 1) pe_non (nomark _)) (pa_cons (pe_gi T.c_NO_RESULT (by rfl)) pa_nil))))
    (pss_one (ps_ret (pe_op op_cat (pe_lst (pa_cons (pe_ix (ixT (K := K) rfl) (pv 1) pe_int (fun _ _ => rfl)) pa_nil)) (pe_ix (ixT (K := K) rfl) (pv 1) pe_int (fun _ _ => rfl))))))), ?_⟩)
  obtain ⟨_, rfl, a, d, l, asg, rfl, S, W, k⟩ := h
  have hnd := W.need
  rw [assign_q] at k
  walk_at "rd"
  refine ⟨_, _, rfl, l.needs, l.spares, d.needs, d.spares, rfl, rfl, S.needs, S.spares, W.need, W.spare, fun v H1 e1 hv => ?_⟩
  walk_at "rd"
  cases hb : Kpd9.bestAssignment d.needs d.spares with
  | none =>
    rw [hb] at hv k
    have ev : v = .non := hv
    subst ev
    refine ⟨rfl, ?_⟩
    walk_at "rd"
    exact r_reqF (k.err e1 rfl)
  | some c =>
    rw [hb] at hv k
    have cok := bestA_ok hb
    have cl := cok.1
    obtain ⟨p, q, rfl, hp, hq⟩ := hv
    refine ⟨rfl, ?_⟩
    walk_at "rd"
    refine r_req (fun _ => ?_) (fun h => by cases h)
    walk_at "rd"
    refine r_ixT (SqT.of hp) rfl ?_
    walk_at "rd"
    refine ⟨lineR rfl, fun p1 hp1 => ?_⟩
    have e2 := same_new (o := HO.lst [nv (Kpd9.totalDistance d.needs d.spares c)]) hp1
    walk_at "rd"
    refine r_ixT (SqT.of (e2 _ _ hp)) rfl ?_
    walk_at "rd"
    refine r_cat upd_same (e2 _ _ hq) (by simp; omega) fun p3 hp3 => ?_
    refine k.ret (e1.trans e2) hp3 ?_
    rw [nv_ints]
    rfl
theorem c_assign_spares {P : Program} {w : World} {K : PySem.W.Frag} {mg : Str → Option Value} {base : Heap} {Z : Cs} (T : TX K mg Z) (c_best_assignment : Cal P w K mg base CX0 3 "best_assignment" ["needs", "spares"] (sp_best_assignment K Z)) (c_require : Cal P w K mg base (L2.CX P w) 3 "require" ["is_right", "code"] (sp_require K Z)) {f : Addr} {fd : FuncData} (g : mg "assign_spares" = some (.ref f)) (F : Fun K "assign_spares" "assign_spares" s_assign_spares f fd) : Cal P w K mg base (L2.CX P w) 4 "assign_spares" ["state"] (sp_assign_spares K Z) :=
  ⟨f, fd, g, F.kp, F.binds (ps := ["state"]) (fun _ _ _ _ _ _ us hl => match us, hl with | [_], _ => rfl), ok_assign_spares T c_best_assignment c_require F⟩
abbrev s_potentials_told : Stmt := top 108
abbrev N_potentials_told : List Str := ["state", "best", "own"]
theorem sc_potentials_told : FnScope N_potentials_told ["state"] (defScope s_potentials_told) := ⟨rfl, rfl, rfl, by decide +kernel, rfl, by decide +kernel, by decide +kernel⟩
def sp_potentials_told (K : PySem.W.Frag) (Z : Cs) : Sp := sp1 fun x H Q E => ∃ (a : Addr) (d : Design) (l : Ls) (asg : Nat), x = .ref a ∧ StAt K Z H a d l asg ∧ Wf d ∧ Tell Z H Q E (resL (Kpd9.query d .potentials))
set_option maxHeartbeats 4000000 in
theorem ok_potentials_told {P : Program} {w : World} {K : PySem.W.Frag} {mg : Str → Option Value} {base : Heap} {Z : Cs} (T : TX K mg Z) (c_best_assignment : Cal P w K mg base CX0 3 "best_assignment" ["needs", "spares"] (sp_best_assignment K Z)) (c_need_potentials : Cal P w K mg base CX0 2 "need_potentials" ["needs", "spares", "chosen", "potentials"] (sp_need_potentials K Z)) (c_require : Cal P w K mg base (L2.CX P w) 3 "require" ["is_right", "code"] (sp_require K Z)) (c_spare_potentials : Cal P w K mg base CX0 3 "spare_potentials" ["needs", "spares", "chosen"] (sp_spare_potentials K Z)) {f : Addr} {fd : FuncData} (F : Fun K "potentials_told" "potentials_told" s_potentials_told f fd) : FnOk P w K mg base (L2.CX P w) 4 f fd ["state"] (sp_potentials_told K Z) := by
  refine F.okX sc_potentials_told len1 (fun cdv A outer s H vs Q E hr h => ⟨_, (pss_cons (ps_set (i := 1) sc_potentials_told.nd rfl (Or.inl rfl) (pe_c c_best_assignment (hr.mono (by decide)) (by rfl) (pa_cons (fldK (K := K) rfl (pv 0) rfl) (pa_cons (fldK (K := K) rfl (pv 0) rfl) pa_nil))))
    (pss_cons (ps_expr (pe_cS c_require (takes_of rfl rfl rfl rfl) (hr.mono (by decide)) (by rfl) (pa_cons (pe_cmpR op_notN (pv 1) pe_non (nomark _)) (pa_cons (pe_gi T.c_NO_RESULT (by rfl)) pa_nil))))
    (pss_cons (ps_set (i := 2) sc_potentials_told.nd rfl (Or.inl rfl) (pe_c c_spare_potentials (hr.mono (by decide)) (by rfl) (pa_cons (fldK (K := K) rfl (pv 0) rfl) (pa_cons (fldK (K := K) rfl (pv 0) rfl) (pa_cons (pe_ix (ixT (K := K) rfl) (pv 1) pe_int (fun _ _ => rfl)) pa_nil)))))
    (pss_one (ps_ret (pe_op op_cat (pe_op op_cat (pe_lst (pa_cons (pe_ix (ixT (K := K) rfl) (pv 1) pe_int (fun _ _ => rfl)) pa_nil)) (pe_c c_need_potentials (hr.mono (by decide)) (by rfl) (pa_cons (fldK (K := K) rfl (pv 0) rfl) (pa_cons (fldK (K := K) rfl (pv 0) rfl) (pa_cons (pe_ix (ixT (K := K) rfl) (pv 1) pe_int (fun _ _ => rfl)) (pa_cons (pv 2) pa_nil)))))) (pv 2))))))), ?_⟩)
  obtain ⟨_, rfl, a, d, l, asg, rfl, S, W, k⟩ := h
  have hnd := W.need
  have hsp := W.spare
  rw [potent_q] at k
  walk_at "rd"
  refine ⟨_, _, rfl, l.needs, l.spares, d.needs, d.spares, rfl, rfl, S.needs, S.spares, W.need, W.spare, fun v H1 e1 hv => ?_⟩
  have S1 := S.mono e1
  walk_at "rd"
  cases hb : Kpd9.bestAssignment d.needs d.spares with
  | none =>
    rw [hb] at hv k
    have ev : v = .non := hv
    subst ev
    refine ⟨rfl, ?_⟩
    walk_at "rd"
    exact r_reqF (k.err e1 rfl)
  | some c =>
    rw [hb] at hv k
    have cok := bestA_ok hb
    obtain ⟨p, q, rfl, hp, hq⟩ := hv
    refine ⟨rfl, ?_⟩
    walk_at "rd"
    refine r_req (fun _ => ?_) (fun h => by cases h)
    walk_at "rd"
    refine r_ixT (SqT.of hp) rfl ?_
    walk_at "rd"
    refine ⟨_, _, _, rfl, l.needs, l.spares, q, d.needs, d.spares, c, rfl, rfl, rfl, S1.needs, S1.spares, hq, cok, by omega, fun V0 H2 hV e2 hv2 => ?_⟩
    have S2 := S1.mono e2
    have hvl := potV_len d.needs d.spares c d.spares.length
    walk_at "rd"
    refine r_ixT (SqT.of (e2 _ _ hp)) rfl ?_
    walk_at "rd"
    refine ⟨lineR rfl, fun p1 hp1 => ?_⟩
    have e3 := same_new (o := HO.lst [nv (Kpd9.totalDistance d.needs d.spares c)]) hp1
    have S3 := S2.mono e3
    have e23 := e2.trans e3
    walk_at "rd"
    refine r_ixT (SqT.of (e23 _ _ hp)) rfl ?_
    walk_at "rd"
    refine ⟨_, _, _, _, rfl, l.needs, l.spares, q, V0, d.needs, d.spares, c, _, rfl, rfl, rfl, rfl, S3.needs, S3.spares, e23 _ _ hq, e3 _ _ hv2, cok, by omega, hvl, fun p4 H4 hp4 e4 hp44 => ?_⟩
    have hul : (potU d.needs d.spares c (potV d.needs d.spares c d.spares.length)).length = d.needs.length := by
      unfold potU
      rw [List.length_map, List.length_range]
    refine r_cat (e4 _ _ upd_same) hp44 (by rw [List.length_map, hul]; simp; omega) fun p5 hp5 => ?_
    have e5 := same_new (o := HO.lst ([nv (Kpd9.totalDistance d.needs d.spares c)] ++ (potU d.needs d.spares c (potV d.needs d.spares c d.spares.length)).map V.int)) hp5
    walk_at "rd"
    refine r_cat upd_same (e5 _ _ (e4 _ _ (e3 _ _ hv2))) (by rw [List.length_append, List.length_map, List.length_map, hul, hvl]; simp; omega) fun p6 hp6 => ?_
    refine k.ret ((((e1.trans e2).trans e3).trans e4).trans e5) hp6 ?_
    rw [List.map_cons, List.map_append, List.append_assoc]
    rfl
theorem c_potentials_told {P : Program} {w : World} {K : PySem.W.Frag} {mg : Str → Option Value} {base : Heap} {Z : Cs} (T : TX K mg Z) (c_best_assignment : Cal P w K mg base CX0 3 "best_assignment" ["needs", "spares"] (sp_best_assignment K Z)) (c_need_potentials : Cal P w K mg base CX0 2 "need_potentials" ["needs", "spares", "chosen", "potentials"] (sp_need_potentials K Z)) (c_require : Cal P w K mg base (L2.CX P w) 3 "require" ["is_right", "code"] (sp_require K Z)) (c_spare_potentials : Cal P w K mg base CX0 3 "spare_potentials" ["needs", "spares", "chosen"] (sp_spare_potentials K Z)) {f : Addr} {fd : FuncData} (g : mg "potentials_told" = some (.ref f)) (F : Fun K "potentials_told" "potentials_told" s_potentials_told f fd) : Cal P w K mg base (L2.CX P w) 4 "potentials_told" ["state"] (sp_potentials_told K Z) :=
  ⟨f, fd, g, F.kp, F.binds (ps := ["state"]) (fun _ _ _ _ _ _ us hl => match us, hl with | [_], _ => rfl), ok_potentials_told T c_best_assignment c_need_potentials c_require c_spare_potentials F⟩


abbrev s_check_potentials : Stmt := top 109
abbrev N_check_potentials : List Str := ["state", "needs", "spares", "found", "number"]
theorem sc_check_potentials : FnScope N_check_potentials ["state", "needs", "spares"] (defScope s_check_potentials) := ⟨rfl, rfl, rfl, by decide +kernel, rfl, by decide +kernel, by decide +kernel⟩
def sp_check_potentials (K : PySem.W.Frag) (Z : Cs) : Sp := sp3 fun x y z H Q E => ∃ (a b c : Addr) (d : Design) (l : Ls) (asg : Nat) (u v : List Int), x = .ref a ∧ y = .ref b ∧ z = .ref c ∧ StAt K Z H a d l asg ∧ Wf d ∧ H b = some (.lst (u.map V.int)) ∧ H c = some (.lst (v.map V.int)) ∧ Tell Z H Q E (resL (Kpd9.query d (.checkPotentials u v)))
set_option maxHeartbeats 4000000 in
theorem ok_check_potentials {P : Program} {w : World} {K : PySem.W.Frag} {mg : Str → Option Value} {base : Heap} {Z : Cs} (T : TX K mg Z) (c_first_excess : Cal P w K mg base CX0 2 "first_excess" ["state", "need_numbers", "spare_numbers"] (sp_first_excess K Z)) (c_require : Cal P w K mg base (L2.CX P w) 3 "require" ["is_right", "code"] (sp_require K Z)) {f : Addr} {fd : FuncData} (F : Fun K "check_potentials" "check_potentials" s_check_potentials f fd) : FnOk P w K mg base (L2.CX P w) 4 f fd ["state", "needs", "spares"] (sp_check_potentials K Z) := by
  refine F.okX sc_check_potentials len3 (fun cdv A outer s H vs Q E hr h => ⟨_, (pss_cons (ps_expr (pe_cS c_require (takes_of rfl rfl rfl rfl) (hr.mono (by decide)) (by rfl) (pa_cons (pe_and (pe_cmpR op_eq (pe_callB (lenK (K := K) rfl) (by rfl) T.b_len PySem.boot_len (pa_cons (pv 1) pa_nil)) (pe_callB (lenK (K := K) rfl) (by rfl) T.b_len PySem.boot_len (pa_cons (fldK (K := K) rfl (pv 0) rfl) pa_nil)) (nomark _)) (pe_one (pe_cmpR op_eq (pe_callB (lenK (K := K) rfl) (by rfl) T.b_len PySem.boot_len (pa_cons (pv 2) pa_nil)) (pe_callB (lenK (K := K) rfl) (by rfl) T.b_len PySem.boot_len (pa_cons (fldK (K := K) rfl (pv 0) rfl) pa_nil)) (nomark _)))) (pa_cons (pe_gi T.c_OUT_OF_RANGE (by rfl)) pa_nil))))
    (pss_cons (ps_expr (pe_cS c_require (takes_of rfl rfl rfl rfl) (hr.mono (by decide)) (by rfl) (pa_cons (pe_callB (cr_all rfl) (by rfl) T.b_all (by decide +kernel) (pa_cons (pe_lc (own := [("number", 4)]) (by rfl) sc_check_potentials.nd (pi_list (pv 2)) (blkOk_by (own := [("number", 4)]) (N := N_check_potentials) (sc := defScope s_check_potentials) (by decide +kernel)) (fun _ _ _ _ _ => (pg_name (i := 4) sc_check_potentials.nd rfl (Or.inl rfl))) (fun _ _ _ _ _ => pts_nil) (fun _ _ _ _ _ => (pe_cmpR op_le (pv 4) pe_int (nomark _)))) pa_nil)) (pa_cons (pe_gi T.c_OUT_OF_RANGE (by rfl)) pa_nil))))
    (pss_cons (ps_set (i := 3) sc_check_potentials.nd rfl (Or.inl rfl) (pe_c c_first_excess (hr.mono (by decide)) (by rfl) (pa_cons (pv 0) (pa_cons (pv 1) (pa_cons (pv 2) pa_nil)))))
    (pss_one (ps_ret (pe_ifExp (pt_cmpR op_notN (pv 3) pe_non (nomark _)) (pe_lst (pa_cons pe_int (pa_cons (pe_ix (ixT (K := K) rfl) (pv 3) pe_int (fun _ _ => rfl)) (pa_cons (pe_ix (ixT (K := K) rfl) (pv 3) pe_int (fun _ _ => rfl)) pa_nil)))) (pe_lst (pa_cons pe_int (pa_cons (pe_op op_add (pe_callB (cr_sum rfl) (by rfl) T.b_sum (by decide +kernel) (pa_cons (pv 1) pa_nil)) (pe_callB (cr_sum rfl) (by rfl) T.b_sum (by decide +kernel) (pa_cons (pv 2) pa_nil))) pa_nil))))))))), ?_⟩)
  obtain ⟨_, _, _, rfl, a, b, c, d, l, asg, u, v, rfl, rfl, rfl, S, W, hb, hc, k⟩ := h
  have hnd := W.need
  have hsp := W.spare
  obtain ⟨xs, hx, hA⟩ := S.needs
  obtain ⟨ys, hy, hB⟩ := S.spares
  simp only [Kpd9.query] at k
  walk_at "rd"
  refine ⟨b, _, rfl, .inl (SqL.of hb), ?_⟩
  walk_at "rd"
  refine ⟨l.needs, xs, rfl, .inl (SqL.of hx), ?_⟩
  rw [List.length_map, hA.1]
  walk_at "rd"
  refine ifE (fun h1 => ?_) (fun h1 => ?_)
  rotate_left
  · walk_at "rd"
    refine r_reqF ?_
    rw [if_pos (.inl (by omega))] at k
    exact k.err (Same.refl H) rfl
  walk_at "rd"
  refine ⟨c, _, rfl, .inl (SqL.of hc), ?_⟩
  walk_at "rd"
  refine ⟨l.spares, ys, rfl, .inl (SqL.of hy), ?_⟩
  rw [List.length_map, hB.1]
  walk_at "rd"
  refine r_req (fun h2 => ?_) (fun h2 => ?_)
  rotate_left
  · have ne : v.length ≠ d.spares.length := fun e => by
      rw [e] at h2
      simp at h2
    rw [if_pos (.inr (.inl ne))] at k
    exact k.err (Same.refl H) rfl
  have hul : u.length = d.needs.length := by omega
  have hvl : v.length = d.spares.length := by
    have := V.int.inj (of_decide_eq_true h2)
    omega
  walk_at "rd"
  have hAv : All2 (fun (x : V) (z : Int) => x = .int z) (v.map V.int) v := ⟨by simp, fun i x z h1 h2 => by rw [List.getElem?_map, h2] at h1; exact (Option.some.inj h1).symm⟩
  refine EvL.go (lcM (fun z : Int => .bl (decide (z ≤ 0))) (Evl.ev_var rfl) (SqL.of hc) hAv (by omega) (fun x => rfl) fun i x z H1 e hi hz r => ?_) fun p H1 hp e1 hp1 => ?_
  · subst r
    exact Evl.ev_op (Evl.ev_var rfl) Evl.ev_c Evl.rv_I0
  walk_at "rd"
  refine ⟨p, v.map fun z => decide (z ≤ 0), rfl, SqL.of (by rw [List.map_map]; exact hp1), ?_⟩
  have eall : (v.map fun z => decide (z ≤ 0)).all id = !(v.any fun z => decide (0 < z)) := by
    rw [List.all_map]
    clear k hAv hc hp1 hvl h2
    induction v with
    | nil => rfl
    | cons z r ih =>
      rw [List.all_cons, List.any_cons, ih, Bool.not_or]
      congr 1
      rw [Bool.eq_iff_iff]
      simp
  rw [eall]
  walk_at "rd"
  refine r_req (fun h3 => ?_) (fun h3 => ?_)
  rotate_left
  · rw [if_pos (.inr (.inr (by simpa using h3)))] at k
    exact k.err e1 rfl
  have hno : ¬ (u.length ≠ d.needs.length ∨ v.length ≠ d.spares.length ∨ (v.any fun z => decide (0 < z)) = true) := by
    rintro (q | q | q)
    · omega
    · omega
    · rw [q] at h3
      cases h3
  rw [if_neg hno] at k
  walk_at "rd"
  refine ⟨_, _, _, rfl, a, b, c, d, l, asg, u, v, rfl, rfl, rfl, S.mono e1, e1 _ _ hb, e1 _ _ hc, hul, hvl, fun w H2 e2 hw => ?_⟩
  walk_at "rd"
  cases ho : Kpd9.wrongPair d.needs d.spares u v with
  | some z =>
    rw [ho] at hw k
    obtain ⟨p2, rfl, hp2⟩ := hw
    refine ⟨rfl, true, rfl, iteT ?_⟩
    walk_at "rd"
    refine r_ixT (SqT.of hp2) rfl ?_
    walk_at "rd"
    refine r_ixT (SqT.of hp2) rfl ?_
    walk_at "rd"
    refine ⟨lineR rfl, fun p3 hp3 => ?_⟩
    exact k.ret (e1.trans e2) hp3 rfl
  | none =>
    rw [ho] at hw k
    have ew : w = .non := hw
    subst ew
    refine ⟨rfl, false, rfl, iteF ?_⟩
    walk_at "rd"
    refine ⟨b, u, rfl, SqL.of (e2 _ _ (e1 _ _ hb)), ?_⟩
    walk_at "rd"
    refine ⟨c, v, rfl, SqL.of (e2 _ _ (e1 _ _ hc)), ?_⟩
    walk_at "rd"
    refine ⟨lineR rfl, fun p3 hp3 => ?_⟩
    refine k.ret (e1.trans e2) hp3 ?_
    rw [sumInt_eq, sumInt_eq]
    rfl
theorem c_check_potentials {P : Program} {w : World} {K : PySem.W.Frag} {mg : Str → Option Value} {base : Heap} {Z : Cs} (T : TX K mg Z) (c_first_excess : Cal P w K mg base CX0 2 "first_excess" ["state", "need_numbers", "spare_numbers"] (sp_first_excess K Z)) (c_require : Cal P w K mg base (L2.CX P w) 3 "require" ["is_right", "code"] (sp_require K Z)) {f : Addr} {fd : FuncData} (g : mg "check_potentials" = some (.ref f)) (F : Fun K "check_potentials" "check_potentials" s_check_potentials f fd) : Cal P w K mg base (L2.CX P w) 4 "check_potentials" ["state", "needs", "spares"] (sp_check_potentials K Z) :=
  ⟨f, fd, g, F.kp, F.binds (ps := ["state", "needs", "spares"]) (fun _ _ _ _ _ _ us hl => match us, hl with | [_, _, _], _ => rfl), ok_check_potentials T c_first_excess c_require F⟩
abbrev s_get_tree : Stmt := top 110
abbrev N_get_tree : List Str := ["state", "found", "node"]
theorem sc_get_tree : FnScope N_get_tree ["state"] (defScope s_get_tree) := ⟨rfl, rfl, rfl, by decide +kernel, rfl, by decide +kernel, by decide +kernel⟩
def sp_get_tree (K : PySem.W.Frag) (Z : Cs) : Sp := sp1 fun x H Q _ => ∃ (a : Addr) (d : Design) (l : Ls) (asg : Nat), x = .ref a ∧ StAt K Z H a d l asg ∧ Wf d ∧ RetL ((resL (Kpd9.query d .getTree)).map V.int) H Q
set_option maxHeartbeats 4000000 in
theorem ok_get_tree {P : Program} {w : World} {K : PySem.W.Frag} {mg : Str → Option Value} {base : Heap} {Z : Cs} (T : TX K mg Z)  {f : Addr} {fd : FuncData} (F : Fun K "get_tree" "get_tree" s_get_tree f fd) : FnOk P w K mg base CX0 1 f fd ["state"] (sp_get_tree K Z) := by
  refine F.ok sc_get_tree len1 (fun cdv A outer s H vs Q E hr h => ⟨_, (pss_cons (ps_set (i := 1) sc_get_tree.nd rfl (Or.inl rfl) (pe_lst (pa_cons (pe_callB (lenK (K := K) rfl) (by rfl) T.b_len PySem.boot_len (pa_cons (fldK (K := K) rfl (pv 0) rfl) pa_nil)) pa_nil)))
    (pss_cons (ps_for PassesOwn.never rfl (pi_list (fldK (K := K) rfl (pv 0) rfl)) (pg_name (i := 2) sc_get_tree.nd rfl (Or.inl rfl)) (pss_one (ps_expr (pe_bm PySem.F.plainAttrs_list PySem.F.slot_list_extend PySem.F.type_list_extend mt_extend (pv 1) (pa_cons (pe_callTy call_list_of (by rfl) T.b_list (by decide +kernel) (pa_cons (pv 2) pa_nil)) pa_nil)))))
    (pss_one (ps_ret (pv 1))))), ?_⟩)
  obtain ⟨_, rfl, a, d, l, asg, rfl, S, W, k⟩ := h
  have hn := W.n1
  obtain ⟨xs, hx, hA⟩ := S.nodes
  have er : resL (Kpd9.query d .getTree) = [(d.nodes.length : Int)] ++ d.nodes.flatMap nodeRow := by
    rw [← tree_ints]
    rfl
  rw [er] at k
  walk_at "rd"
  refine ⟨l.nodes, xs, rfl, .inl (SqL.of hx), ?_⟩
  rw [hA.1]
  walk_at "rd"
  refine ⟨lineR rfl, fun F hF => ?_⟩
  have e1 := same_new (o := HO.lst [nv d.nodes.length]) hF
  have S1 := S.mono e1
  walk_at "rd"
  refine r_for fun D' hD => ?_
  walk_at "rd"
  refine ⟨l.nodes, rfl, ⟨_, SqL.of (e1 _ _ hx)⟩, for_list (D := D') (xs := xs) (fun i σ H' => (∃ v1, σ = [some (.ref a), some (.ref F), v1]) ∧ Same H H' ∧ H' F = some (.lst (([(d.nodes.length : Int)] ++ (d.nodes.take i).flatMap nodeRow).map V.int))) ?_ ?_ ?_ ?_⟩
  · exact ⟨⟨_, rfl⟩, e1, upd_same⟩
  · rintro i σ H' _ ⟨_, e, _⟩
    exact SqL.of (e _ _ hx)
  · rintro i x σ H' hi ⟨⟨v1, rfl⟩, e, hf⟩
    subst hD
    obtain ⟨n, en, p, rfl, hp⟩ := hA.get hi
    have et := take_more en
    have hil := lt_of_get en
    walk_at "rd"
    refine ⟨ty_list hf, ?_⟩
    walk_at "rd"
    refine ⟨p, _, rfl, .inr (Same.sqt e hp), fun p2 hp2 => ?_⟩
    have g1 := same_new (o := HO.lst ((nodeRow n).map V.int)) hp2
    walk_at "rd"
    have fl := rows_len (d.nodes.take i)
    rw [List.length_take] at fl
    refine ⟨F, p2, _, _, rfl, rfl, g1 _ _ hf, upd_same, line2 ?_, ?_⟩
    · rw [List.length_map, List.length_append, fl, List.length_map]
      show 1 + _ + 7 ≤ _
      omega
    walk_at "rd"
    refine ⟨⟨_, rfl⟩, same_mut (e.trans g1) hF, ?_⟩
    rw [upd_same, et, List.flatMap_append]
    simp [List.map_append]
  · rintro σ H' ⟨⟨v1, rfl⟩, e, hf⟩
    subst hD
    rw [List.take_of_length_le (by rw [hA.1]; exact Nat.le_refl _)] at hf
    walk_at "rd"
    exact k F H' hF e hf
theorem c_get_tree {P : Program} {w : World} {K : PySem.W.Frag} {mg : Str → Option Value} {base : Heap} {Z : Cs} (T : TX K mg Z)  {f : Addr} {fd : FuncData} (g : mg "get_tree" = some (.ref f)) (F : Fun K "get_tree" "get_tree" s_get_tree f fd) : Cal P w K mg base CX0 1 "get_tree" ["state"] (sp_get_tree K Z) :=
  ⟨f, fd, g, F.kp, F.binds (ps := ["state"]) (fun _ _ _ _ _ _ us hl => match us, hl with | [_], _ => rfl), ok_get_tree T  F⟩
abbrev s_summary : Stmt := top 111
abbrev N_summary : List Str := ["state", "counts"]
theorem sc_summary : FnScope N_summary ["state"] (defScope s_summary) := ⟨rfl, rfl, rfl, by decide +kernel, rfl, by decide +kernel, by decide +kernel⟩
def sp_summary (K : PySem.W.Frag) (Z : Cs) : Sp := sp1 fun x H Q _ => ∃ (a : Addr) (d : Design) (l : Ls), x = .ref a ∧ StAt K Z H a d l (asgOf d) ∧ Ok d ∧ RetL ((resL (Kpd9.query d .summary)).map V.int) H Q
set_option maxHeartbeats 4000000 in
theorem ok_summary {P : Program} {w : World} {K : PySem.W.Frag} {mg : Str → Option Value} {base : Heap} {Z : Cs} (T : TX K mg Z) (c_spent : Cal P w K mg base CX0 3 "spent" ["state"] (sp_spent K Z)) {f : Addr} {fd : FuncData} (F : Fun K "summary" "summary" s_summary f fd) : FnOk P w K mg base CX0 4 f fd ["state"] (sp_summary K Z) := by
  refine F.ok sc_summary len1 (fun cdv A outer s H vs Q E hr h => ⟨_, (pss_cons (ps_set (i := 1) sc_summary.nd rfl (Or.inl rfl) (pe_lst (pa_cons (pe_callB (lenK (K := K) rfl) (by rfl) T.b_len PySem.boot_len (pa_cons (fldK (K := K) rfl (pv 0) rfl) pa_nil)) (pa_cons (pe_callB (lenK (K := K) rfl) (by rfl) T.b_len PySem.boot_len (pa_cons (fldK (K := K) rfl (pv 0) rfl) pa_nil)) (pa_cons (fldK (K := K) rfl (pv 0) rfl) (pa_cons (pe_callB (lenK (K := K) rfl) (by rfl) T.b_len PySem.boot_len (pa_cons (fldK (K := K) rfl (pv 0) rfl) pa_nil)) (pa_cons (fldK (K := K) rfl (pv 0) rfl) pa_nil)))))))
    (pss_one (ps_ret (pe_op op_cat (pe_op op_cat (pe_lst (pa_cons (pe_c c_spent (hr.mono (by decide)) (by rfl) (pa_cons (pv 0) pa_nil)) (pa_cons (fldK (K := K) rfl (pv 0) rfl) pa_nil))) (pv 1)) (pe_lst (pa_cons (pe_callB (lenK (K := K) rfl) (by rfl) T.b_len PySem.boot_len (pa_cons (fldK (K := K) rfl (pv 0) rfl) pa_nil)) (pa_cons (pe_callB (lenK (K := K) rfl) (by rfl) T.b_len PySem.boot_len (pa_cons (fldK (K := K) rfl (pv 0) rfl) pa_nil)) pa_nil))))))), ?_⟩)
  obtain ⟨_, rfl, a, d, l, rfl, S, O, k⟩ := h
  have sum := O.sum
  obtain ⟨xs1, hx1, hA1⟩ := S.nodes
  obtain ⟨xs2, hx2, hA2⟩ := S.library
  obtain ⟨xs3, hx3, hA3⟩ := S.changes
  obtain ⟨xs4, hx4, hA4⟩ := S.needs
  obtain ⟨xs5, hx5, hA5⟩ := S.spares
  walk_at "rd"
  refine ⟨l.nodes, xs1, rfl, .inl (SqL.of hx1), ?_⟩
  rw [hA1.1]
  walk_at "rd"
  refine ⟨l.library, xs2, rfl, .inl (SqL.of hx2), ?_⟩
  rw [hA2.1]
  walk_at "rd"
  refine ⟨l.changes, xs3, rfl, .inl (SqL.of hx3), ?_⟩
  rw [hA3.1]
  walk_at "rd"
  refine ⟨lineR rfl, fun F hF => ?_⟩
  have e1 := same_new (o := HO.lst [nv d.nodes.length, nv d.library.length, nv d.repairs.violations, nv d.repairs.changes.length, nv d.repairs.applied]) hF
  have S1 := S.mono e1
  walk_at "rd"
  refine ⟨_, rfl, a, d, l, asgOf d, rfl, S1, O.wf, fun H2 e2 => ?_⟩
  rw [sum]
  have S2 := S1.mono e2
  walk_at "rd"
  refine ⟨lineR rfl, fun p1 hp1 => ?_⟩
  have e3 := same_new (o := HO.lst [nv d.spent, nv d.budget]) hp1
  walk_at "rd"
  refine r_cat upd_same (e3 _ _ (e2 _ _ upd_same)) (by simp) fun p2 hp2 => ?_
  have e4 := same_new (o := HO.lst ([nv d.spent, nv d.budget] ++ [nv d.nodes.length, nv d.library.length, nv d.repairs.violations, nv d.repairs.changes.length, nv d.repairs.applied])) hp2
  have e14 := ((e1.trans e2).trans e3).trans e4
  have S4 := S.mono e14
  walk_at "rd"
  refine ⟨l.needs, xs4, rfl, .inl (SqL.of (e14 _ _ hx4)), ?_⟩
  rw [hA4.1]
  walk_at "rd"
  refine ⟨l.spares, xs5, rfl, .inl (SqL.of (e14 _ _ hx5)), ?_⟩
  rw [hA5.1]
  walk_at "rd"
  refine ⟨lineR rfl, fun p3 hp3 => ?_⟩
  have e5 := same_new (o := HO.lst [nv d.needs.length, nv d.spares.length]) hp3
  refine r_cat (e5 _ _ upd_same) upd_same (by simp) fun p4 hp4 => ?_
  have e6 := e14.trans e5
  refine k p4 _ (e6.free hp4) (e6.trans (same_new hp4)) ?_
  rw [upd_same]
  rfl
theorem c_summary {P : Program} {w : World} {K : PySem.W.Frag} {mg : Str → Option Value} {base : Heap} {Z : Cs} (T : TX K mg Z) (c_spent : Cal P w K mg base CX0 3 "spent" ["state"] (sp_spent K Z)) {f : Addr} {fd : FuncData} (g : mg "summary" = some (.ref f)) (F : Fun K "summary" "summary" s_summary f fd) : Cal P w K mg base CX0 4 "summary" ["state"] (sp_summary K Z) :=
  ⟨f, fd, g, F.kp, F.binds (ps := ["state"]) (fun _ _ _ _ _ _ us hl => match us, hl with | [_], _ => rfl), ok_summary T c_spent F⟩
inductive TeQ : Nat → List Int → List Int → Kpd9.Request → Prop
  | t5 (c : List Nat) : TeQ 5 (Kpd9.toInts c) [] (.evaluate c)
  | t6 : TeQ 6 [] [] .bestBuffers
  | t7 (t : Int) (v : Nat) : TeQ 7 [t, (v : Int)] [] (.cheapestBuffers t v)
  | t8 : TeQ 8 [] [] .frontier
  | t9 (c : List Nat) : TeQ 9 (Kpd9.toInts c) [] (.criticalSink c)
  | t11 : TeQ 11 [] [] .getBuffers
  | t15 : TeQ 15 [] [] .cheapestRepair
  | t16 (z : Nat) : TeQ 16 [(z : Int)] [] (.checkRepair z)
  | t17 : TeQ 17 [] [] .essential
  | t18 : TeQ 18 [] [] .raisedPrices
  | t19 (p : List Nat) : TeQ 19 (Kpd9.toInts p) [] (.checkPrices p)
  | t23 : TeQ 23 [] [] .assignSpares
  | t24 : TeQ 24 [] [] .potentials
  | t25 (u v : List Int) : TeQ 25 u v (.checkPotentials u v)
  | t27 : TeQ 27 [] [] .getTree
  | t30 : TeQ 30 [] [] .summary
abbrev s_tree_told : Stmt := top 112
abbrev N_tree_told : List Str := ["state", "operation", "n"]
theorem sc_tree_told : FnScope N_tree_told ["state", "operation", "n"] (defScope s_tree_told) := ⟨rfl, rfl, rfl, by decide +kernel, rfl, by decide +kernel, by decide +kernel⟩
def sp_tree_told (K : PySem.W.Frag) (Z : Cs) : Sp := sp3 fun x y z H Q E => ∃ (a b : Addr) (d : Design) (l : Ls) (op : Nat) (args snd : List Int) (q : Kpd9.Request), x = .ref a ∧ y = nv op ∧ z = .ref b ∧ StAt K Z H a d l (asgOf d) ∧ Ok d ∧ H b = some (.lst (args.map V.int)) ∧ TeQ op args snd q ∧ (op ≤ 11 ∨ op = 27) ∧ Tell Z H Q E (resL (Kpd9.query d q))
set_option maxHeartbeats 4000000 in
theorem ok_tree_told {P : Program} {w : World} {K : PySem.W.Frag} {mg : Str → Option Value} {base : Heap} {Z : Cs} (T : TX K mg Z) (c_best_buffers : Cal P w K mg base (L2.CX P w) 6 "best_buffers" ["state"] (sp_best_buffers K Z)) (c_cheapest_buffers : Cal P w K mg base (L2.CX P w) 6 "cheapest_buffers" ["state", "n"] (sp_cheapest_buffers K Z)) (c_cost_of_buffers : Cal P w K mg base CX0 1 "cost_of_buffers" ["library", "choices"] (sp_cost_of_buffers K Z)) (c_critical_told : Cal P w K mg base (L2.CX P w) 5 "critical_told" ["state", "choices"] (sp_critical_told K Z)) (c_evaluate : Cal P w K mg base (L2.CX P w) 5 "evaluate" ["state", "choices"] (sp_evaluate K Z)) (c_frontier_told : Cal P w K mg base (L2.CX P w) 6 "frontier_told" ["state"] (sp_frontier_told K Z)) (c_get_tree : Cal P w K mg base CX0 1 "get_tree" ["state"] (sp_get_tree K Z)) {f : Addr} {fd : FuncData} (F : Fun K "tree_told" "tree_told" s_tree_told f fd) : FnOk P w K mg base (L2.CX P w) 7 f fd ["state", "operation", "n"] (sp_tree_told K Z) := by
  refine F.okX sc_tree_told len3 (fun cdv A outer s H vs Q E hr h => ⟨_, (pss_cons (ps_if (pt_cmpR op_eq (pv 1) pe_int (nomark _)) (pss_one (ps_ret (pe_cS c_evaluate (takes_of rfl rfl rfl rfl) (hr.mono (by decide)) (by rfl) (pa_cons (pv 0) (pa_cons (pv 2) pa_nil))))) pss_nil)
    (pss_cons (ps_if (pt_cmpR op_eq (pv 1) pe_int (nomark _)) (pss_one (ps_ret (pe_cS c_best_buffers (takes_of rfl rfl rfl rfl) (hr.mono (by decide)) (by rfl) (pa_cons (pv 0) pa_nil)))) pss_nil)
    (pss_cons (ps_if (pt_cmpR op_eq (pv 1) pe_int (nomark _)) (pss_one (ps_ret (pe_cS c_cheapest_buffers (takes_of rfl rfl rfl rfl) (hr.mono (by decide)) (by rfl) (pa_cons (pv 0) (pa_cons (pv 2) pa_nil))))) pss_nil)
    (pss_cons (ps_if (pt_cmpR op_eq (pv 1) pe_int (nomark _)) (pss_one (ps_ret (pe_cS c_frontier_told (takes_of rfl rfl rfl rfl) (hr.mono (by decide)) (by rfl) (pa_cons (pv 0) pa_nil)))) pss_nil)
    (pss_cons (ps_if (pt_cmpR op_eq (pv 1) pe_int (nomark _)) (pss_one (ps_ret (pe_cS c_critical_told (takes_of rfl rfl rfl rfl) (hr.mono (by decide)) (by rfl) (pa_cons (pv 0) (pa_cons (pv 2) pa_nil))))) pss_nil)
    (pss_one (ps_ret (pe_ifExp (pt_cmpR op_eq (pv 1) pe_int (nomark _)) (pe_op op_cat (pe_lst (pa_cons (pe_c c_cost_of_buffers (hr.mono (by decide)) (by rfl) (pa_cons (fldK (K := K) rfl (pv 0) rfl) (pa_cons (fldK (K := K) rfl (pv 0) rfl) pa_nil))) pa_nil)) (fldK (K := K) rfl (pv 0) rfl)) (pe_c c_get_tree (hr.mono (by decide)) (by rfl) (pa_cons (pv 0) pa_nil)))))))))), ?_⟩)
  obtain ⟨_, _, _, rfl, a, b, d, l, op, args, snd, q, rfl, rfl, rfl, S, O, hb, hq, hop, k⟩ := h
  have W := O.wf
  cases hq
  case t5 =>
    walk_at "rd"
    refine iteT ?_
    walk_at "rd"
    exact ⟨_, _, rfl, a, b, d, l, _, _, rfl, rfl, S, W, (by rw [nv_ints]; exact hb), k⟩
  case t6 =>
    walk_at "rd"
    refine iteF ?_
    walk_at "rd"
    refine iteT ?_
    walk_at "rd"
    exact ⟨_, rfl, a, d, l, _, rfl, S, W, k⟩
  case t7 =>
    walk_at "rd"
    refine iteF ?_
    walk_at "rd"
    refine iteF ?_
    walk_at "rd"
    refine iteT ?_
    walk_at "rd"
    exact ⟨_, _, rfl, a, b, d, l, _, _, _, rfl, rfl, S, W, hb, k⟩
  case t8 =>
    walk_at "rd"
    refine iteF ?_
    walk_at "rd"
    refine iteF ?_
    walk_at "rd"
    refine iteF ?_
    walk_at "rd"
    refine iteT ?_
    walk_at "rd"
    exact ⟨_, rfl, a, d, l, _, rfl, S, W, k⟩
  case t9 =>
    walk_at "rd"
    refine iteF ?_
    walk_at "rd"
    refine iteF ?_
    walk_at "rd"
    refine iteF ?_
    walk_at "rd"
    refine iteF ?_
    walk_at "rd"
    refine iteT ?_
    walk_at "rd"
    exact ⟨_, _, rfl, a, b, d, l, _, _, rfl, rfl, S, W, (by rw [nv_ints]; exact hb), k⟩
  case t11 =>
    walk_at "rd"
    refine iteF ?_
    walk_at "rd"
    refine iteF ?_
    walk_at "rd"
    refine iteF ?_
    walk_at "rd"
    refine iteF ?_
    walk_at "rd"
    refine iteF ?_
    walk_at "rd"
    refine iteT ?_
    walk_at "rd"
    have c := areChoices_ok W.ch
    have hn1 := W.n1
    refine ⟨_, _, rfl, l.library, l.choices, d.library, d.choices, rfl, rfl, S.library, S.choices, by rw [c.1]; omega, c.2, fun H1 e1 => ?_⟩
    have S1 := S.mono e1
    walk_at "rd"
    refine ⟨lineR rfl, fun p1 hp1 => ?_⟩
    have e2 := same_new (o := HO.lst [nv (Kpd9.costOf d.library d.choices)]) hp1
    have S2 := S1.mono e2
    walk_at "rd"
    refine r_cat upd_same S2.choices (by simp; rw [c.1]; omega) fun p3 hp3 => ?_
    refine k.ret (e1.trans e2) hp3 ?_
    rw [nv_ints]
    rfl
  case t27 =>
    walk_at "rd"
    refine iteF ?_
    walk_at "rd"
    refine iteF ?_
    walk_at "rd"
    refine iteF ?_
    walk_at "rd"
    refine iteF ?_
    walk_at "rd"
    refine iteF ?_
    walk_at "rd"
    refine iteF ?_
    walk_at "rd"
    exact ⟨_, rfl, a, d, l, _, rfl, S, W, k.1⟩
  all_goals omega
theorem c_tree_told {P : Program} {w : World} {K : PySem.W.Frag} {mg : Str → Option Value} {base : Heap} {Z : Cs} (T : TX K mg Z) (c_best_buffers : Cal P w K mg base (L2.CX P w) 6 "best_buffers" ["state"] (sp_best_buffers K Z)) (c_cheapest_buffers : Cal P w K mg base (L2.CX P w) 6 "cheapest_buffers" ["state", "n"] (sp_cheapest_buffers K Z)) (c_cost_of_buffers : Cal P w K mg base CX0 1 "cost_of_buffers" ["library", "choices"] (sp_cost_of_buffers K Z)) (c_critical_told : Cal P w K mg base (L2.CX P w) 5 "critical_told" ["state", "choices"] (sp_critical_told K Z)) (c_evaluate : Cal P w K mg base (L2.CX P w) 5 "evaluate" ["state", "choices"] (sp_evaluate K Z)) (c_frontier_told : Cal P w K mg base (L2.CX P w) 6 "frontier_told" ["state"] (sp_frontier_told K Z)) (c_get_tree : Cal P w K mg base CX0 1 "get_tree" ["state"] (sp_get_tree K Z)) {f : Addr} {fd : FuncData} (g : mg "tree_told" = some (.ref f)) (F : Fun K "tree_told" "tree_told" s_tree_told f fd) : Cal P w K mg base (L2.CX P w) 7 "tree_told" ["state", "operation", "n"] (sp_tree_told K Z) :=
  ⟨f, fd, g, F.kp, F.binds (ps := ["state", "operation", "n"]) (fun _ _ _ _ _ _ us hl => match us, hl with | [_, _, _], _ => rfl), ok_tree_told T c_best_buffers c_cheapest_buffers c_cost_of_buffers c_critical_told c_evaluate c_frontier_told c_get_tree F⟩
abbrev s_repair_told : Stmt := top 113
abbrev N_repair_told : List Str := ["state", "operation", "n"]
theorem sc_repair_told : FnScope N_repair_told ["state", "operation", "n"] (defScope s_repair_told) := ⟨rfl, rfl, rfl, by decide +kernel, rfl, by decide +kernel, by decide +kernel⟩
def sp_repair_told (K : PySem.W.Frag) (Z : Cs) : Sp := sp3 fun x y z H Q E => ∃ (a b : Addr) (d : Design) (l : Ls) (op : Nat) (args snd : List Int) (q : Kpd9.Request), x = .ref a ∧ y = nv op ∧ z = .ref b ∧ StAt K Z H a d l (asgOf d) ∧ Ok d ∧ H b = some (.lst (args.map V.int)) ∧ TeQ op args snd q ∧ (12 ≤ op ∧ op ≤ 19) ∧ Tell Z H Q E (resL (Kpd9.query d q))
set_option maxHeartbeats 4000000 in
theorem ok_repair_told {P : Program} {w : World} {K : PySem.W.Frag} {mg : Str → Option Value} {base : Heap} {Z : Cs} (T : TX K mg Z) (c_cheapest_repair : Cal P w K mg base (L2.CX P w) 6 "cheapest_repair" ["state"] (sp_cheapest_repair K Z)) (c_check_prices : Cal P w K mg base (L2.CX P w) 5 "check_prices" ["state", "prices"] (sp_check_prices K Z)) (c_check_repair : Cal P w K mg base (L2.CX P w) 4 "check_repair" ["state", "chosen"] (sp_check_repair K Z)) (c_essential : Cal P w K mg base (L2.CX P w) 6 "essential" ["state"] (sp_essential K Z)) (c_prices_told : Cal P w K mg base CX0 6 "prices_told" ["state"] (sp_prices_told K Z)) {f : Addr} {fd : FuncData} (F : Fun K "repair_told" "repair_told" s_repair_told f fd) : FnOk P w K mg base (L2.CX P w) 7 f fd ["state", "operation", "n"] (sp_repair_told K Z) := by
  refine F.okX sc_repair_told len3 (fun cdv A outer s H vs Q E hr h => ⟨_, (pss_cons (ps_if (pt_cmpR op_eq (pv 1) pe_int (nomark _)) (pss_one (ps_ret (pe_cS c_cheapest_repair (takes_of rfl rfl rfl rfl) (hr.mono (by decide)) (by rfl) (pa_cons (pv 0) pa_nil)))) pss_nil)
    (pss_cons (ps_if (pt_cmpR op_eq (pv 1) pe_int (nomark _)) (pss_one (ps_ret (pe_cS c_check_repair (takes_of rfl rfl rfl rfl) (hr.mono (by decide)) (by rfl) (pa_cons (pv 0) (pa_cons (pe_ix (ixL (K := K) rfl) (pv 2) pe_int (fun _ _ => rfl)) pa_nil))))) pss_nil)
    (pss_cons (ps_if (pt_cmpR op_eq (pv 1) pe_int (nomark _)) (pss_one (ps_ret (pe_cS c_essential (takes_of rfl rfl rfl rfl) (hr.mono (by decide)) (by rfl) (pa_cons (pv 0) pa_nil)))) pss_nil)
    (pss_one (ps_ret (pe_ifExp (pt_cmpR op_eq (pv 1) pe_int (nomark _)) (pe_c c_prices_told (hr.mono (by decide)) (by rfl) (pa_cons (pv 0) pa_nil)) (pe_cS c_check_prices (takes_of rfl rfl rfl rfl) (hr.mono (by decide)) (by rfl) (pa_cons (pv 0) (pa_cons (pv 2) pa_nil))))))))), ?_⟩)
  obtain ⟨_, _, _, rfl, a, b, d, l, op, args, snd, q, rfl, rfl, rfl, S, O, hb, hq, hop, k⟩ := h
  have W := O.wf
  cases hq
  case t15 =>
    walk_at "rd"
    refine iteT ?_
    walk_at "rd"
    exact ⟨_, rfl, a, d, l, _, rfl, S, W, k⟩
  case t16 =>
    walk_at "rd"
    refine iteF ?_
    walk_at "rd"
    refine iteT ?_
    walk_at "rd"
    refine r_ixL (SqL.of hb) rfl ?_
    walk_at "rd"
    exact ⟨_, _, rfl, a, d, l, _, _, rfl, rfl, S, W, k⟩
  case t17 =>
    walk_at "rd"
    refine iteF ?_
    walk_at "rd"
    refine iteF ?_
    walk_at "rd"
    refine iteT ?_
    walk_at "rd"
    exact ⟨_, rfl, a, d, l, _, rfl, S, W, k⟩
  case t18 =>
    walk_at "rd"
    refine iteF ?_
    walk_at "rd"
    refine iteF ?_
    walk_at "rd"
    refine iteF ?_
    walk_at "rd"
    refine iteT ?_
    walk_at "rd"
    exact ⟨_, rfl, a, d, l, _, rfl, S, W, k.1⟩
  case t19 =>
    walk_at "rd"
    refine iteF ?_
    walk_at "rd"
    refine iteF ?_
    walk_at "rd"
    refine iteF ?_
    walk_at "rd"
    refine iteF ?_
    walk_at "rd"
    exact ⟨_, _, rfl, a, b, d, l, _, _, rfl, rfl, S, W, (by rw [nv_ints]; exact hb), k⟩
  all_goals omega
theorem c_repair_told {P : Program} {w : World} {K : PySem.W.Frag} {mg : Str → Option Value} {base : Heap} {Z : Cs} (T : TX K mg Z) (c_cheapest_repair : Cal P w K mg base (L2.CX P w) 6 "cheapest_repair" ["state"] (sp_cheapest_repair K Z)) (c_check_prices : Cal P w K mg base (L2.CX P w) 5 "check_prices" ["state", "prices"] (sp_check_prices K Z)) (c_check_repair : Cal P w K mg base (L2.CX P w) 4 "check_repair" ["state", "chosen"] (sp_check_repair K Z)) (c_essential : Cal P w K mg base (L2.CX P w) 6 "essential" ["state"] (sp_essential K Z)) (c_prices_told : Cal P w K mg base CX0 6 "prices_told" ["state"] (sp_prices_told K Z)) {f : Addr} {fd : FuncData} (g : mg "repair_told" = some (.ref f)) (F : Fun K "repair_told" "repair_told" s_repair_told f fd) : Cal P w K mg base (L2.CX P w) 7 "repair_told" ["state", "operation", "n"] (sp_repair_told K Z) :=
  ⟨f, fd, g, F.kp, F.binds (ps := ["state", "operation", "n"]) (fun _ _ _ _ _ _ us hl => match us, hl with | [_, _, _], _ => rfl), ok_repair_told T c_cheapest_repair c_check_prices c_check_repair c_essential c_prices_told F⟩
abbrev s_told : Stmt := top 114
abbrev N_told : List Str := ["state", "operation", "n", "second"]
theorem sc_told : FnScope N_told ["state", "operation", "n", "second"] (defScope s_told) := ⟨rfl, rfl, rfl, by decide +kernel, rfl, by decide +kernel, by decide +kernel⟩
def sp_told (K : PySem.W.Frag) (Z : Cs) : Sp := sp4 fun w x y z H Q E => ∃ (a b c : Addr) (d : Design) (l : Ls) (op : Nat) (args snd : List Int) (q : Kpd9.Request), w = .ref a ∧ x = nv op ∧ y = .ref b ∧ z = .ref c ∧ StAt K Z H a d l (asgOf d) ∧ Ok d ∧ H b = some (.lst (args.map V.int)) ∧ H c = some (.lst (snd.map V.int)) ∧ TeQ op args snd q ∧ Tell Z H Q E (resL (Kpd9.query d q))
set_option maxHeartbeats 4000000 in
theorem ok_told {P : Program} {w : World} {K : PySem.W.Frag} {mg : Str → Option Value} {base : Heap} {Z : Cs} (T : TX K mg Z) (c_assign_spares : Cal P w K mg base (L2.CX P w) 4 "assign_spares" ["state"] (sp_assign_spares K Z)) (c_check_potentials : Cal P w K mg base (L2.CX P w) 4 "check_potentials" ["state", "needs", "spares"] (sp_check_potentials K Z)) (c_potentials_told : Cal P w K mg base (L2.CX P w) 4 "potentials_told" ["state"] (sp_potentials_told K Z)) (c_repair_told : Cal P w K mg base (L2.CX P w) 7 "repair_told" ["state", "operation", "n"] (sp_repair_told K Z)) (c_summary : Cal P w K mg base CX0 4 "summary" ["state"] (sp_summary K Z)) (c_tree_told : Cal P w K mg base (L2.CX P w) 7 "tree_told" ["state", "operation", "n"] (sp_tree_told K Z)) {f : Addr} {fd : FuncData} (F : Fun K "told" "told" s_told f fd) : FnOk P w K mg base (L2.CX P w) 8 f fd ["state", "operation", "n", "second"] (sp_told K Z) := by
  refine F.okX sc_told len4 (fun cdv A outer s H vs Q E hr h => ⟨_, (pss_cons (ps_if (PW.pt (pw_or (pt_cmpR op_le (pv 1) pe_int (nomark _)) (pw_or1 (pt_cmpR op_eq (pv 1) pe_int (nomark _))))) (pss_one (ps_ret (pe_cS c_tree_told (takes_of rfl rfl rfl rfl) (hr.mono (by decide)) (by rfl) (pa_cons (pv 0) (pa_cons (pv 1) (pa_cons (pv 2) pa_nil)))))) pss_nil)
    (pss_cons (ps_if (pt_cmpR op_le (pv 1) pe_int (nomark _)) (pss_one (ps_ret (pe_cS c_repair_told (takes_of rfl rfl rfl rfl) (hr.mono (by decide)) (by rfl) (pa_cons (pv 0) (pa_cons (pv 1) (pa_cons (pv 2) pa_nil)))))) pss_nil)
    (pss_cons (ps_if (pt_cmpR op_eq (pv 1) pe_int (nomark _)) (pss_one (ps_ret (pe_cS c_assign_spares (takes_of rfl rfl rfl rfl) (hr.mono (by decide)) (by rfl) (pa_cons (pv 0) pa_nil)))) pss_nil)
    (pss_cons (ps_if (pt_cmpR op_eq (pv 1) pe_int (nomark _)) (pss_one (ps_ret (pe_cS c_potentials_told (takes_of rfl rfl rfl rfl) (hr.mono (by decide)) (by rfl) (pa_cons (pv 0) pa_nil)))) pss_nil)
    (pss_one (ps_ret (pe_ifExp (pt_cmpR op_eq (pv 1) pe_int (nomark _)) (pe_cS c_check_potentials (takes_of rfl rfl rfl rfl) (hr.mono (by decide)) (by rfl) (pa_cons (pv 0) (pa_cons (pv 2) (pa_cons (pv 3) pa_nil)))) (pe_c c_summary (hr.mono (by decide)) (by rfl) (pa_cons (pv 0) pa_nil))))))))), ?_⟩)
  obtain ⟨_, _, _, _, rfl, a, b, c, d, l, op, args, snd, q, rfl, rfl, rfl, rfl, S, O, hb, hc, hq, k⟩ := h
  have W := O.wf
  walk_at "rd"
  refine ifd (fun h1 => ?_) (fun h1 => ?_)
  · refine iteT ?_
    walk_at "rd"
    exact ⟨_, _, _, rfl, a, b, d, l, op, args, snd, q, rfl, rfl, rfl, S, O, hb, hq, .inl (by omega), k⟩
  walk_at "rd"
  refine ifE (fun h2 => ?_) (fun h2 => ?_)
  · walk_at "rd"
    exact ⟨_, _, _, rfl, a, b, d, l, op, args, snd, q, rfl, rfl, rfl, S, O, hb, hq, .inr (by omega), k⟩
  walk_at "rd"
  refine ifd (fun h3 => ?_) (fun h3 => ?_)
  · walk_at "rd"
    exact ⟨_, _, _, rfl, a, b, d, l, op, args, snd, q, rfl, rfl, rfl, S, O, hb, hq, ⟨by omega, by omega⟩, k⟩
  cases hq
  case t23 =>
    walk_at "rd"
    refine iteT ?_
    walk_at "rd"
    exact ⟨_, rfl, a, d, l, _, rfl, S, W, k⟩
  case t24 =>
    walk_at "rd"
    refine iteF ?_
    walk_at "rd"
    refine iteT ?_
    walk_at "rd"
    exact ⟨_, rfl, a, d, l, _, rfl, S, W, k⟩
  case t25 =>
    walk_at "rd"
    refine iteF ?_
    walk_at "rd"
    refine iteF ?_
    walk_at "rd"
    refine iteT ?_
    walk_at "rd"
    exact ⟨_, _, _, rfl, a, b, c, d, l, _, _, _, rfl, rfl, rfl, S, W, hb, hc, k⟩
  case t30 =>
    walk_at "rd"
    refine iteF ?_
    walk_at "rd"
    refine iteF ?_
    walk_at "rd"
    refine iteF ?_
    walk_at "rd"
    exact ⟨_, rfl, a, d, l, rfl, S, O, k.1⟩
  all_goals omega
theorem c_told {P : Program} {w : World} {K : PySem.W.Frag} {mg : Str → Option Value} {base : Heap} {Z : Cs} (T : TX K mg Z) (c_assign_spares : Cal P w K mg base (L2.CX P w) 4 "assign_spares" ["state"] (sp_assign_spares K Z)) (c_check_potentials : Cal P w K mg base (L2.CX P w) 4 "check_potentials" ["state", "needs", "spares"] (sp_check_potentials K Z)) (c_potentials_told : Cal P w K mg base (L2.CX P w) 4 "potentials_told" ["state"] (sp_potentials_told K Z)) (c_repair_told : Cal P w K mg base (L2.CX P w) 7 "repair_told" ["state", "operation", "n"] (sp_repair_told K Z)) (c_summary : Cal P w K mg base CX0 4 "summary" ["state"] (sp_summary K Z)) (c_tree_told : Cal P w K mg base (L2.CX P w) 7 "tree_told" ["state", "operation", "n"] (sp_tree_told K Z)) {f : Addr} {fd : FuncData} (g : mg "told" = some (.ref f)) (F : Fun K "told" "told" s_told f fd) : Cal P w K mg base (L2.CX P w) 8 "told" ["state", "operation", "n", "second"] (sp_told K Z) :=
  ⟨f, fd, g, F.kp, F.binds (ps := ["state", "operation", "n", "second"]) (fun _ _ _ _ _ _ us hl => match us, hl with | [_, _, _, _], _ => rfl), ok_told T c_assign_spares c_check_potentials c_potentials_told c_repair_told c_summary c_tree_told F⟩


def d0 (dr bu : Nat) : Design := ⟨dr, [⟨0, 0, 0, false, none⟩], [], [0], ⟨0, [], [], 0⟩, [], [], bu, 0⟩
theorem kp_put {a p : Addr} {H : Hp} {o o' : HO} (h : H p = none) : Kp a H (upd (upd H p o) a o') := (Kp.of (same_new h)).trans Kp.upd
theorem kp_lst {a b : Addr} {H H' : Hp} {C dx : Addr} {fs : List (Str × V)} {xs : List V} (k : Kp a H H') (ha : H a = some (.ins C dx fs)) (h : H b = some (.lst xs)) : H' b = some (.lst xs) :=
  k b _ (fun z => by rw [z, ha] at h; cases h) h
theorem ne_ins {a b : Addr} {H : Hp} {C dx : Addr} {fs : List (Str × V)} (ha : H a = some (.ins C dx fs)) (h : H b = none) : b ≠ a := fun z => by rw [z, ha] at h; cases h
theorem new_at {a p : Addr} {H : Hp} {C dx : Addr} {fs : List (Str × V)} {xs : List V} {o : HO} (ha : H a = some (.ins C dx fs)) (h : H p = none) : upd (upd H p (.lst xs)) a o p = some (.lst xs) := by
  rw [upd_ne (ne_ins ha h), upd_same]
theorem kp_free {a p : Addr} {H H' : Hp} (k : Kp a H H') (ne : p ≠ a) (h : H' p = none) : H p = none := by
  cases hc : H p with
  | none => rfl
  | some o =>
    rw [k _ _ ne hc] at h
    cases h
abbrev s_State_init : Stmt := inClass (top 117) 0
abbrev N_State_init : List Str := ["self", "driver", "budget"]
theorem sc_State_init : FnScope N_State_init ["self", "driver", "budget"] (defScope s_State_init) := ⟨rfl, rfl, rfl, by decide +kernel, rfl, by decide +kernel, by decide +kernel⟩
def sp_State_init (K : PySem.W.Frag) (Z : Cs) : Sp := sp3 fun x y z H Q _ => ∃ (a dx : Addr) (dr bu : Nat), x = .ref a ∧ y = nv dr ∧ z = nv bu ∧ H a = some (.ins Z.CS dx []) ∧ ∀ l H2, Kp a H H2 → (∀ b ∈ ownA a l, b = a ∨ H b = none) → StAt K Z H2 a (d0 dr bu) l 0 → Q .non H2
set_option maxHeartbeats 4000000 in
theorem ok_State_init {P : Program} {w : World} {K : PySem.W.Frag} {mg : Str → Option Value} {base : Heap} {Z : Cs} (T : TX K mg Z)  {f : Addr} {fd : FuncData} (F : Fun K "__init__" "State.__init__" s_State_init f fd) : FnOk P w K mg base CX0 1 f fd ["self", "driver", "budget"] (sp_State_init K Z) := by
  refine F.ok sc_State_init len3 (fun cdv A outer s H vs Q E hr h => ⟨_, (pss_cons (ps_fld (pv 0) (pv 1) rfl)
    (pss_cons (ps_fld (pv 0) (pv 2) rfl)
    (pss_cons (ps_fld (pv 0) (pe_lst (pa_cons (pe_gr T.c_ROOT (by rfl)) pa_nil)) rfl)
    (pss_cons (ps_fld (pv 0) (pe_lst pa_nil) rfl)
    (pss_cons (ps_fld (pv 0) (pe_lst (pa_cons pe_int pa_nil)) rfl)
    (pss_cons (ps_fld (pv 0) pe_int rfl)
    (pss_cons (ps_fld (pv 0) (pe_lst pa_nil) rfl)
    (pss_cons (ps_fld (pv 0) (pe_lst pa_nil) rfl)
    (pss_cons (ps_fld (pv 0) pe_int rfl)
    (pss_cons (ps_fld (pv 0) (pe_lst pa_nil) rfl)
    (pss_cons (ps_fld (pv 0) (pe_lst pa_nil) rfl)
    (pss_one (ps_fld (pv 0) pe_int rfl))))))))))))), ?_⟩)
  obtain ⟨_, _, _, rfl, a, dx, dr, bu, rfl, rfl, rfl, ha, k⟩ := h
  have kp0 : Kp a H H := fun _ _ _ h => h
  walk_at "rd"
  refine r_fput ha T.clS T.nS_driver (by first | simp | exact stF_len) (gs := [("driver", nv dr)]) rfl ?_
  have kk1 : Kp a H (upd H a (.ins Z.CS dx [("driver", nv dr)])) := Kp.upd
  have ob1 : (upd H a (.ins Z.CS dx [("driver", nv dr)])) a = some (.ins Z.CS dx [("driver", nv dr)]) := upd_same
  have kp1 := kp0.trans kk1
  generalize upd H a (.ins Z.CS dx [("driver", nv dr)]) = H1 at *
  walk_at "rd"
  refine r_fput ob1 T.clS T.nS_budget (by first | simp | exact stF_len) (gs := [("driver", nv dr), ("budget", nv bu)]) rfl ?_
  have kk2 : Kp a H1 (upd H1 a (.ins Z.CS dx [("driver", nv dr), ("budget", nv bu)])) := Kp.upd
  have ob2 : (upd H1 a (.ins Z.CS dx [("driver", nv dr), ("budget", nv bu)])) a = some (.ins Z.CS dx [("driver", nv dr), ("budget", nv bu)]) := upd_same
  have kp2 := kp1.trans kk2
  generalize upd H1 a (.ins Z.CS dx [("driver", nv dr), ("budget", nv bu)]) = H2 at *
  walk_at "rd"
  refine ⟨lineR rfl, fun p_nodes h_nodes => ?_⟩
  have ha3 := same_new (o := HO.lst [.ref Z.aROOT]) h_nodes _ _ ob2
  walk_at "rd"
  refine r_fput ha3 T.clS T.nS_nodes (by first | simp | exact stF_len) (gs := [("driver", nv dr), ("budget", nv bu), ("nodes", .ref p_nodes)]) rfl ?_
  have fr_nodes : H p_nodes = none := kp_free kp2 (ne_ins ob2 h_nodes) h_nodes
  have kk3 : Kp a H2 (upd (upd H2 p_nodes (.lst [.ref Z.aROOT])) a (.ins Z.CS dx [("driver", nv dr), ("budget", nv bu), ("nodes", .ref p_nodes)])) := kp_put h_nodes
  have l_nodes : (upd (upd H2 p_nodes (.lst [.ref Z.aROOT])) a (.ins Z.CS dx [("driver", nv dr), ("budget", nv bu), ("nodes", .ref p_nodes)])) p_nodes = some (.lst [.ref Z.aROOT]) := new_at ob2 h_nodes
  have ob3 : (upd (upd H2 p_nodes (.lst [.ref Z.aROOT])) a (.ins Z.CS dx [("driver", nv dr), ("budget", nv bu), ("nodes", .ref p_nodes)])) a = some (.ins Z.CS dx [("driver", nv dr), ("budget", nv bu), ("nodes", .ref p_nodes)]) := upd_same
  have kp3 := kp2.trans kk3
  generalize upd (upd H2 p_nodes (.lst [.ref Z.aROOT])) a (.ins Z.CS dx [("driver", nv dr), ("budget", nv bu), ("nodes", .ref p_nodes)]) = H3 at *
  walk_at "rd"
  refine ⟨lineR rfl, fun p_library h_library => ?_⟩
  have ha4 := same_new (o := HO.lst []) h_library _ _ ob3
  walk_at "rd"
  refine r_fput ha4 T.clS T.nS_library (by first | simp | exact stF_len) (gs := [("driver", nv dr), ("budget", nv bu), ("nodes", .ref p_nodes), ("library", .ref p_library)]) rfl ?_
  have fr_library : H p_library = none := kp_free kp3 (ne_ins ob3 h_library) h_library
  have kk4 : Kp a H3 (upd (upd H3 p_library (.lst [])) a (.ins Z.CS dx [("driver", nv dr), ("budget", nv bu), ("nodes", .ref p_nodes), ("library", .ref p_library)])) := kp_put h_library
  replace l_nodes := kp_lst kk4 ob3 l_nodes
  have l_library : (upd (upd H3 p_library (.lst [])) a (.ins Z.CS dx [("driver", nv dr), ("budget", nv bu), ("nodes", .ref p_nodes), ("library", .ref p_library)])) p_library = some (.lst []) := new_at ob3 h_library
  have ob4 : (upd (upd H3 p_library (.lst [])) a (.ins Z.CS dx [("driver", nv dr), ("budget", nv bu), ("nodes", .ref p_nodes), ("library", .ref p_library)])) a = some (.ins Z.CS dx [("driver", nv dr), ("budget", nv bu), ("nodes", .ref p_nodes), ("library", .ref p_library)]) := upd_same
  have kp4 := kp3.trans kk4
  generalize upd (upd H3 p_library (.lst [])) a (.ins Z.CS dx [("driver", nv dr), ("budget", nv bu), ("nodes", .ref p_nodes), ("library", .ref p_library)]) = H4 at *
  walk_at "rd"
  refine ⟨lineR rfl, fun p_choices h_choices => ?_⟩
  have ha5 := same_new (o := HO.lst [.int 0]) h_choices _ _ ob4
  walk_at "rd"
  refine r_fput ha5 T.clS T.nS_choices (by first | simp | exact stF_len) (gs := [("driver", nv dr), ("budget", nv bu), ("nodes", .ref p_nodes), ("library", .ref p_library), ("choices", .ref p_choices)]) rfl ?_
  have fr_choices : H p_choices = none := kp_free kp4 (ne_ins ob4 h_choices) h_choices
  have kk5 : Kp a H4 (upd (upd H4 p_choices (.lst [.int 0])) a (.ins Z.CS dx [("driver", nv dr), ("budget", nv bu), ("nodes", .ref p_nodes), ("library", .ref p_library), ("choices", .ref p_choices)])) := kp_put h_choices
  replace l_nodes := kp_lst kk5 ob4 l_nodes
  replace l_library := kp_lst kk5 ob4 l_library
  have l_choices : (upd (upd H4 p_choices (.lst [.int 0])) a (.ins Z.CS dx [("driver", nv dr), ("budget", nv bu), ("nodes", .ref p_nodes), ("library", .ref p_library), ("choices", .ref p_choices)])) p_choices = some (.lst [.int 0]) := new_at ob4 h_choices
  have ob5 : (upd (upd H4 p_choices (.lst [.int 0])) a (.ins Z.CS dx [("driver", nv dr), ("budget", nv bu), ("nodes", .ref p_nodes), ("library", .ref p_library), ("choices", .ref p_choices)])) a = some (.ins Z.CS dx [("driver", nv dr), ("budget", nv bu), ("nodes", .ref p_nodes), ("library", .ref p_library), ("choices", .ref p_choices)]) := upd_same
  have kp5 := kp4.trans kk5
  generalize upd (upd H4 p_choices (.lst [.int 0])) a (.ins Z.CS dx [("driver", nv dr), ("budget", nv bu), ("nodes", .ref p_nodes), ("library", .ref p_library), ("choices", .ref p_choices)]) = H5 at *
  walk_at "rd"
  refine r_fput ob5 T.clS T.nS_violations (by first | simp | exact stF_len) (gs := [("driver", nv dr), ("budget", nv bu), ("nodes", .ref p_nodes), ("library", .ref p_library), ("choices", .ref p_choices), ("violations", .int 0)]) rfl ?_
  have kk6 : Kp a H5 (upd H5 a (.ins Z.CS dx [("driver", nv dr), ("budget", nv bu), ("nodes", .ref p_nodes), ("library", .ref p_library), ("choices", .ref p_choices), ("violations", .int 0)])) := Kp.upd
  replace l_nodes := kp_lst kk6 ob5 l_nodes
  replace l_library := kp_lst kk6 ob5 l_library
  replace l_choices := kp_lst kk6 ob5 l_choices
  have ob6 : (upd H5 a (.ins Z.CS dx [("driver", nv dr), ("budget", nv bu), ("nodes", .ref p_nodes), ("library", .ref p_library), ("choices", .ref p_choices), ("violations", .int 0)])) a = some (.ins Z.CS dx [("driver", nv dr), ("budget", nv bu), ("nodes", .ref p_nodes), ("library", .ref p_library), ("choices", .ref p_choices), ("violations", .int 0)]) := upd_same
  have kp6 := kp5.trans kk6
  generalize upd H5 a (.ins Z.CS dx [("driver", nv dr), ("budget", nv bu), ("nodes", .ref p_nodes), ("library", .ref p_library), ("choices", .ref p_choices), ("violations", .int 0)]) = H6 at *
  walk_at "rd"
  refine ⟨lineR rfl, fun p_changes h_changes => ?_⟩
  have ha7 := same_new (o := HO.lst []) h_changes _ _ ob6
  walk_at "rd"
  refine r_fput ha7 T.clS T.nS_changes (by first | simp | exact stF_len) (gs := [("driver", nv dr), ("budget", nv bu), ("nodes", .ref p_nodes), ("library", .ref p_library), ("choices", .ref p_choices), ("violations", .int 0), ("changes", .ref p_changes)]) rfl ?_
  have fr_changes : H p_changes = none := kp_free kp6 (ne_ins ob6 h_changes) h_changes
  have kk7 : Kp a H6 (upd (upd H6 p_changes (.lst [])) a (.ins Z.CS dx [("driver", nv dr), ("budget", nv bu), ("nodes", .ref p_nodes), ("library", .ref p_library), ("choices", .ref p_choices), ("violations", .int 0), ("changes", .ref p_changes)])) := kp_put h_changes
  replace l_nodes := kp_lst kk7 ob6 l_nodes
  replace l_library := kp_lst kk7 ob6 l_library
  replace l_choices := kp_lst kk7 ob6 l_choices
  have l_changes : (upd (upd H6 p_changes (.lst [])) a (.ins Z.CS dx [("driver", nv dr), ("budget", nv bu), ("nodes", .ref p_nodes), ("library", .ref p_library), ("choices", .ref p_choices), ("violations", .int 0), ("changes", .ref p_changes)])) p_changes = some (.lst []) := new_at ob6 h_changes
  have ob7 : (upd (upd H6 p_changes (.lst [])) a (.ins Z.CS dx [("driver", nv dr), ("budget", nv bu), ("nodes", .ref p_nodes), ("library", .ref p_library), ("choices", .ref p_choices), ("violations", .int 0), ("changes", .ref p_changes)])) a = some (.ins Z.CS dx [("driver", nv dr), ("budget", nv bu), ("nodes", .ref p_nodes), ("library", .ref p_library), ("choices", .ref p_choices), ("violations", .int 0), ("changes", .ref p_changes)]) := upd_same
  have kp7 := kp6.trans kk7
  generalize upd (upd H6 p_changes (.lst [])) a (.ins Z.CS dx [("driver", nv dr), ("budget", nv bu), ("nodes", .ref p_nodes), ("library", .ref p_library), ("choices", .ref p_choices), ("violations", .int 0), ("changes", .ref p_changes)]) = H7 at *
  walk_at "rd"
  refine ⟨lineR rfl, fun p_conflicts h_conflicts => ?_⟩
  have ha8 := same_new (o := HO.lst []) h_conflicts _ _ ob7
  walk_at "rd"
  refine r_fput ha8 T.clS T.nS_conflicts (by first | simp | exact stF_len) (gs := [("driver", nv dr), ("budget", nv bu), ("nodes", .ref p_nodes), ("library", .ref p_library), ("choices", .ref p_choices), ("violations", .int 0), ("changes", .ref p_changes), ("conflicts", .ref p_conflicts)]) rfl ?_
  have fr_conflicts : H p_conflicts = none := kp_free kp7 (ne_ins ob7 h_conflicts) h_conflicts
  have kk8 : Kp a H7 (upd (upd H7 p_conflicts (.lst [])) a (.ins Z.CS dx [("driver", nv dr), ("budget", nv bu), ("nodes", .ref p_nodes), ("library", .ref p_library), ("choices", .ref p_choices), ("violations", .int 0), ("changes", .ref p_changes), ("conflicts", .ref p_conflicts)])) := kp_put h_conflicts
  replace l_nodes := kp_lst kk8 ob7 l_nodes
  replace l_library := kp_lst kk8 ob7 l_library
  replace l_choices := kp_lst kk8 ob7 l_choices
  replace l_changes := kp_lst kk8 ob7 l_changes
  have l_conflicts : (upd (upd H7 p_conflicts (.lst [])) a (.ins Z.CS dx [("driver", nv dr), ("budget", nv bu), ("nodes", .ref p_nodes), ("library", .ref p_library), ("choices", .ref p_choices), ("violations", .int 0), ("changes", .ref p_changes), ("conflicts", .ref p_conflicts)])) p_conflicts = some (.lst []) := new_at ob7 h_conflicts
  have ob8 : (upd (upd H7 p_conflicts (.lst [])) a (.ins Z.CS dx [("driver", nv dr), ("budget", nv bu), ("nodes", .ref p_nodes), ("library", .ref p_library), ("choices", .ref p_choices), ("violations", .int 0), ("changes", .ref p_changes), ("conflicts", .ref p_conflicts)])) a = some (.ins Z.CS dx [("driver", nv dr), ("budget", nv bu), ("nodes", .ref p_nodes), ("library", .ref p_library), ("choices", .ref p_choices), ("violations", .int 0), ("changes", .ref p_changes), ("conflicts", .ref p_conflicts)]) := upd_same
  have kp8 := kp7.trans kk8
  generalize upd (upd H7 p_conflicts (.lst [])) a (.ins Z.CS dx [("driver", nv dr), ("budget", nv bu), ("nodes", .ref p_nodes), ("library", .ref p_library), ("choices", .ref p_choices), ("violations", .int 0), ("changes", .ref p_changes), ("conflicts", .ref p_conflicts)]) = H8 at *
  walk_at "rd"
  refine r_fput ob8 T.clS T.nS_applied (by first | simp | exact stF_len) (gs := [("driver", nv dr), ("budget", nv bu), ("nodes", .ref p_nodes), ("library", .ref p_library), ("choices", .ref p_choices), ("violations", .int 0), ("changes", .ref p_changes), ("conflicts", .ref p_conflicts), ("applied", .int 0)]) rfl ?_
  have kk9 : Kp a H8 (upd H8 a (.ins Z.CS dx [("driver", nv dr), ("budget", nv bu), ("nodes", .ref p_nodes), ("library", .ref p_library), ("choices", .ref p_choices), ("violations", .int 0), ("changes", .ref p_changes), ("conflicts", .ref p_conflicts), ("applied", .int 0)])) := Kp.upd
  replace l_nodes := kp_lst kk9 ob8 l_nodes
  replace l_library := kp_lst kk9 ob8 l_library
  replace l_choices := kp_lst kk9 ob8 l_choices
  replace l_changes := kp_lst kk9 ob8 l_changes
  replace l_conflicts := kp_lst kk9 ob8 l_conflicts
  have ob9 : (upd H8 a (.ins Z.CS dx [("driver", nv dr), ("budget", nv bu), ("nodes", .ref p_nodes), ("library", .ref p_library), ("choices", .ref p_choices), ("violations", .int 0), ("changes", .ref p_changes), ("conflicts", .ref p_conflicts), ("applied", .int 0)])) a = some (.ins Z.CS dx [("driver", nv dr), ("budget", nv bu), ("nodes", .ref p_nodes), ("library", .ref p_library), ("choices", .ref p_choices), ("violations", .int 0), ("changes", .ref p_changes), ("conflicts", .ref p_conflicts), ("applied", .int 0)]) := upd_same
  have kp9 := kp8.trans kk9
  generalize upd H8 a (.ins Z.CS dx [("driver", nv dr), ("budget", nv bu), ("nodes", .ref p_nodes), ("library", .ref p_library), ("choices", .ref p_choices), ("violations", .int 0), ("changes", .ref p_changes), ("conflicts", .ref p_conflicts), ("applied", .int 0)]) = H9 at *
  walk_at "rd"
  refine ⟨lineR rfl, fun p_needs h_needs => ?_⟩
  have ha10 := same_new (o := HO.lst []) h_needs _ _ ob9
  walk_at "rd"
  refine r_fput ha10 T.clS T.nS_needs (by first | simp | exact stF_len) (gs := [("driver", nv dr), ("budget", nv bu), ("nodes", .ref p_nodes), ("library", .ref p_library), ("choices", .ref p_choices), ("violations", .int 0), ("changes", .ref p_changes), ("conflicts", .ref p_conflicts), ("applied", .int 0), ("needs", .ref p_needs)]) rfl ?_
  have fr_needs : H p_needs = none := kp_free kp9 (ne_ins ob9 h_needs) h_needs
  have kk10 : Kp a H9 (upd (upd H9 p_needs (.lst [])) a (.ins Z.CS dx [("driver", nv dr), ("budget", nv bu), ("nodes", .ref p_nodes), ("library", .ref p_library), ("choices", .ref p_choices), ("violations", .int 0), ("changes", .ref p_changes), ("conflicts", .ref p_conflicts), ("applied", .int 0), ("needs", .ref p_needs)])) := kp_put h_needs
  replace l_nodes := kp_lst kk10 ob9 l_nodes
  replace l_library := kp_lst kk10 ob9 l_library
  replace l_choices := kp_lst kk10 ob9 l_choices
  replace l_changes := kp_lst kk10 ob9 l_changes
  replace l_conflicts := kp_lst kk10 ob9 l_conflicts
  have l_needs : (upd (upd H9 p_needs (.lst [])) a (.ins Z.CS dx [("driver", nv dr), ("budget", nv bu), ("nodes", .ref p_nodes), ("library", .ref p_library), ("choices", .ref p_choices), ("violations", .int 0), ("changes", .ref p_changes), ("conflicts", .ref p_conflicts), ("applied", .int 0), ("needs", .ref p_needs)])) p_needs = some (.lst []) := new_at ob9 h_needs
  have ob10 : (upd (upd H9 p_needs (.lst [])) a (.ins Z.CS dx [("driver", nv dr), ("budget", nv bu), ("nodes", .ref p_nodes), ("library", .ref p_library), ("choices", .ref p_choices), ("violations", .int 0), ("changes", .ref p_changes), ("conflicts", .ref p_conflicts), ("applied", .int 0), ("needs", .ref p_needs)])) a = some (.ins Z.CS dx [("driver", nv dr), ("budget", nv bu), ("nodes", .ref p_nodes), ("library", .ref p_library), ("choices", .ref p_choices), ("violations", .int 0), ("changes", .ref p_changes), ("conflicts", .ref p_conflicts), ("applied", .int 0), ("needs", .ref p_needs)]) := upd_same
  have kp10 := kp9.trans kk10
  generalize upd (upd H9 p_needs (.lst [])) a (.ins Z.CS dx [("driver", nv dr), ("budget", nv bu), ("nodes", .ref p_nodes), ("library", .ref p_library), ("choices", .ref p_choices), ("violations", .int 0), ("changes", .ref p_changes), ("conflicts", .ref p_conflicts), ("applied", .int 0), ("needs", .ref p_needs)]) = H10 at *
  walk_at "rd"
  refine ⟨lineR rfl, fun p_spares h_spares => ?_⟩
  have ha11 := same_new (o := HO.lst []) h_spares _ _ ob10
  walk_at "rd"
  refine r_fput ha11 T.clS T.nS_spares (by first | simp | exact stF_len) (gs := [("driver", nv dr), ("budget", nv bu), ("nodes", .ref p_nodes), ("library", .ref p_library), ("choices", .ref p_choices), ("violations", .int 0), ("changes", .ref p_changes), ("conflicts", .ref p_conflicts), ("applied", .int 0), ("needs", .ref p_needs), ("spares", .ref p_spares)]) rfl ?_
  have fr_spares : H p_spares = none := kp_free kp10 (ne_ins ob10 h_spares) h_spares
  have kk11 : Kp a H10 (upd (upd H10 p_spares (.lst [])) a (.ins Z.CS dx [("driver", nv dr), ("budget", nv bu), ("nodes", .ref p_nodes), ("library", .ref p_library), ("choices", .ref p_choices), ("violations", .int 0), ("changes", .ref p_changes), ("conflicts", .ref p_conflicts), ("applied", .int 0), ("needs", .ref p_needs), ("spares", .ref p_spares)])) := kp_put h_spares
  replace l_nodes := kp_lst kk11 ob10 l_nodes
  replace l_library := kp_lst kk11 ob10 l_library
  replace l_choices := kp_lst kk11 ob10 l_choices
  replace l_changes := kp_lst kk11 ob10 l_changes
  replace l_conflicts := kp_lst kk11 ob10 l_conflicts
  replace l_needs := kp_lst kk11 ob10 l_needs
  have l_spares : (upd (upd H10 p_spares (.lst [])) a (.ins Z.CS dx [("driver", nv dr), ("budget", nv bu), ("nodes", .ref p_nodes), ("library", .ref p_library), ("choices", .ref p_choices), ("violations", .int 0), ("changes", .ref p_changes), ("conflicts", .ref p_conflicts), ("applied", .int 0), ("needs", .ref p_needs), ("spares", .ref p_spares)])) p_spares = some (.lst []) := new_at ob10 h_spares
  have ob11 : (upd (upd H10 p_spares (.lst [])) a (.ins Z.CS dx [("driver", nv dr), ("budget", nv bu), ("nodes", .ref p_nodes), ("library", .ref p_library), ("choices", .ref p_choices), ("violations", .int 0), ("changes", .ref p_changes), ("conflicts", .ref p_conflicts), ("applied", .int 0), ("needs", .ref p_needs), ("spares", .ref p_spares)])) a = some (.ins Z.CS dx [("driver", nv dr), ("budget", nv bu), ("nodes", .ref p_nodes), ("library", .ref p_library), ("choices", .ref p_choices), ("violations", .int 0), ("changes", .ref p_changes), ("conflicts", .ref p_conflicts), ("applied", .int 0), ("needs", .ref p_needs), ("spares", .ref p_spares)]) := upd_same
  have kp11 := kp10.trans kk11
  generalize upd (upd H10 p_spares (.lst [])) a (.ins Z.CS dx [("driver", nv dr), ("budget", nv bu), ("nodes", .ref p_nodes), ("library", .ref p_library), ("choices", .ref p_choices), ("violations", .int 0), ("changes", .ref p_changes), ("conflicts", .ref p_conflicts), ("applied", .int 0), ("needs", .ref p_needs), ("spares", .ref p_spares)]) = H11 at *
  walk_at "rd"
  refine r_fput ob11 T.clS T.nS_assigned (by first | simp | exact stF_len) (gs := [("driver", nv dr), ("budget", nv bu), ("nodes", .ref p_nodes), ("library", .ref p_library), ("choices", .ref p_choices), ("violations", .int 0), ("changes", .ref p_changes), ("conflicts", .ref p_conflicts), ("applied", .int 0), ("needs", .ref p_needs), ("spares", .ref p_spares), ("assigned", .int 0)]) rfl ?_
  have kk12 : Kp a H11 (upd H11 a (.ins Z.CS dx [("driver", nv dr), ("budget", nv bu), ("nodes", .ref p_nodes), ("library", .ref p_library), ("choices", .ref p_choices), ("violations", .int 0), ("changes", .ref p_changes), ("conflicts", .ref p_conflicts), ("applied", .int 0), ("needs", .ref p_needs), ("spares", .ref p_spares), ("assigned", .int 0)])) := Kp.upd
  replace l_nodes := kp_lst kk12 ob11 l_nodes
  replace l_library := kp_lst kk12 ob11 l_library
  replace l_choices := kp_lst kk12 ob11 l_choices
  replace l_changes := kp_lst kk12 ob11 l_changes
  replace l_conflicts := kp_lst kk12 ob11 l_conflicts
  replace l_needs := kp_lst kk12 ob11 l_needs
  replace l_spares := kp_lst kk12 ob11 l_spares
  have ob12 : (upd H11 a (.ins Z.CS dx [("driver", nv dr), ("budget", nv bu), ("nodes", .ref p_nodes), ("library", .ref p_library), ("choices", .ref p_choices), ("violations", .int 0), ("changes", .ref p_changes), ("conflicts", .ref p_conflicts), ("applied", .int 0), ("needs", .ref p_needs), ("spares", .ref p_spares), ("assigned", .int 0)])) a = some (.ins Z.CS dx [("driver", nv dr), ("budget", nv bu), ("nodes", .ref p_nodes), ("library", .ref p_library), ("choices", .ref p_choices), ("violations", .int 0), ("changes", .ref p_changes), ("conflicts", .ref p_conflicts), ("applied", .int 0), ("needs", .ref p_needs), ("spares", .ref p_spares), ("assigned", .int 0)]) := upd_same
  have kp12 := kp11.trans kk12
  generalize upd H11 a (.ins Z.CS dx [("driver", nv dr), ("budget", nv bu), ("nodes", .ref p_nodes), ("library", .ref p_library), ("choices", .ref p_choices), ("violations", .int 0), ("changes", .ref p_changes), ("conflicts", .ref p_conflicts), ("applied", .int 0), ("needs", .ref p_needs), ("spares", .ref p_spares), ("assigned", .int 0)]) = H12 at *
  walk_at "rd"
  refine k ⟨p_nodes, p_library, p_choices, p_changes, p_conflicts, p_needs, p_spares⟩ _ kp12 (fun b hb => by
    simp only [ownA, List.mem_cons, List.not_mem_nil, or_false] at hb
    rcases hb with rfl | rfl | rfl | rfl | rfl | rfl | rfl | rfl
    · exact .inl rfl
    all_goals exact .inr (by assumption)) ⟨⟨dx, ob12⟩, ⟨_, l_nodes, All2.one ⟨Z.aROOT, rfl, T.t_ROOT _⟩⟩, ⟨_, l_library, .nil⟩, l_choices, ⟨_, l_changes, .nil⟩, ⟨_, l_conflicts, .nil⟩, ⟨_, l_needs, .nil⟩, ⟨_, l_spares, .nil⟩⟩
theorem m_State_init {P : Program} {w : World} {K : PySem.W.Frag} {mg : Str → Option Value} {base : Heap} {Z : Cs} (T : TX K mg Z)  {f : Addr} {fd : FuncData} (M : Mk K Z.CS f) (F : Fun K "__init__" "State.__init__" s_State_init f fd) : Mak P w K mg base CX0 Z.CS 1 ["self", "driver", "budget"] (sp_State_init K Z) :=
  ⟨f, fd, M, F.binds (ps := ["self", "driver", "budget"]) (fun _ _ _ _ _ _ us hl => match us, hl with | [_, _, _], _ => rfl), ok_State_init T  F⟩
abbrev s_State_twin : Stmt := inClass (top 117) 1
abbrev N_State_twin : List Str := ["self", "found"]
theorem sc_State_twin : FnScope N_State_twin ["self"] (defScope s_State_twin) := ⟨rfl, rfl, rfl, by decide +kernel, rfl, by decide +kernel, by decide +kernel⟩
def sp_State_twin (K : PySem.W.Frag) (Z : Cs) : Sp := sp1 fun x H Q _ => ∃ (s : Addr) (d : Design) (l : Ls) (asg : Nat), x = .ref s ∧ StAt K Z H s d l asg ∧ ∀ a l2 H2, Same H H2 → (∀ b ∈ ownA a l2, H b = none) → (ownA a l2).Nodup → StAt K Z H2 a d l2 asg → Q (.ref a) H2
set_option maxHeartbeats 4000000 in
theorem ok_State_twin {P : Program} {w : World} {K : PySem.W.Frag} {mg : Str → Option Value} {base : Heap} {Z : Cs} (T : TX K mg Z) (m_State : Mak P w K mg base CX0 Z.CS 1 ["self", "driver", "budget"] (sp_State_init K Z)) {f : Addr} {fd : FuncData} (F : Fun K "twin" "State.twin" s_State_twin f fd) : FnOk P w K mg base CX0 3 f fd ["self"] (sp_State_twin K Z) := by
  refine F.ok sc_State_twin len1 (fun cdv A outer s H vs Q E hr h => ⟨_, (pss_cons (ps_set (i := 1) sc_State_twin.nd rfl (Or.inl rfl) (pe_k m_State (hr.mono (by decide)) (by rfl) T.g_State (pa_cons (fldK (K := K) rfl (pv 0) rfl) (pa_cons (fldK (K := K) rfl (pv 0) rfl) pa_nil))))
    (pss_cons (ps_fld (pv 1) (pe_callTy call_list_of (by rfl) T.b_list (by decide +kernel) (pa_cons (fldK (K := K) rfl (pv 0) rfl) pa_nil)) rfl)
    (pss_cons (ps_fld (pv 1) (pe_callTy call_list_of (by rfl) T.b_list (by decide +kernel) (pa_cons (fldK (K := K) rfl (pv 0) rfl) pa_nil)) rfl)
    (pss_cons (ps_fld (pv 1) (pe_callTy call_list_of (by rfl) T.b_list (by decide +kernel) (pa_cons (fldK (K := K) rfl (pv 0) rfl) pa_nil)) rfl)
    (pss_cons (ps_fld (pv 1) (fldK (K := K) rfl (pv 0) rfl) rfl)
    (pss_cons (ps_fld (pv 1) (pe_callTy call_list_of (by rfl) T.b_list (by decide +kernel) (pa_cons (fldK (K := K) rfl (pv 0) rfl) pa_nil)) rfl)
    (pss_cons (ps_fld (pv 1) (pe_callTy call_list_of (by rfl) T.b_list (by decide +kernel) (pa_cons (fldK (K := K) rfl (pv 0) rfl) pa_nil)) rfl)
    (pss_cons (ps_fld (pv 1) (fldK (K := K) rfl (pv 0) rfl) rfl)
    (pss_cons (ps_fld (pv 1) (pe_callTy call_list_of (by rfl) T.b_list (by decide +kernel) (pa_cons (fldK (K := K) rfl (pv 0) rfl) pa_nil)) rfl)
    (pss_cons (ps_fld (pv 1) (pe_callTy call_list_of (by rfl) T.b_list (by decide +kernel) (pa_cons (fldK (K := K) rfl (pv 0) rfl) pa_nil)) rfl)
    (pss_cons (ps_fld (pv 1) (fldK (K := K) rfl (pv 0) rfl) rfl)
    (pss_one (ps_ret (pv 1)))))))))))))), ?_⟩)
  obtain ⟨_, rfl, s, d, l, asg, rfl, S, k⟩ := h
  obtain ⟨xs_nodes, hs_nodes, A_nodes⟩ := S.nodes
  obtain ⟨xs_library, hs_library, A_library⟩ := S.library
  have hs_choices := S.choices
  obtain ⟨xs_changes, hs_changes, A_changes⟩ := S.changes
  obtain ⟨xs_conflicts, hs_conflicts, A_conflicts⟩ := S.conflicts
  obtain ⟨xs_needs, hs_needs, A_needs⟩ := S.needs
  obtain ⟨xs_spares, hs_spares, A_spares⟩ := S.spares
  walk_at "rd"
  intro a dx0 hfa hfd hda
  refine ⟨_, _, _, rfl, a, dx0, d.driver, d.budget, rfl, rfl, rfl, upd_same, fun l0 H1 kpi _ SI => ⟨rfl, ?_⟩⟩
  have s1 : Same H H1 := fun b o hb => kpi b o (ne_of_none hb hfa) (by
    rw [upd_ne (ne_of_none hb hfa), upd_ne (ne_of_none hb hfd)]
    exact hb)
  obtain ⟨dx, ob1⟩ := SI.obj
  clear kpi SI
  have S1 := S.mono s1
  walk_at "rd"
  
  refine ⟨l.nodes, _, rfl, .inl (SqL.of (s1 _ _ hs_nodes)), fun p_nodes h_nodes => ?_⟩
  have e2 := same_new (o := HO.lst xs_nodes) h_nodes
  have ha2 := e2 _ _ ob1
  walk_at "rd"
  refine r_fput ha2 T.clS T.nS_nodes (by first | simp | exact stF_len) (gs := [("driver", nv d.driver), ("budget", nv d.budget), ("nodes", .ref p_nodes), ("library", .ref l0.library), ("choices", .ref l0.choices), ("violations", nv 0), ("changes", .ref l0.changes), ("conflicts", .ref l0.conflicts), ("applied", nv 0), ("needs", .ref l0.needs), ("spares", .ref l0.spares), ("assigned", nv 0)]) rfl ?_
  have kk2 : Kp a H1 (upd (upd H1 p_nodes (.lst xs_nodes)) a (.ins Z.CS dx [("driver", nv d.driver), ("budget", nv d.budget), ("nodes", .ref p_nodes), ("library", .ref l0.library), ("choices", .ref l0.choices), ("violations", nv 0), ("changes", .ref l0.changes), ("conflicts", .ref l0.conflicts), ("applied", nv 0), ("needs", .ref l0.needs), ("spares", .ref l0.spares), ("assigned", nv 0)])) := kp_put h_nodes
  have na_nodes : p_nodes ≠ a := ne_ins ob1 h_nodes
  have f_nodes : H p_nodes = none := s1.free h_nodes
  have l_nodes : (upd (upd H1 p_nodes (.lst xs_nodes)) a (.ins Z.CS dx [("driver", nv d.driver), ("budget", nv d.budget), ("nodes", .ref p_nodes), ("library", .ref l0.library), ("choices", .ref l0.choices), ("violations", nv 0), ("changes", .ref l0.changes), ("conflicts", .ref l0.conflicts), ("applied", nv 0), ("needs", .ref l0.needs), ("spares", .ref l0.spares), ("assigned", nv 0)])) p_nodes = some (.lst xs_nodes) := new_at ob1 h_nodes
  have ob2 : (upd (upd H1 p_nodes (.lst xs_nodes)) a (.ins Z.CS dx [("driver", nv d.driver), ("budget", nv d.budget), ("nodes", .ref p_nodes), ("library", .ref l0.library), ("choices", .ref l0.choices), ("violations", nv 0), ("changes", .ref l0.changes), ("conflicts", .ref l0.conflicts), ("applied", nv 0), ("needs", .ref l0.needs), ("spares", .ref l0.spares), ("assigned", nv 0)])) a = some (.ins Z.CS dx [("driver", nv d.driver), ("budget", nv d.budget), ("nodes", .ref p_nodes), ("library", .ref l0.library), ("choices", .ref l0.choices), ("violations", nv 0), ("changes", .ref l0.changes), ("conflicts", .ref l0.conflicts), ("applied", nv 0), ("needs", .ref l0.needs), ("spares", .ref l0.spares), ("assigned", nv 0)]) := upd_same
  have s2 : Same H (upd (upd H1 p_nodes (.lst xs_nodes)) a (.ins Z.CS dx [("driver", nv d.driver), ("budget", nv d.budget), ("nodes", .ref p_nodes), ("library", .ref l0.library), ("choices", .ref l0.choices), ("violations", nv 0), ("changes", .ref l0.changes), ("conflicts", .ref l0.conflicts), ("applied", nv 0), ("needs", .ref l0.needs), ("spares", .ref l0.spares), ("assigned", nv 0)])) := fun b o hb => kk2 b o (ne_of_none hb hfa) (s1 b o hb)
  generalize upd (upd H1 p_nodes (.lst xs_nodes)) a (.ins Z.CS dx [("driver", nv d.driver), ("budget", nv d.budget), ("nodes", .ref p_nodes), ("library", .ref l0.library), ("choices", .ref l0.choices), ("violations", nv 0), ("changes", .ref l0.changes), ("conflicts", .ref l0.conflicts), ("applied", nv 0), ("needs", .ref l0.needs), ("spares", .ref l0.spares), ("assigned", nv 0)]) = H2 at *
  have S2 := S.mono s2
  walk_at "rd"
  refine ⟨l.library, _, rfl, .inl (SqL.of (s2 _ _ hs_library)), fun p_library h_library => ?_⟩
  have e3 := same_new (o := HO.lst xs_library) h_library
  have ha3 := e3 _ _ ob2
  walk_at "rd"
  refine r_fput ha3 T.clS T.nS_library (by first | simp | exact stF_len) (gs := [("driver", nv d.driver), ("budget", nv d.budget), ("nodes", .ref p_nodes), ("library", .ref p_library), ("choices", .ref l0.choices), ("violations", nv 0), ("changes", .ref l0.changes), ("conflicts", .ref l0.conflicts), ("applied", nv 0), ("needs", .ref l0.needs), ("spares", .ref l0.spares), ("assigned", nv 0)]) rfl ?_
  have kk3 : Kp a H2 (upd (upd H2 p_library (.lst xs_library)) a (.ins Z.CS dx [("driver", nv d.driver), ("budget", nv d.budget), ("nodes", .ref p_nodes), ("library", .ref p_library), ("choices", .ref l0.choices), ("violations", nv 0), ("changes", .ref l0.changes), ("conflicts", .ref l0.conflicts), ("applied", nv 0), ("needs", .ref l0.needs), ("spares", .ref l0.spares), ("assigned", nv 0)])) := kp_put h_library
  have ne_nodes_library : p_nodes ≠ p_library := ne_of_none l_nodes h_library
  have na_library : p_library ≠ a := ne_ins ob2 h_library
  have f_library : H p_library = none := s2.free h_library
  replace l_nodes := kp_lst kk3 ob2 l_nodes
  have l_library : (upd (upd H2 p_library (.lst xs_library)) a (.ins Z.CS dx [("driver", nv d.driver), ("budget", nv d.budget), ("nodes", .ref p_nodes), ("library", .ref p_library), ("choices", .ref l0.choices), ("violations", nv 0), ("changes", .ref l0.changes), ("conflicts", .ref l0.conflicts), ("applied", nv 0), ("needs", .ref l0.needs), ("spares", .ref l0.spares), ("assigned", nv 0)])) p_library = some (.lst xs_library) := new_at ob2 h_library
  have ob3 : (upd (upd H2 p_library (.lst xs_library)) a (.ins Z.CS dx [("driver", nv d.driver), ("budget", nv d.budget), ("nodes", .ref p_nodes), ("library", .ref p_library), ("choices", .ref l0.choices), ("violations", nv 0), ("changes", .ref l0.changes), ("conflicts", .ref l0.conflicts), ("applied", nv 0), ("needs", .ref l0.needs), ("spares", .ref l0.spares), ("assigned", nv 0)])) a = some (.ins Z.CS dx [("driver", nv d.driver), ("budget", nv d.budget), ("nodes", .ref p_nodes), ("library", .ref p_library), ("choices", .ref l0.choices), ("violations", nv 0), ("changes", .ref l0.changes), ("conflicts", .ref l0.conflicts), ("applied", nv 0), ("needs", .ref l0.needs), ("spares", .ref l0.spares), ("assigned", nv 0)]) := upd_same
  have s3 : Same H (upd (upd H2 p_library (.lst xs_library)) a (.ins Z.CS dx [("driver", nv d.driver), ("budget", nv d.budget), ("nodes", .ref p_nodes), ("library", .ref p_library), ("choices", .ref l0.choices), ("violations", nv 0), ("changes", .ref l0.changes), ("conflicts", .ref l0.conflicts), ("applied", nv 0), ("needs", .ref l0.needs), ("spares", .ref l0.spares), ("assigned", nv 0)])) := fun b o hb => kk3 b o (ne_of_none hb hfa) (s2 b o hb)
  generalize upd (upd H2 p_library (.lst xs_library)) a (.ins Z.CS dx [("driver", nv d.driver), ("budget", nv d.budget), ("nodes", .ref p_nodes), ("library", .ref p_library), ("choices", .ref l0.choices), ("violations", nv 0), ("changes", .ref l0.changes), ("conflicts", .ref l0.conflicts), ("applied", nv 0), ("needs", .ref l0.needs), ("spares", .ref l0.spares), ("assigned", nv 0)]) = H3 at *
  have S3 := S.mono s3
  walk_at "rd"
  refine ⟨l.choices, _, rfl, .inl (SqL.of (s3 _ _ hs_choices)), fun p_choices h_choices => ?_⟩
  have e4 := same_new (o := HO.lst (d.choices.map nv)) h_choices
  have ha4 := e4 _ _ ob3
  walk_at "rd"
  refine r_fput ha4 T.clS T.nS_choices (by first | simp | exact stF_len) (gs := [("driver", nv d.driver), ("budget", nv d.budget), ("nodes", .ref p_nodes), ("library", .ref p_library), ("choices", .ref p_choices), ("violations", nv 0), ("changes", .ref l0.changes), ("conflicts", .ref l0.conflicts), ("applied", nv 0), ("needs", .ref l0.needs), ("spares", .ref l0.spares), ("assigned", nv 0)]) rfl ?_
  have kk4 : Kp a H3 (upd (upd H3 p_choices (.lst (d.choices.map nv))) a (.ins Z.CS dx [("driver", nv d.driver), ("budget", nv d.budget), ("nodes", .ref p_nodes), ("library", .ref p_library), ("choices", .ref p_choices), ("violations", nv 0), ("changes", .ref l0.changes), ("conflicts", .ref l0.conflicts), ("applied", nv 0), ("needs", .ref l0.needs), ("spares", .ref l0.spares), ("assigned", nv 0)])) := kp_put h_choices
  have ne_nodes_choices : p_nodes ≠ p_choices := ne_of_none l_nodes h_choices
  have ne_library_choices : p_library ≠ p_choices := ne_of_none l_library h_choices
  have na_choices : p_choices ≠ a := ne_ins ob3 h_choices
  have f_choices : H p_choices = none := s3.free h_choices
  replace l_nodes := kp_lst kk4 ob3 l_nodes
  replace l_library := kp_lst kk4 ob3 l_library
  have l_choices : (upd (upd H3 p_choices (.lst (d.choices.map nv))) a (.ins Z.CS dx [("driver", nv d.driver), ("budget", nv d.budget), ("nodes", .ref p_nodes), ("library", .ref p_library), ("choices", .ref p_choices), ("violations", nv 0), ("changes", .ref l0.changes), ("conflicts", .ref l0.conflicts), ("applied", nv 0), ("needs", .ref l0.needs), ("spares", .ref l0.spares), ("assigned", nv 0)])) p_choices = some (.lst (d.choices.map nv)) := new_at ob3 h_choices
  have ob4 : (upd (upd H3 p_choices (.lst (d.choices.map nv))) a (.ins Z.CS dx [("driver", nv d.driver), ("budget", nv d.budget), ("nodes", .ref p_nodes), ("library", .ref p_library), ("choices", .ref p_choices), ("violations", nv 0), ("changes", .ref l0.changes), ("conflicts", .ref l0.conflicts), ("applied", nv 0), ("needs", .ref l0.needs), ("spares", .ref l0.spares), ("assigned", nv 0)])) a = some (.ins Z.CS dx [("driver", nv d.driver), ("budget", nv d.budget), ("nodes", .ref p_nodes), ("library", .ref p_library), ("choices", .ref p_choices), ("violations", nv 0), ("changes", .ref l0.changes), ("conflicts", .ref l0.conflicts), ("applied", nv 0), ("needs", .ref l0.needs), ("spares", .ref l0.spares), ("assigned", nv 0)]) := upd_same
  have s4 : Same H (upd (upd H3 p_choices (.lst (d.choices.map nv))) a (.ins Z.CS dx [("driver", nv d.driver), ("budget", nv d.budget), ("nodes", .ref p_nodes), ("library", .ref p_library), ("choices", .ref p_choices), ("violations", nv 0), ("changes", .ref l0.changes), ("conflicts", .ref l0.conflicts), ("applied", nv 0), ("needs", .ref l0.needs), ("spares", .ref l0.spares), ("assigned", nv 0)])) := fun b o hb => kk4 b o (ne_of_none hb hfa) (s3 b o hb)
  generalize upd (upd H3 p_choices (.lst (d.choices.map nv))) a (.ins Z.CS dx [("driver", nv d.driver), ("budget", nv d.budget), ("nodes", .ref p_nodes), ("library", .ref p_library), ("choices", .ref p_choices), ("violations", nv 0), ("changes", .ref l0.changes), ("conflicts", .ref l0.conflicts), ("applied", nv 0), ("needs", .ref l0.needs), ("spares", .ref l0.spares), ("assigned", nv 0)]) = H4 at *
  have S4 := S.mono s4
  walk_at "rd"
  refine r_fput ob4 T.clS T.nS_violations (by first | simp | exact stF_len) (gs := [("driver", nv d.driver), ("budget", nv d.budget), ("nodes", .ref p_nodes), ("library", .ref p_library), ("choices", .ref p_choices), ("violations", nv d.repairs.violations), ("changes", .ref l0.changes), ("conflicts", .ref l0.conflicts), ("applied", nv 0), ("needs", .ref l0.needs), ("spares", .ref l0.spares), ("assigned", nv 0)]) rfl ?_
  have kk5 : Kp a H4 (upd H4 a (.ins Z.CS dx [("driver", nv d.driver), ("budget", nv d.budget), ("nodes", .ref p_nodes), ("library", .ref p_library), ("choices", .ref p_choices), ("violations", nv d.repairs.violations), ("changes", .ref l0.changes), ("conflicts", .ref l0.conflicts), ("applied", nv 0), ("needs", .ref l0.needs), ("spares", .ref l0.spares), ("assigned", nv 0)])) := Kp.upd
  replace l_nodes := kp_lst kk5 ob4 l_nodes
  replace l_library := kp_lst kk5 ob4 l_library
  replace l_choices := kp_lst kk5 ob4 l_choices
  have ob5 : (upd H4 a (.ins Z.CS dx [("driver", nv d.driver), ("budget", nv d.budget), ("nodes", .ref p_nodes), ("library", .ref p_library), ("choices", .ref p_choices), ("violations", nv d.repairs.violations), ("changes", .ref l0.changes), ("conflicts", .ref l0.conflicts), ("applied", nv 0), ("needs", .ref l0.needs), ("spares", .ref l0.spares), ("assigned", nv 0)])) a = some (.ins Z.CS dx [("driver", nv d.driver), ("budget", nv d.budget), ("nodes", .ref p_nodes), ("library", .ref p_library), ("choices", .ref p_choices), ("violations", nv d.repairs.violations), ("changes", .ref l0.changes), ("conflicts", .ref l0.conflicts), ("applied", nv 0), ("needs", .ref l0.needs), ("spares", .ref l0.spares), ("assigned", nv 0)]) := upd_same
  have s5 : Same H (upd H4 a (.ins Z.CS dx [("driver", nv d.driver), ("budget", nv d.budget), ("nodes", .ref p_nodes), ("library", .ref p_library), ("choices", .ref p_choices), ("violations", nv d.repairs.violations), ("changes", .ref l0.changes), ("conflicts", .ref l0.conflicts), ("applied", nv 0), ("needs", .ref l0.needs), ("spares", .ref l0.spares), ("assigned", nv 0)])) := fun b o hb => kk5 b o (ne_of_none hb hfa) (s4 b o hb)
  generalize upd H4 a (.ins Z.CS dx [("driver", nv d.driver), ("budget", nv d.budget), ("nodes", .ref p_nodes), ("library", .ref p_library), ("choices", .ref p_choices), ("violations", nv d.repairs.violations), ("changes", .ref l0.changes), ("conflicts", .ref l0.conflicts), ("applied", nv 0), ("needs", .ref l0.needs), ("spares", .ref l0.spares), ("assigned", nv 0)]) = H5 at *
  have S5 := S.mono s5
  walk_at "rd"
  refine ⟨l.changes, _, rfl, .inl (SqL.of (s5 _ _ hs_changes)), fun p_changes h_changes => ?_⟩
  have e6 := same_new (o := HO.lst xs_changes) h_changes
  have ha6 := e6 _ _ ob5
  walk_at "rd"
  refine r_fput ha6 T.clS T.nS_changes (by first | simp | exact stF_len) (gs := [("driver", nv d.driver), ("budget", nv d.budget), ("nodes", .ref p_nodes), ("library", .ref p_library), ("choices", .ref p_choices), ("violations", nv d.repairs.violations), ("changes", .ref p_changes), ("conflicts", .ref l0.conflicts), ("applied", nv 0), ("needs", .ref l0.needs), ("spares", .ref l0.spares), ("assigned", nv 0)]) rfl ?_
  have kk6 : Kp a H5 (upd (upd H5 p_changes (.lst xs_changes)) a (.ins Z.CS dx [("driver", nv d.driver), ("budget", nv d.budget), ("nodes", .ref p_nodes), ("library", .ref p_library), ("choices", .ref p_choices), ("violations", nv d.repairs.violations), ("changes", .ref p_changes), ("conflicts", .ref l0.conflicts), ("applied", nv 0), ("needs", .ref l0.needs), ("spares", .ref l0.spares), ("assigned", nv 0)])) := kp_put h_changes
  have ne_nodes_changes : p_nodes ≠ p_changes := ne_of_none l_nodes h_changes
  have ne_library_changes : p_library ≠ p_changes := ne_of_none l_library h_changes
  have ne_choices_changes : p_choices ≠ p_changes := ne_of_none l_choices h_changes
  have na_changes : p_changes ≠ a := ne_ins ob5 h_changes
  have f_changes : H p_changes = none := s5.free h_changes
  replace l_nodes := kp_lst kk6 ob5 l_nodes
  replace l_library := kp_lst kk6 ob5 l_library
  replace l_choices := kp_lst kk6 ob5 l_choices
  have l_changes : (upd (upd H5 p_changes (.lst xs_changes)) a (.ins Z.CS dx [("driver", nv d.driver), ("budget", nv d.budget), ("nodes", .ref p_nodes), ("library", .ref p_library), ("choices", .ref p_choices), ("violations", nv d.repairs.violations), ("changes", .ref p_changes), ("conflicts", .ref l0.conflicts), ("applied", nv 0), ("needs", .ref l0.needs), ("spares", .ref l0.spares), ("assigned", nv 0)])) p_changes = some (.lst xs_changes) := new_at ob5 h_changes
  have ob6 : (upd (upd H5 p_changes (.lst xs_changes)) a (.ins Z.CS dx [("driver", nv d.driver), ("budget", nv d.budget), ("nodes", .ref p_nodes), ("library", .ref p_library), ("choices", .ref p_choices), ("violations", nv d.repairs.violations), ("changes", .ref p_changes), ("conflicts", .ref l0.conflicts), ("applied", nv 0), ("needs", .ref l0.needs), ("spares", .ref l0.spares), ("assigned", nv 0)])) a = some (.ins Z.CS dx [("driver", nv d.driver), ("budget", nv d.budget), ("nodes", .ref p_nodes), ("library", .ref p_library), ("choices", .ref p_choices), ("violations", nv d.repairs.violations), ("changes", .ref p_changes), ("conflicts", .ref l0.conflicts), ("applied", nv 0), ("needs", .ref l0.needs), ("spares", .ref l0.spares), ("assigned", nv 0)]) := upd_same
  have s6 : Same H (upd (upd H5 p_changes (.lst xs_changes)) a (.ins Z.CS dx [("driver", nv d.driver), ("budget", nv d.budget), ("nodes", .ref p_nodes), ("library", .ref p_library), ("choices", .ref p_choices), ("violations", nv d.repairs.violations), ("changes", .ref p_changes), ("conflicts", .ref l0.conflicts), ("applied", nv 0), ("needs", .ref l0.needs), ("spares", .ref l0.spares), ("assigned", nv 0)])) := fun b o hb => kk6 b o (ne_of_none hb hfa) (s5 b o hb)
  generalize upd (upd H5 p_changes (.lst xs_changes)) a (.ins Z.CS dx [("driver", nv d.driver), ("budget", nv d.budget), ("nodes", .ref p_nodes), ("library", .ref p_library), ("choices", .ref p_choices), ("violations", nv d.repairs.violations), ("changes", .ref p_changes), ("conflicts", .ref l0.conflicts), ("applied", nv 0), ("needs", .ref l0.needs), ("spares", .ref l0.spares), ("assigned", nv 0)]) = H6 at *
  have S6 := S.mono s6
  walk_at "rd"
  refine ⟨l.conflicts, _, rfl, .inl (SqL.of (s6 _ _ hs_conflicts)), fun p_conflicts h_conflicts => ?_⟩
  have e7 := same_new (o := HO.lst xs_conflicts) h_conflicts
  have ha7 := e7 _ _ ob6
  walk_at "rd"
  refine r_fput ha7 T.clS T.nS_conflicts (by first | simp | exact stF_len) (gs := [("driver", nv d.driver), ("budget", nv d.budget), ("nodes", .ref p_nodes), ("library", .ref p_library), ("choices", .ref p_choices), ("violations", nv d.repairs.violations), ("changes", .ref p_changes), ("conflicts", .ref p_conflicts), ("applied", nv 0), ("needs", .ref l0.needs), ("spares", .ref l0.spares), ("assigned", nv 0)]) rfl ?_
  have kk7 : Kp a H6 (upd (upd H6 p_conflicts (.lst xs_conflicts)) a (.ins Z.CS dx [("driver", nv d.driver), ("budget", nv d.budget), ("nodes", .ref p_nodes), ("library", .ref p_library), ("choices", .ref p_choices), ("violations", nv d.repairs.violations), ("changes", .ref p_changes), ("conflicts", .ref p_conflicts), ("applied", nv 0), ("needs", .ref l0.needs), ("spares", .ref l0.spares), ("assigned", nv 0)])) := kp_put h_conflicts
  have ne_nodes_conflicts : p_nodes ≠ p_conflicts := ne_of_none l_nodes h_conflicts
  have ne_library_conflicts : p_library ≠ p_conflicts := ne_of_none l_library h_conflicts
  have ne_choices_conflicts : p_choices ≠ p_conflicts := ne_of_none l_choices h_conflicts
  have ne_changes_conflicts : p_changes ≠ p_conflicts := ne_of_none l_changes h_conflicts
  have na_conflicts : p_conflicts ≠ a := ne_ins ob6 h_conflicts
  have f_conflicts : H p_conflicts = none := s6.free h_conflicts
  replace l_nodes := kp_lst kk7 ob6 l_nodes
  replace l_library := kp_lst kk7 ob6 l_library
  replace l_choices := kp_lst kk7 ob6 l_choices
  replace l_changes := kp_lst kk7 ob6 l_changes
  have l_conflicts : (upd (upd H6 p_conflicts (.lst xs_conflicts)) a (.ins Z.CS dx [("driver", nv d.driver), ("budget", nv d.budget), ("nodes", .ref p_nodes), ("library", .ref p_library), ("choices", .ref p_choices), ("violations", nv d.repairs.violations), ("changes", .ref p_changes), ("conflicts", .ref p_conflicts), ("applied", nv 0), ("needs", .ref l0.needs), ("spares", .ref l0.spares), ("assigned", nv 0)])) p_conflicts = some (.lst xs_conflicts) := new_at ob6 h_conflicts
  have ob7 : (upd (upd H6 p_conflicts (.lst xs_conflicts)) a (.ins Z.CS dx [("driver", nv d.driver), ("budget", nv d.budget), ("nodes", .ref p_nodes), ("library", .ref p_library), ("choices", .ref p_choices), ("violations", nv d.repairs.violations), ("changes", .ref p_changes), ("conflicts", .ref p_conflicts), ("applied", nv 0), ("needs", .ref l0.needs), ("spares", .ref l0.spares), ("assigned", nv 0)])) a = some (.ins Z.CS dx [("driver", nv d.driver), ("budget", nv d.budget), ("nodes", .ref p_nodes), ("library", .ref p_library), ("choices", .ref p_choices), ("violations", nv d.repairs.violations), ("changes", .ref p_changes), ("conflicts", .ref p_conflicts), ("applied", nv 0), ("needs", .ref l0.needs), ("spares", .ref l0.spares), ("assigned", nv 0)]) := upd_same
  have s7 : Same H (upd (upd H6 p_conflicts (.lst xs_conflicts)) a (.ins Z.CS dx [("driver", nv d.driver), ("budget", nv d.budget), ("nodes", .ref p_nodes), ("library", .ref p_library), ("choices", .ref p_choices), ("violations", nv d.repairs.violations), ("changes", .ref p_changes), ("conflicts", .ref p_conflicts), ("applied", nv 0), ("needs", .ref l0.needs), ("spares", .ref l0.spares), ("assigned", nv 0)])) := fun b o hb => kk7 b o (ne_of_none hb hfa) (s6 b o hb)
  generalize upd (upd H6 p_conflicts (.lst xs_conflicts)) a (.ins Z.CS dx [("driver", nv d.driver), ("budget", nv d.budget), ("nodes", .ref p_nodes), ("library", .ref p_library), ("choices", .ref p_choices), ("violations", nv d.repairs.violations), ("changes", .ref p_changes), ("conflicts", .ref p_conflicts), ("applied", nv 0), ("needs", .ref l0.needs), ("spares", .ref l0.spares), ("assigned", nv 0)]) = H7 at *
  have S7 := S.mono s7
  walk_at "rd"
  refine r_fput ob7 T.clS T.nS_applied (by first | simp | exact stF_len) (gs := [("driver", nv d.driver), ("budget", nv d.budget), ("nodes", .ref p_nodes), ("library", .ref p_library), ("choices", .ref p_choices), ("violations", nv d.repairs.violations), ("changes", .ref p_changes), ("conflicts", .ref p_conflicts), ("applied", nv d.repairs.applied), ("needs", .ref l0.needs), ("spares", .ref l0.spares), ("assigned", nv 0)]) rfl ?_
  have kk8 : Kp a H7 (upd H7 a (.ins Z.CS dx [("driver", nv d.driver), ("budget", nv d.budget), ("nodes", .ref p_nodes), ("library", .ref p_library), ("choices", .ref p_choices), ("violations", nv d.repairs.violations), ("changes", .ref p_changes), ("conflicts", .ref p_conflicts), ("applied", nv d.repairs.applied), ("needs", .ref l0.needs), ("spares", .ref l0.spares), ("assigned", nv 0)])) := Kp.upd
  replace l_nodes := kp_lst kk8 ob7 l_nodes
  replace l_library := kp_lst kk8 ob7 l_library
  replace l_choices := kp_lst kk8 ob7 l_choices
  replace l_changes := kp_lst kk8 ob7 l_changes
  replace l_conflicts := kp_lst kk8 ob7 l_conflicts
  have ob8 : (upd H7 a (.ins Z.CS dx [("driver", nv d.driver), ("budget", nv d.budget), ("nodes", .ref p_nodes), ("library", .ref p_library), ("choices", .ref p_choices), ("violations", nv d.repairs.violations), ("changes", .ref p_changes), ("conflicts", .ref p_conflicts), ("applied", nv d.repairs.applied), ("needs", .ref l0.needs), ("spares", .ref l0.spares), ("assigned", nv 0)])) a = some (.ins Z.CS dx [("driver", nv d.driver), ("budget", nv d.budget), ("nodes", .ref p_nodes), ("library", .ref p_library), ("choices", .ref p_choices), ("violations", nv d.repairs.violations), ("changes", .ref p_changes), ("conflicts", .ref p_conflicts), ("applied", nv d.repairs.applied), ("needs", .ref l0.needs), ("spares", .ref l0.spares), ("assigned", nv 0)]) := upd_same
  have s8 : Same H (upd H7 a (.ins Z.CS dx [("driver", nv d.driver), ("budget", nv d.budget), ("nodes", .ref p_nodes), ("library", .ref p_library), ("choices", .ref p_choices), ("violations", nv d.repairs.violations), ("changes", .ref p_changes), ("conflicts", .ref p_conflicts), ("applied", nv d.repairs.applied), ("needs", .ref l0.needs), ("spares", .ref l0.spares), ("assigned", nv 0)])) := fun b o hb => kk8 b o (ne_of_none hb hfa) (s7 b o hb)
  generalize upd H7 a (.ins Z.CS dx [("driver", nv d.driver), ("budget", nv d.budget), ("nodes", .ref p_nodes), ("library", .ref p_library), ("choices", .ref p_choices), ("violations", nv d.repairs.violations), ("changes", .ref p_changes), ("conflicts", .ref p_conflicts), ("applied", nv d.repairs.applied), ("needs", .ref l0.needs), ("spares", .ref l0.spares), ("assigned", nv 0)]) = H8 at *
  have S8 := S.mono s8
  walk_at "rd"
  refine ⟨l.needs, _, rfl, .inl (SqL.of (s8 _ _ hs_needs)), fun p_needs h_needs => ?_⟩
  have e9 := same_new (o := HO.lst xs_needs) h_needs
  have ha9 := e9 _ _ ob8
  walk_at "rd"
  refine r_fput ha9 T.clS T.nS_needs (by first | simp | exact stF_len) (gs := [("driver", nv d.driver), ("budget", nv d.budget), ("nodes", .ref p_nodes), ("library", .ref p_library), ("choices", .ref p_choices), ("violations", nv d.repairs.violations), ("changes", .ref p_changes), ("conflicts", .ref p_conflicts), ("applied", nv d.repairs.applied), ("needs", .ref p_needs), ("spares", .ref l0.spares), ("assigned", nv 0)]) rfl ?_
  have kk9 : Kp a H8 (upd (upd H8 p_needs (.lst xs_needs)) a (.ins Z.CS dx [("driver", nv d.driver), ("budget", nv d.budget), ("nodes", .ref p_nodes), ("library", .ref p_library), ("choices", .ref p_choices), ("violations", nv d.repairs.violations), ("changes", .ref p_changes), ("conflicts", .ref p_conflicts), ("applied", nv d.repairs.applied), ("needs", .ref p_needs), ("spares", .ref l0.spares), ("assigned", nv 0)])) := kp_put h_needs
  have ne_nodes_needs : p_nodes ≠ p_needs := ne_of_none l_nodes h_needs
  have ne_library_needs : p_library ≠ p_needs := ne_of_none l_library h_needs
  have ne_choices_needs : p_choices ≠ p_needs := ne_of_none l_choices h_needs
  have ne_changes_needs : p_changes ≠ p_needs := ne_of_none l_changes h_needs
  have ne_conflicts_needs : p_conflicts ≠ p_needs := ne_of_none l_conflicts h_needs
  have na_needs : p_needs ≠ a := ne_ins ob8 h_needs
  have f_needs : H p_needs = none := s8.free h_needs
  replace l_nodes := kp_lst kk9 ob8 l_nodes
  replace l_library := kp_lst kk9 ob8 l_library
  replace l_choices := kp_lst kk9 ob8 l_choices
  replace l_changes := kp_lst kk9 ob8 l_changes
  replace l_conflicts := kp_lst kk9 ob8 l_conflicts
  have l_needs : (upd (upd H8 p_needs (.lst xs_needs)) a (.ins Z.CS dx [("driver", nv d.driver), ("budget", nv d.budget), ("nodes", .ref p_nodes), ("library", .ref p_library), ("choices", .ref p_choices), ("violations", nv d.repairs.violations), ("changes", .ref p_changes), ("conflicts", .ref p_conflicts), ("applied", nv d.repairs.applied), ("needs", .ref p_needs), ("spares", .ref l0.spares), ("assigned", nv 0)])) p_needs = some (.lst xs_needs) := new_at ob8 h_needs
  have ob9 : (upd (upd H8 p_needs (.lst xs_needs)) a (.ins Z.CS dx [("driver", nv d.driver), ("budget", nv d.budget), ("nodes", .ref p_nodes), ("library", .ref p_library), ("choices", .ref p_choices), ("violations", nv d.repairs.violations), ("changes", .ref p_changes), ("conflicts", .ref p_conflicts), ("applied", nv d.repairs.applied), ("needs", .ref p_needs), ("spares", .ref l0.spares), ("assigned", nv 0)])) a = some (.ins Z.CS dx [("driver", nv d.driver), ("budget", nv d.budget), ("nodes", .ref p_nodes), ("library", .ref p_library), ("choices", .ref p_choices), ("violations", nv d.repairs.violations), ("changes", .ref p_changes), ("conflicts", .ref p_conflicts), ("applied", nv d.repairs.applied), ("needs", .ref p_needs), ("spares", .ref l0.spares), ("assigned", nv 0)]) := upd_same
  have s9 : Same H (upd (upd H8 p_needs (.lst xs_needs)) a (.ins Z.CS dx [("driver", nv d.driver), ("budget", nv d.budget), ("nodes", .ref p_nodes), ("library", .ref p_library), ("choices", .ref p_choices), ("violations", nv d.repairs.violations), ("changes", .ref p_changes), ("conflicts", .ref p_conflicts), ("applied", nv d.repairs.applied), ("needs", .ref p_needs), ("spares", .ref l0.spares), ("assigned", nv 0)])) := fun b o hb => kk9 b o (ne_of_none hb hfa) (s8 b o hb)
  generalize upd (upd H8 p_needs (.lst xs_needs)) a (.ins Z.CS dx [("driver", nv d.driver), ("budget", nv d.budget), ("nodes", .ref p_nodes), ("library", .ref p_library), ("choices", .ref p_choices), ("violations", nv d.repairs.violations), ("changes", .ref p_changes), ("conflicts", .ref p_conflicts), ("applied", nv d.repairs.applied), ("needs", .ref p_needs), ("spares", .ref l0.spares), ("assigned", nv 0)]) = H9 at *
  have S9 := S.mono s9
  walk_at "rd"
  refine ⟨l.spares, _, rfl, .inl (SqL.of (s9 _ _ hs_spares)), fun p_spares h_spares => ?_⟩
  have e10 := same_new (o := HO.lst xs_spares) h_spares
  have ha10 := e10 _ _ ob9
  walk_at "rd"
  refine r_fput ha10 T.clS T.nS_spares (by first | simp | exact stF_len) (gs := [("driver", nv d.driver), ("budget", nv d.budget), ("nodes", .ref p_nodes), ("library", .ref p_library), ("choices", .ref p_choices), ("violations", nv d.repairs.violations), ("changes", .ref p_changes), ("conflicts", .ref p_conflicts), ("applied", nv d.repairs.applied), ("needs", .ref p_needs), ("spares", .ref p_spares), ("assigned", nv 0)]) rfl ?_
  have kk10 : Kp a H9 (upd (upd H9 p_spares (.lst xs_spares)) a (.ins Z.CS dx [("driver", nv d.driver), ("budget", nv d.budget), ("nodes", .ref p_nodes), ("library", .ref p_library), ("choices", .ref p_choices), ("violations", nv d.repairs.violations), ("changes", .ref p_changes), ("conflicts", .ref p_conflicts), ("applied", nv d.repairs.applied), ("needs", .ref p_needs), ("spares", .ref p_spares), ("assigned", nv 0)])) := kp_put h_spares
  have ne_nodes_spares : p_nodes ≠ p_spares := ne_of_none l_nodes h_spares
  have ne_library_spares : p_library ≠ p_spares := ne_of_none l_library h_spares
  have ne_choices_spares : p_choices ≠ p_spares := ne_of_none l_choices h_spares
  have ne_changes_spares : p_changes ≠ p_spares := ne_of_none l_changes h_spares
  have ne_conflicts_spares : p_conflicts ≠ p_spares := ne_of_none l_conflicts h_spares
  have ne_needs_spares : p_needs ≠ p_spares := ne_of_none l_needs h_spares
  have na_spares : p_spares ≠ a := ne_ins ob9 h_spares
  have f_spares : H p_spares = none := s9.free h_spares
  replace l_nodes := kp_lst kk10 ob9 l_nodes
  replace l_library := kp_lst kk10 ob9 l_library
  replace l_choices := kp_lst kk10 ob9 l_choices
  replace l_changes := kp_lst kk10 ob9 l_changes
  replace l_conflicts := kp_lst kk10 ob9 l_conflicts
  replace l_needs := kp_lst kk10 ob9 l_needs
  have l_spares : (upd (upd H9 p_spares (.lst xs_spares)) a (.ins Z.CS dx [("driver", nv d.driver), ("budget", nv d.budget), ("nodes", .ref p_nodes), ("library", .ref p_library), ("choices", .ref p_choices), ("violations", nv d.repairs.violations), ("changes", .ref p_changes), ("conflicts", .ref p_conflicts), ("applied", nv d.repairs.applied), ("needs", .ref p_needs), ("spares", .ref p_spares), ("assigned", nv 0)])) p_spares = some (.lst xs_spares) := new_at ob9 h_spares
  have ob10 : (upd (upd H9 p_spares (.lst xs_spares)) a (.ins Z.CS dx [("driver", nv d.driver), ("budget", nv d.budget), ("nodes", .ref p_nodes), ("library", .ref p_library), ("choices", .ref p_choices), ("violations", nv d.repairs.violations), ("changes", .ref p_changes), ("conflicts", .ref p_conflicts), ("applied", nv d.repairs.applied), ("needs", .ref p_needs), ("spares", .ref p_spares), ("assigned", nv 0)])) a = some (.ins Z.CS dx [("driver", nv d.driver), ("budget", nv d.budget), ("nodes", .ref p_nodes), ("library", .ref p_library), ("choices", .ref p_choices), ("violations", nv d.repairs.violations), ("changes", .ref p_changes), ("conflicts", .ref p_conflicts), ("applied", nv d.repairs.applied), ("needs", .ref p_needs), ("spares", .ref p_spares), ("assigned", nv 0)]) := upd_same
  have s10 : Same H (upd (upd H9 p_spares (.lst xs_spares)) a (.ins Z.CS dx [("driver", nv d.driver), ("budget", nv d.budget), ("nodes", .ref p_nodes), ("library", .ref p_library), ("choices", .ref p_choices), ("violations", nv d.repairs.violations), ("changes", .ref p_changes), ("conflicts", .ref p_conflicts), ("applied", nv d.repairs.applied), ("needs", .ref p_needs), ("spares", .ref p_spares), ("assigned", nv 0)])) := fun b o hb => kk10 b o (ne_of_none hb hfa) (s9 b o hb)
  generalize upd (upd H9 p_spares (.lst xs_spares)) a (.ins Z.CS dx [("driver", nv d.driver), ("budget", nv d.budget), ("nodes", .ref p_nodes), ("library", .ref p_library), ("choices", .ref p_choices), ("violations", nv d.repairs.violations), ("changes", .ref p_changes), ("conflicts", .ref p_conflicts), ("applied", nv d.repairs.applied), ("needs", .ref p_needs), ("spares", .ref p_spares), ("assigned", nv 0)]) = H10 at *
  have S10 := S.mono s10
  walk_at "rd"
  refine r_fput ob10 T.clS T.nS_assigned (by first | simp | exact stF_len) (gs := [("driver", nv d.driver), ("budget", nv d.budget), ("nodes", .ref p_nodes), ("library", .ref p_library), ("choices", .ref p_choices), ("violations", nv d.repairs.violations), ("changes", .ref p_changes), ("conflicts", .ref p_conflicts), ("applied", nv d.repairs.applied), ("needs", .ref p_needs), ("spares", .ref p_spares), ("assigned", nv asg)]) rfl ?_
  have kk11 : Kp a H10 (upd H10 a (.ins Z.CS dx [("driver", nv d.driver), ("budget", nv d.budget), ("nodes", .ref p_nodes), ("library", .ref p_library), ("choices", .ref p_choices), ("violations", nv d.repairs.violations), ("changes", .ref p_changes), ("conflicts", .ref p_conflicts), ("applied", nv d.repairs.applied), ("needs", .ref p_needs), ("spares", .ref p_spares), ("assigned", nv asg)])) := Kp.upd
  replace l_nodes := kp_lst kk11 ob10 l_nodes
  replace l_library := kp_lst kk11 ob10 l_library
  replace l_choices := kp_lst kk11 ob10 l_choices
  replace l_changes := kp_lst kk11 ob10 l_changes
  replace l_conflicts := kp_lst kk11 ob10 l_conflicts
  replace l_needs := kp_lst kk11 ob10 l_needs
  replace l_spares := kp_lst kk11 ob10 l_spares
  have ob11 : (upd H10 a (.ins Z.CS dx [("driver", nv d.driver), ("budget", nv d.budget), ("nodes", .ref p_nodes), ("library", .ref p_library), ("choices", .ref p_choices), ("violations", nv d.repairs.violations), ("changes", .ref p_changes), ("conflicts", .ref p_conflicts), ("applied", nv d.repairs.applied), ("needs", .ref p_needs), ("spares", .ref p_spares), ("assigned", nv asg)])) a = some (.ins Z.CS dx [("driver", nv d.driver), ("budget", nv d.budget), ("nodes", .ref p_nodes), ("library", .ref p_library), ("choices", .ref p_choices), ("violations", nv d.repairs.violations), ("changes", .ref p_changes), ("conflicts", .ref p_conflicts), ("applied", nv d.repairs.applied), ("needs", .ref p_needs), ("spares", .ref p_spares), ("assigned", nv asg)]) := upd_same
  have s11 : Same H (upd H10 a (.ins Z.CS dx [("driver", nv d.driver), ("budget", nv d.budget), ("nodes", .ref p_nodes), ("library", .ref p_library), ("choices", .ref p_choices), ("violations", nv d.repairs.violations), ("changes", .ref p_changes), ("conflicts", .ref p_conflicts), ("applied", nv d.repairs.applied), ("needs", .ref p_needs), ("spares", .ref p_spares), ("assigned", nv asg)])) := fun b o hb => kk11 b o (ne_of_none hb hfa) (s10 b o hb)
  generalize upd H10 a (.ins Z.CS dx [("driver", nv d.driver), ("budget", nv d.budget), ("nodes", .ref p_nodes), ("library", .ref p_library), ("choices", .ref p_choices), ("violations", nv d.repairs.violations), ("changes", .ref p_changes), ("conflicts", .ref p_conflicts), ("applied", nv d.repairs.applied), ("needs", .ref p_needs), ("spares", .ref p_spares), ("assigned", nv asg)]) = H11 at *
  have S11 := S.mono s11
  walk_at "rd"
  refine k a ⟨p_nodes, p_library, p_choices, p_changes, p_conflicts, p_needs, p_spares⟩ _ s11 ?_ ?_ ⟨⟨dx, ob11⟩, ⟨_, l_nodes, A_nodes.mono fun _ _ h => Row.mono s11 h⟩, ⟨_, l_library, A_library.mono fun _ _ h => Row.mono s11 h⟩, l_choices, ⟨_, l_changes, A_changes.mono fun _ _ h => Row.mono s11 h⟩, ⟨_, l_conflicts, A_conflicts.mono fun _ _ h => Row.mono s11 h⟩, ⟨_, l_needs, A_needs.mono fun _ _ h => Row.mono s11 h⟩, ⟨_, l_spares, A_spares.mono fun _ _ h => Row.mono s11 h⟩⟩
  · intro b hb
    simp only [ownA, List.mem_cons, List.not_mem_nil, or_false] at hb
    rcases hb with rfl | rfl | rfl | rfl | rfl | rfl | rfl | rfl <;> assumption
  · simp only [ownA, List.nodup_cons, List.mem_cons, List.not_mem_nil, or_false, not_or, not_false_eq_true, List.nodup_nil, and_true]
    refine ⟨⟨na_nodes.symm, na_library.symm, na_choices.symm, na_changes.symm, na_conflicts.symm, na_needs.symm, na_spares.symm⟩, ?_⟩
    refine ⟨⟨?_, ?_, ?_, ?_, ?_, ?_⟩, ⟨?_, ?_, ?_, ?_, ?_⟩, ⟨?_, ?_, ?_, ?_⟩, ⟨?_, ?_, ?_⟩, ⟨?_, ?_⟩, ?_⟩ <;> assumption
theorem m_State_twin {P : Program} {w : World} {K : PySem.W.Frag} {mg : Str → Option Value} {base : Heap} {Z : Cs} (T : TX K mg Z) (m_State : Mak P w K mg base CX0 Z.CS 1 ["self", "driver", "budget"] (sp_State_init K Z)) {f : Addr} {fd : FuncData} (M : Meth K Z.CS "twin" f) (F : Fun K "twin" "State.twin" s_State_twin f fd) : Met P w K mg base CX0 Z.CS 3 "twin" ["self"] (sp_State_twin K Z) :=
  ⟨f, fd, M, F.binds (ps := ["self"]) (fun _ _ _ _ _ _ us hl => match us, hl with | [_], _ => rfl), ok_State_twin T m_State F⟩


def inF (v : V) (e u : Addr) : List (Str × V) := [("state", v), ("earlier", .ref e), ("undone", .ref u)]
theorem inF_len {v : V} {e u : Addr} : (inF v e u).length < 1000 := (by decide : 3 < 1000)
theorem stF_ne {d : Design} {l : Ls} {asg : Nat} {v : V} {e u : Addr} : stF d l asg ≠ inF v e u := fun z => by
  have := congrArg List.length z
  revert this
  exact (by decide : ¬ (12 = 3))
section
variable {K : PySem.W.Frag} {mg : Str → Option Value} {Z : Cs} {H H2 : Hp} {g a i e u e' u' dx : Addr} {v x : V} {d : Design} {l : Ls} {asg : Nat} {Q : VK}
theorem fI_state (T : TX K mg Z) (h : H i = some (.ins Z.CI dx (inF v e u))) (q : Q v H) : fldG K "state" (.ref i) H Q := ⟨i, Z.CI, dx, _, _, rfl, h, T.clI, T.nI_state, rfl, q⟩
theorem fI_earlier (T : TX K mg Z) (h : H i = some (.ins Z.CI dx (inF v e u))) (q : Q (.ref e) H) : fldG K "earlier" (.ref i) H Q := ⟨i, Z.CI, dx, _, _, rfl, h, T.clI, T.nI_earlier, rfl, q⟩
theorem fI_undone (T : TX K mg Z) (h : H i = some (.ins Z.CI dx (inF v e u))) (q : Q (.ref u) H) : fldG K "undone" (.ref i) H Q := ⟨i, Z.CI, dx, _, _, rfl, h, T.clI, T.nI_undone, rfl, q⟩
/-- no tuple stands there -/
def NoTup (H : Hp) (b : Addr) : Prop := (∀ xs, H b ≠ some (.tup xs)) ∧ ∀ o xs, H b ≠ some (.frz o (.tup xs))
theorem noTup_lst {b : Addr} {xs : List V} (h : H b = some (.lst xs)) : NoTup H b := ⟨fun ys z => (by rw [h] at z; cases z), fun o ys z => (by rw [h] at z; cases z)⟩
theorem noTup_ins {b C dx : Addr} {fs : List (Str × V)} (h : H b = some (.ins C dx fs)) : NoTup H b := ⟨fun ys z => (by rw [h] at z; cases z), fun o ys z => (by rw [h] at z; cases z)⟩
theorem noTup_none {b : Addr} (h : H b = none) : NoTup H b := ⟨fun ys z => (by rw [h] at z; cases z), fun o ys z => (by rw [h] at z; cases z)⟩
theorem Row.keepO {O : List Addr} {r : List Int} (k : ∀ b o, b ∉ O → H b = some o → H2 b = some o) (nt : ∀ b ∈ O, NoTup H b) (h : Row K H x r) : Row K H2 x r := by
  obtain ⟨p, q, t⟩ := h
  refine ⟨p, q, ?_⟩
  rcases t with (t | ⟨o, t⟩) | t
  · exact .inl (.inl (k p _ (fun m => (nt p m).1 _ t) t))
  · exact .inl (.inr ⟨o, k p _ (fun m => (nt p m).2 _ _ t) t⟩)
  · exact .inr t
theorem TabA.keepO {O : List Addr} {B : Type} {f : B → List Int} {ys : List B} {b : Addr} (k : ∀ b o, b ∉ O → H b = some o → H2 b = some o) (nt : ∀ b ∈ O, NoTup H b) (hb : b ∉ O) (h : TabA K H b f ys) : TabA K H2 b f ys :=
  let ⟨xs, q, t⟩ := h
  ⟨xs, k b _ hb q, t.mono fun _ _ r => Row.keepO k nt r⟩
theorem StAt.keepO {O : List Addr} (S : StAt K Z H a d l asg) (k : ∀ b o, b ∉ O → H b = some o → H2 b = some o) (nt : ∀ b ∈ O, NoTup H b) (dis : ∀ b ∈ ownA a l, b ∉ O) : StAt K Z H2 a d l asg := by
  obtain ⟨m1, m2, m3, m4, m5, m6, m7, m8⟩ := own_mem a l
  obtain ⟨dx, ho⟩ := S.obj
  exact ⟨⟨dx, k _ _ (dis _ m1) ho⟩, S.nodes.keepO k nt (dis _ m2), S.library.keepO k nt (dis _ m3), k _ _ (dis _ m4) S.choices, S.changes.keepO k nt (dis _ m5), S.conflicts.keepO k nt (dis _ m6), S.needs.keepO k nt (dis _ m7), S.spares.keepO k nt (dis _ m8)⟩
/-- what stands at the own addresses -/
theorem StAt.tracked (S : StAt K Z H a d l asg) : ∀ b ∈ ownA a l, (∃ xs, H b = some (.lst xs)) ∨ ∃ dx, H b = some (.ins Z.CS dx (stF d l asg)) := by
  intro b hb
  simp only [ownA, List.mem_cons, List.not_mem_nil, or_false] at hb
  rcases hb with rfl | rfl | rfl | rfl | rfl | rfl | rfl | rfl
  · exact .inr S.obj
  · exact .inl (let ⟨xs, q, _⟩ := S.nodes; ⟨xs, q⟩)
  · exact .inl (let ⟨xs, q, _⟩ := S.library; ⟨xs, q⟩)
  · exact .inl ⟨_, S.choices⟩
  · exact .inl (let ⟨xs, q, _⟩ := S.changes; ⟨xs, q⟩)
  · exact .inl (let ⟨xs, q, _⟩ := S.conflicts; ⟨xs, q⟩)
  · exact .inl (let ⟨xs, q, _⟩ := S.needs; ⟨xs, q⟩)
  · exact .inl (let ⟨xs, q, _⟩ := S.spares; ⟨xs, q⟩)
theorem StAt.not_free (S : StAt K Z H a d l asg) {b : Addr} (hb : b ∈ ownA a l) : H b ≠ none := fun z => by
  rcases S.tracked b hb with ⟨xs, q⟩ | ⟨dx, q⟩ <;> rw [z] at q <;> cases q
theorem StAt.not_inst (S : StAt K Z H a d l asg) (hi : H i = some (.ins Z.CI dx (inF v e u))) {b : Addr} (hb : b ∈ ownA a l) : b ≠ i := fun z => by
  rcases S.tracked b hb with ⟨xs, q⟩ | ⟨dx, q⟩
  · rw [z, hi] at q
    cases q
  · rw [z, hi] at q
    have q2 := Option.some.inj q
    injection q2 with q3 q4 q5
    exact stF_ne q5.symm
/-- a state kept beside the two lists -/
def SV (K : PySem.W.Frag) (Z : Cs) (g e u : Addr) (H : Hp) (x : V) (d : Design) : Prop := ∃ a l, x = .ref a ∧ (∀ b ∈ ownA a l, b ≠ e ∧ b ≠ u ∧ b ≠ g) ∧ StAt K Z H a d l (asgOf d) ∧ Ok d
theorem SV.move (h : SV K Z g e u H x d) (hi : H i = some (.ins Z.CI dx (inF v e u))) (k : KpO [i, e, u] H H2) (nte : NoTup H e) (ntu : NoTup H u) (he : e' = e ∨ H e' = none) (hu : u' = u ∨ H u' = none) : SV K Z g e' u' H2 x d := by
  obtain ⟨a, l, rfl, ne, S, O⟩ := h
  refine ⟨a, l, rfl, fun b hb => ⟨?_, ?_, (ne b hb).2.2⟩, S.keepO k.1 ?_ ?_, O⟩
  · rcases he with rfl | he
    · exact (ne b hb).1
    · exact fun z => S.not_free hb (z ▸ he)
  · rcases hu with rfl | hu
    · exact (ne b hb).2.1
    · exact fun z => S.not_free hb (z ▸ hu)
  · intro b hb
    simp only [List.mem_cons, List.not_mem_nil, or_false] at hb
    rcases hb with rfl | rfl | rfl
    · exact noTup_ins hi
    · exact nte
    · exact ntu
  · intro b hb hm
    simp only [List.mem_cons, List.not_mem_nil, or_false] at hm
    rcases hm with rfl | rfl | rfl
    · exact S.not_inst hi hb rfl
    · exact (ne _ hb).1 rfl
    · exact (ne _ hb).2.1 rfl
def pastOf : Kpd9.State → List Design
  | none => []
  | some w => w.past
def futOf : Kpd9.State → List Design
  | none => []
  | some w => w.future
def StV (K : PySem.W.Frag) (Z : Cs) (g e u : Addr) (H : Hp) (v : V) : Kpd9.State → Prop
  | none => v = .non
  | some w => SV K Z g e u H v w.design
structure InsAt (K : PySem.W.Frag) (Z : Cs) (g : Addr) (H : Hp) (i e u : Addr) (st : Kpd9.State) : Prop where
  obj : ∃ dx v, H i = some (.ins Z.CI dx (inF v e u)) ∧ StV K Z g e u H v st
  earlier : ∃ xs, H e = some (.lst xs) ∧ All2 (SV K Z g e u H) xs (pastOf st).reverse
  undone : ∃ ys, H u = some (.lst ys) ∧ All2 (SV K Z g e u H) ys (futOf st).reverse
  ne : e ≠ u
  len : (pastOf st).length + (futOf st).length ≤ 10
  gt : H g ≠ none
  ng : g ≠ i ∧ g ≠ e ∧ g ≠ u
/-- all else is kept, the lists are the old ones or new ones -/
def IPost (K : PySem.W.Frag) (Z : Cs) (g i e u : Addr) (H : Hp) (st : Kpd9.State) (H2 : Hp) : Prop := KpO [i, e, u] H H2 ∧ ∃ e' u', (e' = e ∨ H e' = none) ∧ (u' = u ∨ H u' = none) ∧ InsAt K Z g H2 i e' u' st
def Step (K : PySem.W.Frag) (Z : Cs) (g i e u : Addr) (H : Hp) (Q : VK) (E : XK) (p : Kpd9.State × Kpd9.Result) : Prop :=
  (∀ q H2, H q = none → IPost K Z g i e u H p.1 H2 → H2 q = some (.lst ((resL p.2).map V.int)) → Q (.ref q) H2) ∧ (∀ c, resL p.2 = [c] → ∀ dx H2, IPost K Z g i e u H p.1 H2 → H2 dx = some (.xd [(("code" : Str), .int c)]) → E (.ref Z.CR) (some dx) H2)
end
theorem InsAt.moved {K : PySem.W.Frag} {Z : Cs} {H H2 : Hp} {g i e u : Addr} {st : Kpd9.State} (I : InsAt K Z g H i e u st) (s : Same H H2) : InsAt K Z g H2 i e u st := by
  obtain ⟨dx, v, hi, hv⟩ := I.obj
  obtain ⟨xs, hx, hA⟩ := I.earlier
  obtain ⟨ys, hy, hB⟩ := I.undone
  have mv : ∀ x d, SV K Z g e u H x d → SV K Z g e u H2 x d := fun x d h => h.move hi (.of s) (noTup_lst hx) (noTup_lst hy) (.inl rfl) (.inl rfl)
  refine ⟨⟨dx, v, s _ _ hi, ?_⟩, ⟨xs, s _ _ hx, hA.mono mv⟩, ⟨ys, s _ _ hy, hB.mono mv⟩, I.ne, I.len, fun z => I.gt (s.free z), I.ng⟩
  cases st with
  | none => exact hv
  | some w => exact mv _ _ hv
theorem IPost.same {K : PySem.W.Frag} {Z : Cs} {H H2 : Hp} {g i e u : Addr} {st : Kpd9.State} (I : InsAt K Z g H i e u st) (s : Same H H2) : IPost K Z g i e u H st H2 := ⟨.of s, e, u, .inl rfl, .inl rfl, I.moved s⟩
theorem Step.err {K : PySem.W.Frag} {Z : Cs} {g i e u : Addr} {H H1 : Hp} {Q : VK} {E : XK} {st : Kpd9.State} {r : Kpd9.Result} {c : Int} (h : Step K Z g i e u H Q E (st, r)) (I : InsAt K Z g H i e u st) (s : Same H H1) (hr : resL r = [c]) : Rai Z.CR c H1 E :=
  fun dx H2 s2 hx => h.2 c hr dx H2 (.same I (s.trans s2)) hx
local macro_rules | `(tactic| walk_at "rd1") => `(tactic| ((with_reducible show fldG _ _ _ _ _); (first | (with_reducible refine fI_state (by assumption) (by assumption) ?_) | (with_reducible refine fI_earlier (by assumption) (by assumption) ?_) | (with_reducible refine fI_undone (by assumption) (by assumption) ?_))))
abbrev s_Instance_init : Stmt := inClass (top 128) 0
abbrev N_Instance_init : List Str := ["self"]
theorem sc_Instance_init : FnScope N_Instance_init ["self"] (defScope s_Instance_init) := ⟨rfl, rfl, rfl, by decide +kernel, rfl, by decide +kernel, by decide +kernel⟩
def sp_Instance_init (K : PySem.W.Frag) (Z : Cs) : Sp := sp1 fun x H Q _ => ∃ (i dx : Addr), x = .ref i ∧ H i = some (.ins Z.CI dx []) ∧ ∀ e u H2, Kp i H H2 → H e = none → H u = none → (∃ dx, H2 i = some (.ins Z.CI dx (inF .non e u))) → H2 e = some (.lst []) → H2 u = some (.lst []) → e ≠ u → Q .non H2
set_option maxHeartbeats 4000000 in
theorem ok_Instance_init {P : Program} {w : World} {K : PySem.W.Frag} {mg : Str → Option Value} {base : Heap} {Z : Cs} (T : TX K mg Z)  {f : Addr} {fd : FuncData} (F : Fun K "__init__" "Instance.__init__" s_Instance_init f fd) : FnOk P w K mg base CX0 1 f fd ["self"] (sp_Instance_init K Z) := by
  refine F.ok sc_Instance_init len1 (fun cdv A outer s H vs Q E hr h => ⟨_, (pss_cons (ps_fld (pv 0) pe_non rfl)
    (pss_cons (ps_fld (pv 0) (pe_lst pa_nil) rfl)
    (pss_one (ps_fld (pv 0) (pe_lst pa_nil) rfl)))), ?_⟩)
  obtain ⟨_, rfl, i, dx, rfl, ha, k⟩ := h
  walk_at "rd"
  refine r_fput ha T.clI T.nI_state (by simp) (gs := [("state", .non)]) rfl ?_
  have k1 : Kp i H (upd H i (.ins Z.CI dx [("state", .non)])) := Kp.upd
  have o1 : (upd H i (.ins Z.CI dx [("state", .non)])) i = some (.ins Z.CI dx [("state", .non)]) := upd_same
  generalize hH1 : upd H i (.ins Z.CI dx [("state", .non)]) = H1 at *
  have fr1 : ∀ b, H1 b = none → H b = none := fun b hb => by
    rw [← hH1] at hb
    by_cases z : b = i
    · rw [z, upd_same] at hb
      cases hb
    · rw [upd_ne z] at hb
      exact hb
  walk_at "rd"
  refine ⟨lineR rfl, fun e he => ?_⟩
  have o2 := same_new (o := HO.lst []) he _ _ o1
  walk_at "rd"
  refine r_fput o2 T.clI T.nI_earlier (by simp) (gs := [("state", .non), ("earlier", .ref e)]) rfl ?_
  have k2 : Kp i H1 (upd (upd H1 e (.lst [])) i (.ins Z.CI dx [("state", .non), ("earlier", .ref e)])) := kp_put he
  have l2 : (upd (upd H1 e (.lst [])) i (.ins Z.CI dx [("state", .non), ("earlier", .ref e)])) e = some (.lst []) := new_at o1 he
  have o3 : (upd (upd H1 e (.lst [])) i (.ins Z.CI dx [("state", .non), ("earlier", .ref e)])) i = some (.ins Z.CI dx [("state", .non), ("earlier", .ref e)]) := upd_same
  have fr2 : ∀ b, (upd (upd H1 e (.lst [])) i (.ins Z.CI dx [("state", .non), ("earlier", .ref e)])) b = none → H1 b = none := fun b hb => by
    by_cases z : b = i
    · rw [z, upd_same] at hb
      cases hb
    · rw [upd_ne z] at hb
      by_cases z2 : b = e
      · rw [z2, upd_same] at hb
        cases hb
      · rw [upd_ne z2] at hb
        exact hb
  generalize hH2 : upd (upd H1 e (.lst [])) i (.ins Z.CI dx [("state", .non), ("earlier", .ref e)]) = H2 at *
  walk_at "rd"
  refine ⟨lineR rfl, fun u hu => ?_⟩
  have o4 := same_new (o := HO.lst []) hu _ _ o3
  walk_at "rd"
  refine r_fput o4 T.clI T.nI_undone (by simp) (gs := inF .non e u) rfl ?_
  have k3 : Kp i H2 (upd (upd H2 u (.lst [])) i (.ins Z.CI dx (inF .non e u))) := kp_put hu
  have ne : e ≠ u := ne_of_none l2 hu
  walk_at "rd"
  refine k e u _ ((k1.trans k2).trans k3) (fr1 e he) (fr1 u (fr2 u hu)) ⟨dx, upd_same⟩ (kp_lst k3 o3 l2) (new_at o3 hu) ne
theorem m_Instance_init {P : Program} {w : World} {K : PySem.W.Frag} {mg : Str → Option Value} {base : Heap} {Z : Cs} (T : TX K mg Z)  {f : Addr} {fd : FuncData} (M : Mk K Z.CI f) (F : Fun K "__init__" "Instance.__init__" s_Instance_init f fd) : Mak P w K mg base CX0 Z.CI 1 ["self"] (sp_Instance_init K Z) :=
  ⟨f, fd, M, F.binds (ps := ["self"]) (fun _ _ _ _ _ _ us hl => match us, hl with | [_], _ => rfl), ok_Instance_init T  F⟩
theorem ok_d0 {dr bu : Nat} (h : dr ≤ 1000) : Ok (d0 dr bu) ∧ asgOf (d0 dr bu) = 0 := by
  refine ⟨⟨⟨by simp [d0], by simp [d0], ?_, ?_, by simp [d0, Node.isAllowed], by simp [d0], by simp [d0], h, by rfl, by simp [d0], by simp [d0], by simp [d0], by simp [d0], by simp [d0], by simp [d0]⟩, Nat.zero_le _⟩, rfl⟩
  · intro u m e hu
    have := lt_of_get e
    simp [d0] at this
    omega
  · intro n hn
    have : n = ⟨0, 0, 0, false, none⟩ := by simpa [d0] using hn
    subst this
    exact Nat.zero_le _


theorem ed_change {op : Nat} {args : List Nat} {q : Kpd9.Request} (h : EdQ op args q) : Kpd9.isChange q = true := by cases h <;> rfl
theorem step_edit {op : Nat} {args : List Nat} {q : Kpd9.Request} (h : EdQ op args q) (w : Kpd9.Workspace) : Kpd9.step (some w) q = match Kpd9.change w.design q with
    | .error code => (some w, .value code)
    | .ok (d, r) => (some (w.to d), r) := by
  cases h <;> rfl
theorem mem3 {b i e u : Addr} : b ∈ [i, e, u] ↔ b = i ∨ b = e ∨ b = u := by simp
theorem cut_last {xs : List V} : cutV xs none (some (-1)) = xs.dropLast := by
  unfold cutV
  show (xs.drop 0).take ((if (-1 : Int) < 0 then ((-1 : Int) + (xs.length : Int)).toNat else min (-1 : Int).toNat xs.length) - 0) = _
  rw [if_pos (by decide), List.drop_zero, List.dropLast_eq_take, Nat.sub_zero]
  congr 1
  omega
theorem cut_ten {xs : List V} : cutV xs (some (-10)) none = xs.drop (xs.length - 10) := by
  unfold cutV
  show (xs.drop (if (-10 : Int) < 0 then ((-10 : Int) + (xs.length : Int)).toNat else min (-10 : Int).toNat xs.length)).take (xs.length - (if (-10 : Int) < 0 then ((-10 : Int) + (xs.length : Int)).toNat else min (-10 : Int).toNat xs.length)) = _
  rw [if_pos (by decide)]
  have e : ((-10 : Int) + (xs.length : Int)).toNat = xs.length - 10 := by omega
  rw [e, List.take_of_length_le (by rw [List.length_drop]; exact Nat.le_refl _)]
theorem all2_drop {A B : Type} {R : A → B → Prop} {xs : List A} {ys : List B} (h : All2 R xs ys) (n : Nat) : All2 R (xs.drop n) (ys.drop n) :=
  ⟨by rw [List.length_drop, List.length_drop, h.1], fun i x y a b => h.2 (n + i) x y (by rw [← List.getElem?_drop]; exact a) (by rw [← List.getElem?_drop]; exact b)⟩
theorem all2_dropLast {A B : Type} {R : A → B → Prop} {xs : List A} {ys : List B} (h : All2 R xs ys) : All2 R xs.dropLast ys.dropLast := by
  refine ⟨by rw [List.length_dropLast, List.length_dropLast, h.1], fun i x y a b => ?_⟩
  rw [List.getElem?_dropLast] at a b
  split at a
  · split at b
    · exact h.2 i x y a b
    · cases b
  · cases a
abbrev s_Instance_create : Stmt := inClass (top 128) 1
abbrev N_Instance_create : List Str := ["self", "driver", "budget"]
theorem sc_Instance_create : FnScope N_Instance_create ["self", "driver", "budget"] (defScope s_Instance_create) := ⟨rfl, rfl, rfl, by decide +kernel, rfl, by decide +kernel, by decide +kernel⟩
def sp_Instance_create (K : PySem.W.Frag) (Z : Cs) : Sp := sp3 fun x y z H Q E => ∃ (g i e u : Addr) (st : Kpd9.State) (r b : Nat), x = .ref i ∧ y = nv r ∧ z = nv b ∧ InsAt K Z g H i e u st ∧ Step K Z g i e u H Q E (Kpd9.step st (.create r b))
set_option maxHeartbeats 4000000 in
theorem ok_Instance_create {P : Program} {w : World} {K : PySem.W.Frag} {mg : Str → Option Value} {base : Heap} {Z : Cs} (T : TX K mg Z) (m_State : Mak P w K mg base CX0 Z.CS 1 ["self", "driver", "budget"] (sp_State_init K Z)) (c_require : Cal P w K mg base (L2.CX P w) 3 "require" ["is_right", "code"] (sp_require K Z)) {f : Addr} {fd : FuncData} (F : Fun K "create" "Instance.create" s_Instance_create f fd) : FnOk P w K mg base (L2.CX P w) 4 f fd ["self", "driver", "budget"] (sp_Instance_create K Z) := by
  refine F.okX sc_Instance_create len3 (fun cdv A outer s H vs Q E hr h => ⟨_, (pss_cons (ps_expr (pe_cS c_require (takes_of rfl rfl rfl rfl) (hr.mono (by decide)) (by rfl) (pa_cons (pe_and (pe_chain op_le op_le pe_int (pv 1) (pe_gi T.c_MOST_DRIVER (by rfl))) (pe_one (pe_cmpR op_le (pv 2) (pe_gi T.c_MOST_BUDGET (by rfl)) (nomark _)))) (pa_cons (pe_gi T.c_OUT_OF_RANGE (by rfl)) pa_nil))))
    (pss_cons (ps_fld (pv 0) (pe_k m_State (hr.mono (by decide)) (by rfl) T.g_State (pa_cons (pv 1) (pa_cons (pv 2) pa_nil))) rfl)
    (pss_cons (ps_fld (pv 0) (pe_lst pa_nil) rfl)
    (pss_cons (ps_fld (pv 0) (pe_lst pa_nil) rfl)
    (pss_one (ps_ret (pe_lst (pa_cons pe_int pa_nil)))))))), ?_⟩)
  obtain ⟨_, _, _, rfl, g, i, e, u, st, r, b, rfl, rfl, rfl, I, k⟩ := h
  have es : Kpd9.step st (.create r b) = if r = 0 ∨ 1000 < r ∨ 1000000000 < b then (st, .value (-22)) else (some ⟨d0 r b, [], []⟩, .value 0) := by
    cases st <;> rfl
  rw [es] at k
  obtain ⟨dxi, vi, hi, hvi⟩ := I.obj
  obtain ⟨xs, hx, hA⟩ := I.earlier
  obtain ⟨ys, hy, hB⟩ := I.undone
  walk_at "rd"
  refine ifd (fun c1 => ?_) (fun c1 => ?_)
  rotate_left
  · walk_at "rd"
    refine iteF ?_
    walk_at "rd"
    rw [if_pos (by omega)] at k
    exact r_reqF (k.err I (Same.refl H) rfl)
  walk_at "rd"
  refine ifd (fun c2 => ?_) (fun c2 => ?_)
  rotate_left
  · walk_at "rd"
    rw [if_pos (by omega)] at k
    exact r_reqF (k.err I (Same.refl H) rfl)
  walk_at "rd"
  refine r_reqd (fun c3 => ?_) (fun c3 => ?_)
  rotate_left
  · rw [if_pos (by omega)] at k
    exact k.err I (Same.refl H) rfl
  rw [if_neg (by omega)] at k
  walk_at "rd"
  intro a dx0 hfa hfd hda
  refine ⟨_, _, _, rfl, a, dx0, r, b, rfl, rfl, rfl, upd_same, fun l0 H1 kpi lfr SI => ⟨rfl, ?_⟩⟩
  have s1 : Same H H1 := fun c o hc => kpi c o (ne_of_none hc hfa) (by
    rw [upd_ne (ne_of_none hc hfa), upd_ne (ne_of_none hc hfd)]
    exact hc)
  have hi1 := s1 _ _ hi
  walk_at "rd"
  refine r_fput hi1 T.clI T.nI_state inF_len (gs := inF (.ref a) e u) rfl ?_
  have o2 : (upd H1 i (.ins Z.CI dxi (inF (.ref a) e u))) i = some (.ins Z.CI dxi (inF (.ref a) e u)) := upd_same
  have k2 : Kp i H1 (upd H1 i (.ins Z.CI dxi (inF (.ref a) e u))) := Kp.upd
  generalize upd H1 i (.ins Z.CI dxi (inF (.ref a) e u)) = H2 at *
  walk_at "rd"
  refine ⟨lineR rfl, fun e2 he2 => ?_⟩
  have o3 := same_new (o := HO.lst []) he2 _ _ o2
  walk_at "rd"
  refine r_fput o3 T.clI T.nI_earlier inF_len (gs := inF (.ref a) e2 u) rfl ?_
  have o4 : (upd (upd H2 e2 (.lst [])) i (.ins Z.CI dxi (inF (.ref a) e2 u))) i = some (.ins Z.CI dxi (inF (.ref a) e2 u)) := upd_same
  have k4 : Kp i H2 (upd (upd H2 e2 (.lst [])) i (.ins Z.CI dxi (inF (.ref a) e2 u))) := kp_put he2
  have l4 : (upd (upd H2 e2 (.lst [])) i (.ins Z.CI dxi (inF (.ref a) e2 u))) e2 = some (.lst []) := new_at o2 he2
  generalize upd (upd H2 e2 (.lst [])) i (.ins Z.CI dxi (inF (.ref a) e2 u)) = H4 at *
  walk_at "rd"
  refine ⟨lineR rfl, fun u2 hu2 => ?_⟩
  have o5 := same_new (o := HO.lst []) hu2 _ _ o4
  walk_at "rd"
  refine r_fput o5 T.clI T.nI_undone inF_len (gs := inF (.ref a) e2 u2) rfl ?_
  have o6 : (upd (upd H4 u2 (.lst [])) i (.ins Z.CI dxi (inF (.ref a) e2 u2))) i = some (.ins Z.CI dxi (inF (.ref a) e2 u2)) := upd_same
  have k6 : Kp i H4 (upd (upd H4 u2 (.lst [])) i (.ins Z.CI dxi (inF (.ref a) e2 u2))) := kp_put hu2
  have l6 : (upd (upd H4 u2 (.lst [])) i (.ins Z.CI dxi (inF (.ref a) e2 u2))) u2 = some (.lst []) := new_at o4 hu2
  have l7 := kp_lst k6 o4 l4
  have ne : e2 ≠ u2 := ne_of_none l4 hu2
  generalize upd (upd H4 u2 (.lst [])) i (.ins Z.CI dxi (inF (.ref a) e2 u2)) = H6 at *
  have kk : Kp i H1 H6 := (k2.trans k4).trans k6
  have nf : ∀ (Hx : Hp), Kp i H1 Hx → ∀ c ∈ ownA a l0, Hx c ≠ none := fun Hx kx c hc z => by
    have q := SI.not_inst hi1 hc
    rcases SI.tracked c hc with ⟨zs, hz⟩ | ⟨dz, hz⟩
    · rw [kx _ _ q hz] at z
      cases z
    · rw [kx _ _ q hz] at z
      cases z
  have S6 : StAt K Z H6 a (d0 r b) l0 0 := SI.keepO (O := [i]) (fun c o hc ho => kk c o (by simpa using hc) ho) (fun c hc => by
      have : c = i := by simpa using hc
      subst this
      exact noTup_ins hi1) (fun c hc hm => SI.not_inst hi1 hc (by simpa using hm))
  have ok := ok_d0 (dr := r) (bu := b) (by omega)
  walk_at "rd"
  refine ⟨lineR rfl, fun q hq => ?_⟩
  have e7 := same_new (o := HO.lst [.int 0]) hq
  have hfree : ∀ c, (c = e2 ∨ c = u2) → H c = none := fun c hc => by
    cases hcc : H c with
    | none => rfl
    | some o =>
      have z1 := s1 _ _ hcc
      have ci : c ≠ i := by
        rcases hc with rfl | rfl
        · exact ne_ins o2 he2
        · exact ne_ins o4 hu2
      rcases hc with rfl | rfl
      · rw [k2 _ _ ci z1] at he2
        cases he2
      · rw [k4 _ _ ci (k2 _ _ ci z1)] at hu2
        cases hu2
  have kpo : KpO [i, e, u] H H6 := ⟨fun c o hc ho => kk c o (fun z => hc (mem3.mpr (.inl z))) (s1 _ _ ho), fun c hc => by
    cases hcc : H c with
    | none => rfl
    | some o =>
      by_cases z : c = i
      · rw [z, o6] at hc
        cases hc
      · rw [kk _ _ z (s1 _ _ hcc)] at hc
        cases hc⟩
  refine k.1 q _ (kpo.2 _ hq) ⟨kpo.trans (.of e7), e2, u2, .inr (hfree _ (.inl rfl)), .inr (hfree _ (.inr rfl)), ?_⟩ (by rw [upd_same]; rfl)
  refine InsAt.moved ⟨⟨dxi, .ref a, o6, a, l0, rfl, fun c hc => ⟨fun z => nf H2 k2 c hc (by rw [z]; exact he2), fun z => nf H4 (k2.trans k4) c hc (by rw [z]; exact hu2), fun z => I.gt (by
      rw [← z]
      rcases lfr c hc with y | y
      · rw [y]; exact hfa
      · cases hcc : H c with
        | none => rfl
        | some o =>
          rw [upd_ne (ne_of_none hcc hfa), upd_ne (ne_of_none hcc hfd), hcc] at y
          cases y)⟩, by rw [ok.2]; exact S6, ok.1⟩, ⟨[], l7, .nil⟩, ⟨[], l6, .nil⟩, ne, by simp [pastOf, futOf], fun z => I.gt (kpo.2 _ z), I.ng.1, fun z => I.gt (z ▸ hfree _ (.inl rfl)), fun z => I.gt (z ▸ hfree _ (.inr rfl))⟩ e7
theorem m_Instance_create {P : Program} {w : World} {K : PySem.W.Frag} {mg : Str → Option Value} {base : Heap} {Z : Cs} (T : TX K mg Z) (m_State : Mak P w K mg base CX0 Z.CS 1 ["self", "driver", "budget"] (sp_State_init K Z)) (c_require : Cal P w K mg base (L2.CX P w) 3 "require" ["is_right", "code"] (sp_require K Z)) {f : Addr} {fd : FuncData} (M : Meth K Z.CI "create" f) (F : Fun K "create" "Instance.create" s_Instance_create f fd) : Met P w K mg base (L2.CX P w) Z.CI 4 "create" ["self", "driver", "budget"] (sp_Instance_create K Z) :=
  ⟨f, fd, M, F.binds (ps := ["self", "driver", "budget"]) (fun _ _ _ _ _ _ us hl => match us, hl with | [_, _, _], _ => rfl), ok_Instance_create T m_State c_require F⟩


theorem last_rev {α : Type} {d : α} {r : List α} : (d :: r).reverse.getLast? = some d := by simp
theorem dropLast_rev {α : Type} {d : α} {r : List α} : (d :: r).reverse.dropLast = r.reverse := by simp
abbrev s_Instance_undo : Stmt := inClass (top 128) 3
abbrev N_Instance_undo : List Str := ["self"]
theorem sc_Instance_undo : FnScope N_Instance_undo ["self"] (defScope s_Instance_undo) := ⟨rfl, rfl, rfl, by decide +kernel, rfl, by decide +kernel, by decide +kernel⟩
def sp_Instance_undo (K : PySem.W.Frag) (Z : Cs) : Sp := sp1 fun x H Q E => ∃ (g i e u : Addr) (w : Kpd9.Workspace), x = .ref i ∧ InsAt K Z g H i e u (some w) ∧ Step K Z g i e u H Q E (Kpd9.step (some w) .undo)
set_option maxHeartbeats 4000000 in
theorem ok_Instance_undo {P : Program} {w : World} {K : PySem.W.Frag} {mg : Str → Option Value} {base : Heap} {Z : Cs} (T : TX K mg Z) (c_require : Cal P w K mg base (L2.CX P w) 3 "require" ["is_right", "code"] (sp_require K Z)) {f : Addr} {fd : FuncData} (F : Fun K "undo" "Instance.undo" s_Instance_undo f fd) : FnOk P w K mg base (L2.CX P w) 4 f fd ["self"] (sp_Instance_undo K Z) := by
  refine F.okX sc_Instance_undo len1 (fun cdv A outer s H vs Q E hr h => ⟨_, (pss_cons (ps_expr (pe_cS c_require (takes_of rfl rfl rfl rfl) (hr.mono (by decide)) (by rfl) (pa_cons (pe_cmpR (op_neE (K := K) rfl hr.units0) (fldK (K := K) rfl (pv 0) rfl) (pe_lst pa_nil) (nomark _)) (pa_cons (pe_gi T.c_NO_SUCH (by rfl)) pa_nil))))
    (pss_cons (ps_expr (pe_bm PySem.F.plainAttrs_list PySem.F.slot_list_append PySem.F.type_list_append mt_append (fldK (K := K) rfl (pv 0) rfl) (pa_cons (fldK (K := K) rfl (pv 0) rfl) pa_nil)))
    (pss_cons (ps_fld (pv 0) (pe_ix (ixL (K := K) rfl) (fldK (K := K) rfl (pv 0) rfl) (pe_un un_neg pe_int) (fun _ _ => rfl)) rfl)
    (pss_cons (ps_fld (pv 0) (pe_slice sl_list (fldK (K := K) rfl (pv 0) rfl) po_none (po_some (pe_un un_neg pe_int))) rfl)
    (pss_one (ps_ret (pe_lst (pa_cons (pe_callB (lenK (K := K) rfl) (by rfl) T.b_len PySem.boot_len (pa_cons (fldK (K := K) rfl (pv 0) rfl) pa_nil)) pa_nil)))))))), ?_⟩)
  obtain ⟨_, rfl, g, i, e, u, w, rfl, I, k⟩ := h
  obtain ⟨dxi, vi, hi, hvi⟩ := I.obj
  obtain ⟨xs, hx, hA⟩ := I.earlier
  obtain ⟨ys, hy, hB⟩ := I.undone
  have hne := I.ne
  have hlen := I.len
  have es : Kpd9.step (some w) .undo = match w.past with
      | [] => (some w, .value (-6))
      | d :: past => (some ⟨d, past, w.design :: w.future⟩, Kpd9.number past.length) := rfl
  rw [es] at k
  walk_at "rd"
  refine ⟨lineR rfl, fun E0 hE0 => ?_⟩
  have f1 := same_new (o := HO.lst []) hE0
  have hi1 := f1 _ _ hi
  refine ⟨e, E0, _, rfl, rfl, SqL.of (f1 _ _ hx), SqL.of upd_same, ?_⟩
  walk_at "rd"
  cases hp : w.past with
  | nil =>
    rw [hp] at k
    have x0 : xs = [] := by
      have h := hA.1
      rw [show (pastOf (some w)) = w.past from rfl, hp] at h
      exact List.length_eq_zero_iff.mp h
    rw [x0]
    exact r_reqF (k.err I f1 rfl)
  | cons d past =>
    rw [hp] at k
    have hA0 : All2 (SV K Z g e u H) xs (d :: past).reverse := by
      have h := hA
      rw [show (pastOf (some w)) = w.past from rfl, hp] at h
      exact h
    have xne : xs.isEmpty = false := by
      cases xs with
      | nil => have := hA0.1; simp at this
      | cons _ _ => rfl
    rw [xne]
    refine r_req (fun _ => ?_) (fun h => by cases h)
    have hx1 := f1 _ _ hx
    have hy1 := f1 _ _ hy
    have bl := hB.1
    have al := hA0.1
    rw [show (futOf (some w)) = w.future from rfl, List.length_reverse] at bl
    rw [List.length_reverse, List.length_cons] at al
    rw [show (pastOf (some w)) = w.past from rfl, show (futOf (some w)) = w.future from rfl] at hlen
    walk_at "rd"
    refine ⟨ty_list hy1, ?_⟩
    walk_at "rd"
    refine ⟨u, _, _, rfl, rfl, hy1, line1 (by rw [hp] at hlen; simp at hlen; omega), ?_⟩
    have i2 : (upd (upd H E0 (.lst [])) u (.lst (ys ++ [vi]))) i = some (.ins Z.CI dxi (inF vi e u)) := by
      rw [upd_ne (fun z => by rw [← z, hi] at hy; cases hy)]
      exact hi1
    have F2 : (upd (upd H E0 (.lst [])) u (.lst (ys ++ [vi]))) e = some (.lst xs) := by
      rw [upd_ne hne]
      exact hx1
    have T2 : (upd (upd H E0 (.lst [])) u (.lst (ys ++ [vi]))) u = some (.lst (ys ++ [vi])) := upd_same
    have k2 : KpO [i, e, u] H (upd (upd H E0 (.lst [])) u (.lst (ys ++ [vi]))) := (KpO.of f1).trans (KpO.put (by simp))
    generalize upd (upd H E0 (.lst [])) u (.lst (ys ++ [vi])) = H2 at *
    obtain ⟨xl, yl, q1, q2, hsv, _⟩ : ∃ xl yl, xs.getLast? = some xl ∧ (d :: past).reverse.getLast? = some yl ∧ SV K Z g e u H xl yl ∧ xs ≠ [] := by
      rcases hA0.last with ⟨_, z, _⟩ | z
      · rw [last_rev] at z
        cases z
      · exact z
    rw [last_rev] at q2
    cases q2
    have hsv' := hsv
    obtain ⟨sa, sl, rfl, sne, sS, sO⟩ := hsv'
    walk_at "rd"
    refine r_ixL (SqL.of F2) (at_last q1) ?_
    walk_at "rd"
    refine r_fput i2 T.clI T.nI_state inF_len (gs := inF (.ref sa) e u) rfl ?_
    have i3 : (upd H2 i (.ins Z.CI dxi (inF (.ref sa) e u))) i = some (.ins Z.CI dxi (inF (.ref sa) e u)) := upd_same
    have k3 : Kp i H2 (upd H2 i (.ins Z.CI dxi (inF (.ref sa) e u))) := Kp.upd
    have F3 := kp_lst k3 i2 F2
    have T3 := kp_lst k3 i2 T2
    have k3' : KpO [i, e, u] H (upd H2 i (.ins Z.CI dxi (inF (.ref sa) e u))) := k2.trans (KpO.put (by simp))
    generalize upd H2 i (.ins Z.CI dxi (inF (.ref sa) e u)) = H3 at *
    walk_at "rd"
    refine r_slL (SqL.of F3) cut_last fun e2 hn => ?_
    have i4 := same_new (o := HO.lst xs.dropLast) hn _ _ i3
    have T4 := same_new (o := HO.lst xs.dropLast) hn _ _ T3
    walk_at "rd"
    refine r_fput i4 T.clI T.nI_earlier inF_len (gs := inF (.ref sa) e2 u) rfl ?_
    have kk : Kp i H3 (upd (upd H3 e2 (.lst xs.dropLast)) i (.ins Z.CI dxi (inF (.ref sa) e2 u))) := kp_put hn
    have i5 : (upd (upd H3 e2 (.lst xs.dropLast)) i (.ins Z.CI dxi (inF (.ref sa) e2 u))) i = some (.ins Z.CI dxi (inF (.ref sa) e2 u)) := upd_same
    have T5 := kp_lst kk i3 T3
    have F5 : (upd (upd H3 e2 (.lst xs.dropLast)) i (.ins Z.CI dxi (inF (.ref sa) e2 u))) e2 = some (.lst xs.dropLast) := new_at i3 hn
    have k5 : KpO [i, e, u] H (upd (upd H3 e2 (.lst xs.dropLast)) i (.ins Z.CI dxi (inF (.ref sa) e2 u))) := (k3'.trans (.of (same_new hn))).trans (KpO.put (by simp))
    have nT : u ≠ e2 := ne_of_none T3 hn
    have hn2 : H e2 = none := by
      cases hc : H e2 with
      | none => rfl
      | some o =>
        by_cases m : e2 ∈ [i, e, u]
        · rcases mem3.mp m with z | z | z
          · rw [z, i3] at hn
            cases hn
          · rw [z] at hn
            rw [F3] at hn
            cases hn
          · rw [z] at hn
            rw [T3] at hn
            cases hn
        · rw [k3'.1 _ _ m hc] at hn
          cases hn
    generalize upd (upd H3 e2 (.lst xs.dropLast)) i (.ins Z.CI dxi (inF (.ref sa) e2 u)) = H5 at *
    walk_at "rd"
    refine ⟨e2, _, rfl, .inl (SqL.of F5), ?_⟩
    walk_at "rd"
    refine ⟨lineR rfl, fun q hq => ?_⟩
    have e6 := same_new (o := HO.lst [.int (xs.dropLast.length : Int)]) hq
    have mv : ∀ x d, SV K Z g e u H x d → SV K Z g e2 u H5 x d := fun x d h => h.move hi k5 (noTup_lst hx) (noTup_lst hy) (.inr hn2) (.inl rfl)
    refine k.1 q _ (k5.2 _ hq) ⟨k5.trans (.of e6), e2, u, .inr hn2, .inl rfl, InsAt.moved ⟨⟨dxi, .ref sa, i5, mv _ _ hsv⟩, ⟨_, F5, by rw [show (pastOf (some (⟨d, past, w.design :: w.future⟩ : Kpd9.Workspace))).reverse = (d :: past).reverse.dropLast from dropLast_rev.symm]; exact (all2_dropLast hA0).mono mv⟩, ⟨_, T5, by rw [show (futOf (some (⟨d, past, w.design :: w.future⟩ : Kpd9.Workspace))).reverse = w.future.reverse ++ [w.design] from by simp [futOf]]; exact (All2.snoc hB hvi).mono mv⟩, nT.symm, ?_, fun z => I.gt (k5.2 _ z), ⟨I.ng.1, fun z => I.gt (z ▸ hn2), I.ng.2.2⟩⟩ e6⟩ ?_
    · rw [hp] at hlen
      simp only [pastOf, futOf, List.length_cons] at hlen ⊢
      omega
    · rw [upd_same, List.length_dropLast, al]
      simp [resL, Kpd9.number]
theorem m_Instance_undo {P : Program} {w : World} {K : PySem.W.Frag} {mg : Str → Option Value} {base : Heap} {Z : Cs} (T : TX K mg Z) (c_require : Cal P w K mg base (L2.CX P w) 3 "require" ["is_right", "code"] (sp_require K Z)) {f : Addr} {fd : FuncData} (M : Meth K Z.CI "undo" f) (F : Fun K "undo" "Instance.undo" s_Instance_undo f fd) : Met P w K mg base (L2.CX P w) Z.CI 4 "undo" ["self"] (sp_Instance_undo K Z) :=
  ⟨f, fd, M, F.binds (ps := ["self"]) (fun _ _ _ _ _ _ us hl => match us, hl with | [_], _ => rfl), ok_Instance_undo T c_require F⟩
abbrev s_Instance_redo : Stmt := inClass (top 128) 4
abbrev N_Instance_redo : List Str := ["self"]
theorem sc_Instance_redo : FnScope N_Instance_redo ["self"] (defScope s_Instance_redo) := ⟨rfl, rfl, rfl, by decide +kernel, rfl, by decide +kernel, by decide +kernel⟩
def sp_Instance_redo (K : PySem.W.Frag) (Z : Cs) : Sp := sp1 fun x H Q E => ∃ (g i e u : Addr) (w : Kpd9.Workspace), x = .ref i ∧ InsAt K Z g H i e u (some w) ∧ Step K Z g i e u H Q E (Kpd9.step (some w) .redo)
set_option maxHeartbeats 4000000 in
theorem ok_Instance_redo {P : Program} {w : World} {K : PySem.W.Frag} {mg : Str → Option Value} {base : Heap} {Z : Cs} (T : TX K mg Z) (c_require : Cal P w K mg base (L2.CX P w) 3 "require" ["is_right", "code"] (sp_require K Z)) {f : Addr} {fd : FuncData} (F : Fun K "redo" "Instance.redo" s_Instance_redo f fd) : FnOk P w K mg base (L2.CX P w) 4 f fd ["self"] (sp_Instance_redo K Z) := by
  refine F.okX sc_Instance_redo len1 (fun cdv A outer s H vs Q E hr h => ⟨_, (pss_cons (ps_expr (pe_cS c_require (takes_of rfl rfl rfl rfl) (hr.mono (by decide)) (by rfl) (pa_cons (pe_cmpR (op_neE (K := K) rfl hr.units0) (fldK (K := K) rfl (pv 0) rfl) (pe_lst pa_nil) (nomark _)) (pa_cons (pe_gi T.c_NO_SUCH (by rfl)) pa_nil))))
    (pss_cons (ps_expr (pe_bm PySem.F.plainAttrs_list PySem.F.slot_list_append PySem.F.type_list_append mt_append (fldK (K := K) rfl (pv 0) rfl) (pa_cons (fldK (K := K) rfl (pv 0) rfl) pa_nil)))
    (pss_cons (ps_fld (pv 0) (pe_ix (ixL (K := K) rfl) (fldK (K := K) rfl (pv 0) rfl) (pe_un un_neg pe_int) (fun _ _ => rfl)) rfl)
    (pss_cons (ps_fld (pv 0) (pe_slice sl_list (fldK (K := K) rfl (pv 0) rfl) po_none (po_some (pe_un un_neg pe_int))) rfl)
    (pss_one (ps_ret (pe_lst (pa_cons (pe_callB (lenK (K := K) rfl) (by rfl) T.b_len PySem.boot_len (pa_cons (fldK (K := K) rfl (pv 0) rfl) pa_nil)) pa_nil)))))))), ?_⟩)
  obtain ⟨_, rfl, g, i, e, u, w, rfl, I, k⟩ := h
  obtain ⟨dxi, vi, hi, hvi⟩ := I.obj
  obtain ⟨xs, hx, hA⟩ := I.earlier
  obtain ⟨ys, hy, hB⟩ := I.undone
  have hne := I.ne
  have hlen := I.len
  have es : Kpd9.step (some w) .redo = match w.future with
      | [] => (some w, .value (-6))
      | d :: future => (some ⟨d, w.design :: w.past, future⟩, Kpd9.number future.length) := rfl
  rw [es] at k
  walk_at "rd"
  refine ⟨lineR rfl, fun E0 hE0 => ?_⟩
  have f1 := same_new (o := HO.lst []) hE0
  have hi1 := f1 _ _ hi
  refine ⟨u, E0, _, rfl, rfl, SqL.of (f1 _ _ hy), SqL.of upd_same, ?_⟩
  walk_at "rd"
  cases hp : w.future with
  | nil =>
    rw [hp] at k
    have x0 : ys = [] := by
      have h := hB.1
      rw [show (futOf (some w)) = w.future from rfl, hp] at h
      exact List.length_eq_zero_iff.mp h
    rw [x0]
    exact r_reqF (k.err I f1 rfl)
  | cons d future =>
    rw [hp] at k
    have hA0 : All2 (SV K Z g e u H) ys (d :: future).reverse := by
      have h := hB
      rw [show (futOf (some w)) = w.future from rfl, hp] at h
      exact h
    have xne : ys.isEmpty = false := by
      cases ys with
      | nil => have := hA0.1; simp at this
      | cons _ _ => rfl
    rw [xne]
    refine r_req (fun _ => ?_) (fun h => by cases h)
    have hx1 := f1 _ _ hx
    have hy1 := f1 _ _ hy
    have bl := hA.1
    have al := hA0.1
    rw [show (pastOf (some w)) = w.past from rfl, List.length_reverse] at bl
    rw [List.length_reverse, List.length_cons] at al
    rw [show (pastOf (some w)) = w.past from rfl, show (futOf (some w)) = w.future from rfl] at hlen
    walk_at "rd"
    refine ⟨ty_list hx1, ?_⟩
    walk_at "rd"
    refine ⟨e, _, _, rfl, rfl, hx1, line1 (by rw [hp] at hlen; simp at hlen; omega), ?_⟩
    have i2 : (upd (upd H E0 (.lst [])) e (.lst (xs ++ [vi]))) i = some (.ins Z.CI dxi (inF vi e u)) := by
      rw [upd_ne (fun z => by rw [← z, hi] at hx; cases hx)]
      exact hi1
    have F2 : (upd (upd H E0 (.lst [])) e (.lst (xs ++ [vi]))) u = some (.lst ys) := by
      rw [upd_ne hne.symm]
      exact hy1
    have T2 : (upd (upd H E0 (.lst [])) e (.lst (xs ++ [vi]))) e = some (.lst (xs ++ [vi])) := upd_same
    have k2 : KpO [i, e, u] H (upd (upd H E0 (.lst [])) e (.lst (xs ++ [vi]))) := (KpO.of f1).trans (KpO.put (by simp))
    generalize upd (upd H E0 (.lst [])) e (.lst (xs ++ [vi])) = H2 at *
    obtain ⟨xl, yl, q1, q2, hsv, _⟩ : ∃ xl yl, ys.getLast? = some xl ∧ (d :: future).reverse.getLast? = some yl ∧ SV K Z g e u H xl yl ∧ ys ≠ [] := by
      rcases hA0.last with ⟨_, z, _⟩ | z
      · rw [last_rev] at z
        cases z
      · exact z
    rw [last_rev] at q2
    cases q2
    have hsv' := hsv
    obtain ⟨sa, sl, rfl, sne, sS, sO⟩ := hsv'
    walk_at "rd"
    refine r_ixL (SqL.of F2) (at_last q1) ?_
    walk_at "rd"
    refine r_fput i2 T.clI T.nI_state inF_len (gs := inF (.ref sa) e u) rfl ?_
    have i3 : (upd H2 i (.ins Z.CI dxi (inF (.ref sa) e u))) i = some (.ins Z.CI dxi (inF (.ref sa) e u)) := upd_same
    have k3 : Kp i H2 (upd H2 i (.ins Z.CI dxi (inF (.ref sa) e u))) := Kp.upd
    have F3 := kp_lst k3 i2 F2
    have T3 := kp_lst k3 i2 T2
    have k3' : KpO [i, e, u] H (upd H2 i (.ins Z.CI dxi (inF (.ref sa) e u))) := k2.trans (KpO.put (by simp))
    generalize upd H2 i (.ins Z.CI dxi (inF (.ref sa) e u)) = H3 at *
    walk_at "rd"
    refine r_slL (SqL.of F3) cut_last fun u2 hn => ?_
    have i4 := same_new (o := HO.lst ys.dropLast) hn _ _ i3
    have T4 := same_new (o := HO.lst ys.dropLast) hn _ _ T3
    walk_at "rd"
    refine r_fput i4 T.clI T.nI_undone inF_len (gs := inF (.ref sa) e u2) rfl ?_
    have kk : Kp i H3 (upd (upd H3 u2 (.lst ys.dropLast)) i (.ins Z.CI dxi (inF (.ref sa) e u2))) := kp_put hn
    have i5 : (upd (upd H3 u2 (.lst ys.dropLast)) i (.ins Z.CI dxi (inF (.ref sa) e u2))) i = some (.ins Z.CI dxi (inF (.ref sa) e u2)) := upd_same
    have T5 := kp_lst kk i3 T3
    have F5 : (upd (upd H3 u2 (.lst ys.dropLast)) i (.ins Z.CI dxi (inF (.ref sa) e u2))) u2 = some (.lst ys.dropLast) := new_at i3 hn
    have k5 : KpO [i, e, u] H (upd (upd H3 u2 (.lst ys.dropLast)) i (.ins Z.CI dxi (inF (.ref sa) e u2))) := (k3'.trans (.of (same_new hn))).trans (KpO.put (by simp))
    have nT : e ≠ u2 := ne_of_none T3 hn
    have hn2 : H u2 = none := by
      cases hc : H u2 with
      | none => rfl
      | some o =>
        by_cases m : u2 ∈ [i, e, u]
        · rcases mem3.mp m with z | z | z
          · rw [z, i3] at hn
            cases hn
          · rw [z] at hn
            rw [T3] at hn
            cases hn
          · rw [z] at hn
            rw [F3] at hn
            cases hn
        · rw [k3'.1 _ _ m hc] at hn
          cases hn
    generalize upd (upd H3 u2 (.lst ys.dropLast)) i (.ins Z.CI dxi (inF (.ref sa) e u2)) = H5 at *
    walk_at "rd"
    refine ⟨u2, _, rfl, .inl (SqL.of F5), ?_⟩
    walk_at "rd"
    refine ⟨lineR rfl, fun q hq => ?_⟩
    have e6 := same_new (o := HO.lst [.int (ys.dropLast.length : Int)]) hq
    have mv : ∀ x d, SV K Z g e u H x d → SV K Z g e u2 H5 x d := fun x d h => h.move hi k5 (noTup_lst hx) (noTup_lst hy) (.inl rfl) (.inr hn2)
    refine k.1 q _ (k5.2 _ hq) ⟨k5.trans (.of e6), e, u2, .inl rfl, .inr hn2, InsAt.moved ⟨⟨dxi, .ref sa, i5, mv _ _ hsv⟩, ⟨_, T5, by rw [show (pastOf (some (⟨d, w.design :: w.past, future⟩ : Kpd9.Workspace))).reverse = w.past.reverse ++ [w.design] from by simp [pastOf]]; exact (All2.snoc hA hvi).mono mv⟩, ⟨_, F5, by rw [show (futOf (some (⟨d, w.design :: w.past, future⟩ : Kpd9.Workspace))).reverse = (d :: future).reverse.dropLast from dropLast_rev.symm]; exact (all2_dropLast hA0).mono mv⟩, nT, ?_, fun z => I.gt (k5.2 _ z), ⟨I.ng.1, I.ng.2.1, fun z => I.gt (z ▸ hn2)⟩⟩ e6⟩ ?_
    · rw [hp] at hlen
      simp only [pastOf, futOf, List.length_cons] at hlen ⊢
      omega
    · rw [upd_same, List.length_dropLast, al]
      simp [resL, Kpd9.number]
theorem m_Instance_redo {P : Program} {w : World} {K : PySem.W.Frag} {mg : Str → Option Value} {base : Heap} {Z : Cs} (T : TX K mg Z) (c_require : Cal P w K mg base (L2.CX P w) 3 "require" ["is_right", "code"] (sp_require K Z)) {f : Addr} {fd : FuncData} (M : Meth K Z.CI "redo" f) (F : Fun K "redo" "Instance.redo" s_Instance_redo f fd) : Met P w K mg base (L2.CX P w) Z.CI 4 "redo" ["self"] (sp_Instance_redo K Z) :=
  ⟨f, fd, M, F.binds (ps := ["self"]) (fun _ _ _ _ _ _ us hl => match us, hl with | [_], _ => rfl), ok_Instance_redo T c_require F⟩


abbrev s_Instance_edit : Stmt := inClass (top 128) 2
abbrev N_Instance_edit : List Str := ["self", "operation", "n", "state", "answer"]
theorem sc_Instance_edit : FnScope N_Instance_edit ["self", "operation", "n"] (defScope s_Instance_edit) := ⟨rfl, rfl, rfl, by decide +kernel, rfl, by decide +kernel, by decide +kernel⟩
def sp_Instance_edit (K : PySem.W.Frag) (Z : Cs) : Sp := sp3 fun x y z H Q E => ∃ (g i e u b : Addr) (w : Kpd9.Workspace) (op : Nat) (args : List Nat) (q : Kpd9.Request), x = .ref i ∧ y = nv op ∧ z = .ref b ∧ InsAt K Z g H i e u (some w) ∧ H b = some (.lst (args.map nv)) ∧ args.length ≤ 1000 ∧ EdQ op args q ∧ Step K Z g i e u H Q E (Kpd9.step (some w) q)
set_option maxHeartbeats 4000000 in
theorem ok_Instance_edit {P : Program} {w : World} {K : PySem.W.Frag} {mg : Str → Option Value} {base : Heap} {Z : Cs} (T : TX K mg Z) (m_twin : Met P w K mg base CX0 Z.CS 3 "twin" ["self"] (sp_State_twin K Z)) (c_changed : Cal P w K mg base (L2.CX P w) 7 "changed" ["state", "operation", "n"] (sp_changed K Z)) {f : Addr} {fd : FuncData} (F : Fun K "edit" "Instance.edit" s_Instance_edit f fd) : FnOk P w K mg base (L2.CX P w) 8 f fd ["self", "operation", "n"] (sp_Instance_edit K Z) := by
  refine F.okX sc_Instance_edit len3 (fun cdv A outer s H vs Q E hr h => ⟨_, (pss_cons (ps_set (i := 3) sc_Instance_edit.nd rfl (Or.inl rfl) (pe_m0 m_twin (hr.mono (by decide)) T.clS (fldK (K := K) rfl (pv 0) rfl)))
    (pss_cons (ps_set (i := 4) sc_Instance_edit.nd rfl (Or.inl rfl) (pe_cS c_changed (takes_of rfl rfl rfl rfl) (hr.mono (by decide)) (by rfl) (pa_cons (pv 3) (pa_cons (pv 1) (pa_cons (pv 2) pa_nil)))))
    (pss_cons (ps_fld (pv 0) (pe_slice sl_list (pe_op op_cat (fldK (K := K) rfl (pv 0) rfl) (pe_lst (pa_cons (fldK (K := K) rfl (pv 0) rfl) pa_nil))) (po_some (pe_un un_neg (pe_gi T.c_MOST_EARLIER (by rfl)))) po_none) rfl)
    (pss_cons (ps_fld (pv 0) (pe_lst pa_nil) rfl)
    (pss_cons (ps_fld (pv 0) (pv 3) rfl)
    (pss_one (ps_ret (pv 4)))))))), ?_⟩)
  obtain ⟨_, _, _, rfl, g, i, e, u, b, w, op, args, q, rfl, rfl, rfl, I, hb, hl, hq, k⟩ := h
  rw [step_edit hq w] at k
  obtain ⟨dxi, vi, hi, hvi⟩ := I.obj
  obtain ⟨xs, hx, hA⟩ := I.earlier
  obtain ⟨ys, hy, hB⟩ := I.undone
  have hne := I.ne
  have hlen := I.len
  have hsv : SV K Z g e u H vi w.design := hvi
  have hsv' := hsv
  obtain ⟨sa, sl, rfl, sne, sS, sO⟩ := hsv'
  obtain ⟨dxs, so⟩ := sS.obj
  walk_at "rd"
  refine r_rec so rfl ?_
  walk_at "rd"
  refine ⟨_, rfl, sa, w.design, sl, _, rfl, sS, fun a2 l2 H1 s1 hfree nd S2 => ?_⟩
  walk_at "rd"
  have ow := own_mem a2 l2
  have kto : ∀ Hx, KpO (ownA a2 l2) H1 Hx → Same H Hx := fun Hx kx c o ho => kx.1 c o (fun m => by rw [hfree c m] at ho; cases ho) (s1 _ _ ho)
  refine ⟨_, _, _, rfl, a2, b, w.design, l2, op, args, q, rfl, rfl, rfl, S2, sO, nd, s1 _ _ hb, hl, hq, ?_⟩
  cases hch : Kpd9.change w.design q with
  | error c =>
    rw [hch] at k
    exact fun dx H3 kx he => k.2 c rfl dx H3 (.same I (kto _ kx)) he
  | ok p =>
    obtain ⟨d', r⟩ := p
    rw [hch] at k
    have hOk := (change_ok sO hch).2 (ed_change hq)
    intro pa H3 l3 kx0 S3 hpa
    obtain ⟨kx, hpa0, hown⟩ := kx0
    have s3 : Same H H3 := kto _ kx
    have hi3 := s3 _ _ hi
    have hx3 := s3 _ _ hx
    walk_at "rd"
    refine ⟨lineR rfl, fun p1 hp1 => ?_⟩
    have f1 := same_new (o := HO.lst [.ref sa]) hp1
    have al := hA.1
    rw [show (pastOf (some w)) = w.past from rfl, List.length_reverse] at al
    rw [show (pastOf (some w)) = w.past from rfl, show (futOf (some w)) = w.future from rfl] at hlen
    refine r_cat (f1 _ _ hx3) upd_same (by simp; omega) fun p2 hp2 => ?_
    have f2 := same_new (o := HO.lst (xs ++ [.ref sa])) hp2
    walk_at "rd"
    refine r_slL (SqL.of upd_same) cut_ten fun e2 he2 => ?_
    have f3 := same_new (o := HO.lst ((xs ++ [V.ref sa]).drop ((xs ++ [V.ref sa]).length - 10))) he2
    have f13 := (f1.trans f2).trans f3
    have hi4 := f13 _ _ hi3
    have le2 : (upd (upd (upd H3 p1 (.lst [.ref sa])) p2 (.lst (xs ++ [.ref sa]))) e2 (.lst ((xs ++ [V.ref sa]).drop ((xs ++ [V.ref sa]).length - 10)))) e2 = some (.lst ((xs ++ [V.ref sa]).drop ((xs ++ [V.ref sa]).length - 10))) := upd_same
    have fe2 : H3 e2 = none := (f1.trans f2).free he2
    generalize upd (upd (upd H3 p1 (.lst [.ref sa])) p2 (.lst (xs ++ [.ref sa]))) e2 (.lst ((xs ++ [V.ref sa]).drop ((xs ++ [V.ref sa]).length - 10))) = H4 at *
    walk_at "rd"
    refine r_fput hi4 T.clI T.nI_earlier inF_len (gs := inF (.ref sa) e2 u) rfl ?_
    have k5 : Kp i H4 (upd H4 i (.ins Z.CI dxi (inF (.ref sa) e2 u))) := Kp.upd
    have i5 : (upd H4 i (.ins Z.CI dxi (inF (.ref sa) e2 u))) i = some (.ins Z.CI dxi (inF (.ref sa) e2 u)) := upd_same
    generalize upd H4 i (.ins Z.CI dxi (inF (.ref sa) e2 u)) = H5 at *
    walk_at "rd"
    refine ⟨lineR rfl, fun u2 hu2 => ?_⟩
    have i6 := same_new (o := HO.lst []) hu2 _ _ i5
    walk_at "rd"
    refine r_fput i6 T.clI T.nI_undone inF_len (gs := inF (.ref sa) e2 u2) rfl ?_
    have k7 : Kp i H5 (upd (upd H5 u2 (.lst [])) i (.ins Z.CI dxi (inF (.ref sa) e2 u2))) := kp_put hu2
    have i7 : (upd (upd H5 u2 (.lst [])) i (.ins Z.CI dxi (inF (.ref sa) e2 u2))) i = some (.ins Z.CI dxi (inF (.ref sa) e2 u2)) := upd_same
    have lu2 : (upd (upd H5 u2 (.lst [])) i (.ins Z.CI dxi (inF (.ref sa) e2 u2))) u2 = some (.lst []) := new_at i5 hu2
    have nu2 : u2 ≠ i := ne_ins i5 hu2
    generalize upd (upd H5 u2 (.lst [])) i (.ins Z.CI dxi (inF (.ref sa) e2 u2)) = H7 at *
    walk_at "rd"
    refine r_fput i7 T.clI T.nI_state inF_len (gs := inF (.ref a2) e2 u2) rfl ?_
    have k8 : Kp i H7 (upd H7 i (.ins Z.CI dxi (inF (.ref a2) e2 u2))) := Kp.upd
    have i8 : (upd H7 i (.ins Z.CI dxi (inF (.ref a2) e2 u2))) i = some (.ins Z.CI dxi (inF (.ref a2) e2 u2)) := upd_same
    have lu8 := kp_lst k8 i7 lu2
    generalize upd H7 i (.ins Z.CI dxi (inF (.ref a2) e2 u2)) = H8 at *
    have k48 : Kp i H4 H8 := (k5.trans k7).trans k8
    have k38 : Kp i H3 H8 := (Kp.of f13).trans k48
    have le8 := kp_lst k48 hi4 le2
    have lp8 := kp_lst k38 hi3 hpa
    have ne2 : e2 ≠ u2 := ne_of_none (kp_lst k5 hi4 le2) hu2
    have kpo : KpO [i, e, u] H H8 := ⟨fun c o hc ho => k38 c o (fun z => hc (mem3.mpr (.inl z))) (s3 _ _ ho), fun c hc => by
      cases hcc : H c with
      | none => rfl
      | some o =>
        by_cases z : c = i
        · rw [z, i8] at hc
          cases hc
        · rw [k38 _ _ z (s3 _ _ hcc)] at hc
          cases hc⟩
    have fu2 : H3 u2 = none := by
      cases hc : H3 u2 with
      | none => rfl
      | some o =>
        rw [((Kp.of f13).trans k5) _ _ nu2 hc] at hu2
        cases hu2
    have he0 : H e2 = none := s3.free fe2
    have hu0 : H u2 = none := s3.free fu2
    have mv : ∀ x d, SV K Z g e u H x d → SV K Z g e2 u2 H8 x d := fun x d h => h.move hi kpo (noTup_lst hx) (noTup_lst hy) (.inr he0) (.inr hu0)
    have S8 : StAt K Z H8 a2 d' l3 (asgOf d') := S3.keepO (O := [i]) (fun c o hc ho => k38 c o (by simpa using hc) ho) (fun c hc => by
      have : c = i := by simpa using hc
      subst this
      exact noTup_ins hi3) (fun c hc hm => S3.not_inst hi3 hc (by simpa using hm))
    walk_at "rd"
    refine k.1 pa H8 (s1.free hpa0) ⟨kpo, e2, u2, .inr he0, .inr hu0, ⟨⟨dxi, .ref a2, i8, a2, l3, rfl, fun c hc => ⟨fun z => S3.not_free hc (z ▸ fe2), fun z => S3.not_free hc (z ▸ fu2), fun z => I.gt (by
      rw [← z]
      rcases hown c hc with y | y
      · exact hfree c y
      · exact s1.free y)⟩, S8, hOk⟩, ⟨_, le8, ?_⟩, ⟨_, lu8, .nil⟩, ne2, ?_, fun z => I.gt (kpo.2 _ z), I.ng.1, fun z => I.gt (z ▸ he0), fun z => I.gt (z ▸ hu0)⟩⟩ lp8
    · have e1 : (pastOf (some (w.to d'))).reverse = (w.past.reverse ++ [w.design]).drop ((xs ++ [V.ref sa]).length - 10) := by
        show ((w.design :: w.past).take 10).reverse = _
        rw [List.reverse_take, List.reverse_cons, List.length_append, al]
        simp
      rw [e1]
      exact all2_drop ((All2.snoc hA hsv).mono mv) _
    · show ((w.design :: w.past).take 10).length + 0 ≤ 10
      rw [List.length_take]
      omega
theorem m_Instance_edit {P : Program} {w : World} {K : PySem.W.Frag} {mg : Str → Option Value} {base : Heap} {Z : Cs} (T : TX K mg Z) (m_twin : Met P w K mg base CX0 Z.CS 3 "twin" ["self"] (sp_State_twin K Z)) (c_changed : Cal P w K mg base (L2.CX P w) 7 "changed" ["state", "operation", "n"] (sp_changed K Z)) {f : Addr} {fd : FuncData} (M : Meth K Z.CI "edit" f) (F : Fun K "edit" "Instance.edit" s_Instance_edit f fd) : Met P w K mg base (L2.CX P w) Z.CI 8 "edit" ["self", "operation", "n"] (sp_Instance_edit K Z) :=
  ⟨f, fd, M, F.binds (ps := ["self", "operation", "n"]) (fun _ _ _ _ _ _ us hl => match us, hl with | [_, _, _], _ => rfl), ok_Instance_edit T m_twin c_changed F⟩


inductive PQ : Nat → List Int → List Int → Kpd9.Request → Prop
  | create (r b : Nat) : PQ 0 [(r : Int), (b : Int)] [] (.create r b)
  | ed {op : Nat} {args : List Nat} {q : Kpd9.Request} : EdQ op args q → PQ op (Kpd9.toInts args) [] q
  | undo : PQ 28 [] [] .undo
  | redo : PQ 29 [] [] .redo
  | te {op : Nat} {args snd : List Int} {q : Kpd9.Request} : TeQ op args snd q → PQ op args snd q
def editsI : List Int := [1, 2, 3, 4, 10, 12, 13, 14, 20, 21, 22, 26]
theorem inV_int (z : Int) : ∀ b : List Int, inV (.int z) (b.map V.int) = b.contains z
  | [] => rfl
  | x :: r => by
    have ih := inV_int z r
    unfold inV at ih ⊢
    rw [List.map_cons, List.any_cons, ih, List.contains_cons]
    congr 1
    show ((x : Int) == z) = (z == x)
    rw [Bool.eq_iff_iff, beq_iff_eq, beq_iff_eq]
    exact eq_comm
theorem flat_int (b : List Int) : (b.map V.int).all flatV = true := by
  rw [List.all_eq_true]
  intro x hx
  obtain ⟨n, _, rfl⟩ := List.mem_map.mp hx
  rfl
theorem step_none {q : Kpd9.Request} {op : Nat} {args snd : List Int} (h : PQ op args snd q) (h0 : op ≠ 0) : Kpd9.step none q = (none, .value (-11)) := by
  cases h with
  | create r b => exact absurd rfl h0
  | ed h => cases h <;> rfl
  | undo => rfl
  | redo => rfl
  | te h => cases h <;> rfl
theorem step_query {q : Kpd9.Request} {op : Nat} {args snd : List Int} (h : TeQ op args snd q) (w : Kpd9.Workspace) : Kpd9.step (some w) q = (some w, Kpd9.query w.design q) := by
  cases h <;> rfl
theorem ed_in {op : Nat} {args : List Nat} {q : Kpd9.Request} (h : EdQ op args q) : editsI.contains (op : Int) = true := by cases h <;> rfl
theorem te_in {op : Nat} {args snd : List Int} {q : Kpd9.Request} (h : TeQ op args snd q) : editsI.contains (op : Int) = false ∧ op ≠ 0 ∧ op ≠ 28 ∧ op ≠ 29 := by cases h <;> exact ⟨rfl, by decide, by decide, by decide⟩
abbrev s_Instance_performed : Stmt := inClass (top 128) 5
abbrev N_Instance_performed : List Str := ["self", "operation", "n", "second"]
theorem sc_Instance_performed : FnScope N_Instance_performed ["self", "operation", "n", "second"] (defScope s_Instance_performed) := ⟨rfl, rfl, rfl, by decide +kernel, rfl, by decide +kernel, by decide +kernel⟩
def sp_Instance_performed (K : PySem.W.Frag) (Z : Cs) : Sp := sp4 fun w x y z H Q E => ∃ (g i e u b c : Addr) (st : Kpd9.State) (op : Nat) (args snd : List Int) (q : Kpd9.Request), w = .ref i ∧ x = nv op ∧ y = .ref b ∧ z = .ref c ∧ InsAt K Z g H i e u st ∧ H b = some (.lst (args.map V.int)) ∧ H c = some (.lst (snd.map V.int)) ∧ args.length ≤ 1000 ∧ PQ op args snd q ∧ Step K Z g i e u H Q E (Kpd9.step st q)
set_option maxHeartbeats 4000000 in
theorem ok_Instance_performed {P : Program} {w : World} {K : PySem.W.Frag} {mg : Str → Option Value} {base : Heap} {Z : Cs} (T : TX K mg Z) (m_create : Met P w K mg base (L2.CX P w) Z.CI 4 "create" ["self", "driver", "budget"] (sp_Instance_create K Z)) (m_edit : Met P w K mg base (L2.CX P w) Z.CI 8 "edit" ["self", "operation", "n"] (sp_Instance_edit K Z)) (m_redo : Met P w K mg base (L2.CX P w) Z.CI 4 "redo" ["self"] (sp_Instance_redo K Z)) (m_undo : Met P w K mg base (L2.CX P w) Z.CI 4 "undo" ["self"] (sp_Instance_undo K Z)) (c_require : Cal P w K mg base (L2.CX P w) 3 "require" ["is_right", "code"] (sp_require K Z)) (c_told : Cal P w K mg base (L2.CX P w) 8 "told" ["state", "operation", "n", "second"] (sp_told K Z)) (Y : TY K Z) {f : Addr} {fd : FuncData} (F : Fun K "performed" "Instance.performed" s_Instance_performed f fd) : FnOk P w K mg base (L2.CX P w) 9 f fd ["self", "operation", "n", "second"] (sp_Instance_performed K Z) := by
  refine F.okX sc_Instance_performed len4 (fun cdv A outer s H vs Q E hr h => ⟨_, (pss_cons (ps_if (pt_cmpR op_eq (pv 1) (pe_gi T.c_CREATE (by rfl)) (nomark _)) (pss_one (ps_ret (pe_mS m_create (takes_of rfl rfl rfl rfl) (hr.mono (by decide)) T.clI (pv 0) (pa_cons (pe_ix (ixL (K := K) rfl) (pv 2) pe_int (fun _ _ => rfl)) (pa_cons (pe_ix (ixL (K := K) rfl) (pv 2) pe_int (fun _ _ => rfl)) pa_nil))))) pss_nil)
    (pss_cons (ps_expr (pe_cS c_require (takes_of rfl rfl rfl rfl) (hr.mono (by decide)) (by rfl) (pa_cons (pe_cmpR op_notN (fldK (K := K) rfl (pv 0) rfl) pe_non (nomark _)) (pa_cons (pe_gi T.c_UNUSABLE (by rfl)) pa_nil))))
    (pss_cons (ps_if (pt_cmpR (inK (K := K) rfl) (pv 1) (pe_gr T.c_EDITS (by rfl)) (by rfl)) (pss_one (ps_ret (pe_mS m_edit (takes_of rfl rfl rfl rfl) (hr.mono (by decide)) T.clI (pv 0) (pa_cons (pv 1) (pa_cons (pv 2) pa_nil))))) pss_nil)
    (pss_cons (ps_if (pt_cmpR op_eq (pv 1) (pe_gi T.c_UNDO (by rfl)) (nomark _)) (pss_one (ps_ret (pe_mS0 m_undo (takes_of rfl rfl rfl rfl) (hr.mono (by decide)) T.clI (pv 0)))) pss_nil)
    (pss_one (ps_ret (pe_ifExp (pt_cmpR op_eq (pv 1) (pe_gi T.c_REDO (by rfl)) (nomark _)) (pe_mS0 m_redo (takes_of rfl rfl rfl rfl) (hr.mono (by decide)) T.clI (pv 0)) (pe_cS c_told (takes_of rfl rfl rfl rfl) (hr.mono (by decide)) (by rfl) (pa_cons (fldK (K := K) rfl (pv 0) rfl) (pa_cons (pv 1) (pa_cons (pv 2) (pa_cons (pv 3) pa_nil)))))))))))), ?_⟩)
  obtain ⟨_, _, _, _, rfl, g, i, e, u, b, c, st, op, args, snd, q, rfl, rfl, rfl, rfl, I, hb, hc, hl, hq, k⟩ := h
  obtain ⟨dxi, vi, hi, hvi⟩ := I.obj
  walk_at "rd"
  refine ifE (fun h0 => ?_) (fun h0 => ?_)
  · cases hq with
    | create r b =>
      walk_at "rd"
      refine r_rec hi rfl ?_
      walk_at "rd"
      refine r_ixL (SqL.of hb) (v := nv r) rfl ?_
      walk_at "rd"
      refine r_ixL (SqL.of hb) (v := nv b) rfl ?_
      walk_at "rd"
      exact ⟨_, _, _, rfl, g, i, e, u, st, r, b, rfl, rfl, rfl, I, k⟩
    | ed h => cases h <;> omega
    | undo => omega
    | redo => omega
    | te h => cases h <;> omega
  have h0' : op ≠ 0 := by omega
  walk_at "rd"
  cases st with
  | none =>
    have ev : vi = .non := hvi
    subst ev
    rw [step_none hq h0'] at k
    refine ⟨rfl, ?_⟩
    walk_at "rd"
    exact r_reqF (k.err I (Same.refl H) rfl)
  | some w =>
    obtain ⟨sa, sl, ev, sne, sS, sO⟩ := (show SV K Z g e u H vi w.design from hvi)
    subst ev
    refine ⟨rfl, ?_⟩
    walk_at "rd"
    refine r_req (fun _ => ?_) (fun h => by cases h)
    walk_at "rd"
    refine ⟨Z.aEDITS, _, rfl, .inr (Y.t_EDITS H), rfl, flat_int _, ?_⟩
    rw [if_neg (by decide), inV_int]
    walk_at "rd"
    refine ifb (fun hE => ?_) (fun hE => ?_)
    · cases hq with
      | create r b => exact absurd rfl h0'
      | undo => cases hE
      | redo => cases hE
      | te h =>
        have := (te_in h).1
        unfold editsI at this
        rw [this] at hE
        cases hE
      | ed h =>
        walk_at "rd"
        refine r_rec hi rfl ?_
        walk_at "rd"
        exact ⟨_, _, _, rfl, g, i, e, u, b, w, op, _, q, rfl, rfl, rfl, I, by rw [nv_ints]; exact hb, by unfold Kpd9.toInts at hl; rw [List.length_map] at hl; exact hl, h, k⟩
    · walk_at "rd"
      refine ifE (fun h28 => ?_) (fun h28 => ?_)
      · cases hq with
        | create r b => exact absurd rfl h0'
        | undo =>
          walk_at "rd"
          refine r_rec hi rfl ?_
          walk_at "rd"
          exact ⟨_, rfl, g, i, e, u, w, rfl, I, k⟩
        | redo => omega
        | te h => exact absurd (by omega) (te_in h).2.2.1
        | ed h =>
          have := ed_in h
          unfold editsI at this
          rw [this] at hE
          cases hE
      · walk_at "rd"
        refine ifE (fun h29 => ?_) (fun h29 => ?_)
        · cases hq with
          | create r b => exact absurd rfl h0'
          | undo => omega
          | redo =>
            walk_at "rd"
            refine r_rec hi rfl ?_
            walk_at "rd"
            exact ⟨_, rfl, g, i, e, u, w, rfl, I, k⟩
          | te h => exact absurd (by omega) (te_in h).2.2.2
          | ed h =>
            have := ed_in h
            unfold editsI at this
            rw [this] at hE
            cases hE
        · cases hq with
          | create r b => exact absurd rfl h0'
          | undo => omega
          | redo => omega
          | ed h =>
            have := ed_in h
            unfold editsI at this
            rw [this] at hE
            cases hE
          | te h =>
            rw [step_query h w] at k
            walk_at "rd"
            refine ⟨_, _, _, _, rfl, sa, b, c, w.design, sl, op, args, snd, q, rfl, rfl, rfl, rfl, sS, sO, hb, hc, h, ?_, ?_⟩
            · exact fun p H2 hp s hx => k.1 p H2 hp (.same I s) hx
            · exact fun cd hr => k.err I (Same.refl H) hr
theorem m_Instance_performed {P : Program} {w : World} {K : PySem.W.Frag} {mg : Str → Option Value} {base : Heap} {Z : Cs} (T : TX K mg Z) (m_create : Met P w K mg base (L2.CX P w) Z.CI 4 "create" ["self", "driver", "budget"] (sp_Instance_create K Z)) (m_edit : Met P w K mg base (L2.CX P w) Z.CI 8 "edit" ["self", "operation", "n"] (sp_Instance_edit K Z)) (m_redo : Met P w K mg base (L2.CX P w) Z.CI 4 "redo" ["self"] (sp_Instance_redo K Z)) (m_undo : Met P w K mg base (L2.CX P w) Z.CI 4 "undo" ["self"] (sp_Instance_undo K Z)) (c_require : Cal P w K mg base (L2.CX P w) 3 "require" ["is_right", "code"] (sp_require K Z)) (c_told : Cal P w K mg base (L2.CX P w) 8 "told" ["state", "operation", "n", "second"] (sp_told K Z)) (Y : TY K Z) {f : Addr} {fd : FuncData} (M : Meth K Z.CI "performed" f) (F : Fun K "performed" "Instance.performed" s_Instance_performed f fd) : Met P w K mg base (L2.CX P w) Z.CI 9 "performed" ["self", "operation", "n", "second"] (sp_Instance_performed K Z) :=
  ⟨f, fd, M, F.binds (ps := ["self", "operation", "n", "second"]) (fun _ _ _ _ _ _ us hl => match us, hl with | [_, _, _, _], _ => rfl), ok_Instance_performed T m_create m_edit m_redo m_undo c_require c_told Y F⟩


theorem IPost.more {K : PySem.W.Frag} {Z : Cs} {H H2 H3 : Hp} {g i e u : Addr} {st : Kpd9.State} (h : IPost K Z g i e u H st H2) (s : Same H2 H3) : IPost K Z g i e u H st H3 :=
  let ⟨k, e', u', a, b, I⟩ := h
  ⟨k.trans (.of s), e', u', a, b, I.moved s⟩
theorem cut_mid {l : List Int} {i n : Nat} (h : i + n ≤ l.length) : cutV (l.map V.int) (some ((i : Nat) : Int)) (some ((i + n : Nat) : Int)) = ((l.drop i).take n).map V.int := by
  unfold cutV
  rw [List.length_map, HT.sIx_nat, HT.sIx_nat, Nat.min_eq_left h, Nat.min_eq_left (show i ≤ l.length by omega), List.map_take, List.map_drop]
  congr 1
  omega
theorem r_xf {a : Addr} {cls : Value} {d : Option Addr} {C : Addr} {f : Str} {te : TE} {σ : L2.St} {H : Hp} {Q : VK} (h : te σ H fun x H1 => x = .ref a ∧ cls = .ref C ∧ ∃ (dd : Addr) (fs : List (Str × V)) (v : V), d = some dd ∧ H1 dd = some (.xd fs) ∧ fs.lookup f = some v ∧ Q v H1) : tXf a cls d C f te σ H Q := h
abbrev s_Instance_answer : Stmt := inClass (top 128) 6
abbrev N_Instance_answer : List Str := ["self", "operation", "n", "second", "found", "e"]
theorem sc_Instance_answer : FnScope N_Instance_answer ["self", "operation", "n", "second"] (defScope s_Instance_answer) := ⟨rfl, rfl, rfl, by decide +kernel, rfl, by decide +kernel, by decide +kernel⟩
def sp_Instance_answer (K : PySem.W.Frag) (Z : Cs) : Sp := sp4 fun w x y z H Q _ => ∃ (g i e u b c : Addr) (st : Kpd9.State) (op : Nat) (args snd : List Int) (q : Kpd9.Request), w = .ref i ∧ x = nv op ∧ y = .ref b ∧ z = .ref c ∧ InsAt K Z g H i e u st ∧ H b = some (.lst (args.map V.int)) ∧ H c = some (.lst (snd.map V.int)) ∧ args.length ≤ 1000 ∧ PQ op args snd q ∧
  ∀ p H2, H p = none → IPost K Z g i e u H (Kpd9.step st q).1 H2 → H2 p = some (.lst ((resL (Kpd9.step st q).2).map V.int)) → Q (.ref p) H2
set_option maxHeartbeats 4000000 in
theorem ok_Instance_answer {P : Program} {w : World} {K : PySem.W.Frag} {mg : Str → Option Value} {base : Heap} {Z : Cs} (T : TX K mg Z) (m_performed : Met P w K mg base (L2.CX P w) Z.CI 9 "performed" ["self", "operation", "n", "second"] (sp_Instance_performed K Z)) (Y : TY K Z) {f : Addr} {fd : FuncData} (F : Fun K "answer" "Instance.answer" s_Instance_answer f fd) : FnOk P w K mg base CX0 10 f fd ["self", "operation", "n", "second"] (sp_Instance_answer K Z) := by
  refine F.ok sc_Instance_answer len4 (fun cdv A outer s H vs Q E hr h => ⟨_, (pss_cons (ps_try_as (i := 5) (c := .ref Z.CR) (tb := fun W => tAsg (tMetS Z.CI "performed" (sp_Instance_performed K Z) W (tVar 0) (tCons (tVar 1) (tCons (tVar 2) (tCons (tVar 3) tNil)))) (gName 4)) (ts := fun a cls d => tAsg (tLst (tCons (tXf a cls d Z.CR "code" (tVar 5)) tNil)) (gName 4)) (Wout := fun _ _ _ _ => False) rfl rfl sc_Instance_answer.nd rfl rfl ⟨rfl, by decide, Or.inl T.g_Refused⟩ takes0 (fun W pn xe tk _ => pss_one (ps_set (i := 4) sc_Instance_answer.nd rfl (Or.inl rfl) (pe_mS m_performed tk (hr.mono (by decide)) T.clI (pv 0) (pa_cons (pv 1) (pa_cons (pv 2) (pa_cons (pv 3) pa_nil)))))) (fun a oe cls d pn hz hf => pss_one (ps_set (i := 4) sc_Instance_answer.nd rfl (Or.inl rfl) (pe_lst (pa_cons (pe_xf T.rf.xf T.rf.noc hz hf (pv 5)) pa_nil)))))
    (pss_one (ps_ret (pv 4)))), ?_⟩)
  obtain ⟨_, _, _, _, rfl, g, i, e, u, b, c, st, op, args, snd, q, rfl, rfl, rfl, rfl, I, hb, hc, hl, hq, k⟩ := h
  obtain ⟨dxi, vi, hi, hvi⟩ := I.obj
  refine r_seq ?_
  refine r_asg ?_
  refine r_metS ?_
  walk_at "rd"
  refine r_rec hi rfl ?_
  walk_at "rd"
  refine ⟨_, _, _, _, rfl, g, i, e, u, b, c, st, op, args, snd, q, rfl, rfl, rfl, rfl, I, hb, hc, hl, hq, ?_, ?_⟩
  · intro p H2 h0 hP hp
    walk_at "rd"
    exact k p H2 h0 hP hp
  · intro cd hr dx H2 hP hx
    refine ⟨true, T.rf.te, fun _ a ha => ?_, fun h => by cases h⟩
    walk_at "rd"
    refine r_xf ?_
    walk_at "rd"
    refine ⟨rfl, rfl, dx, _, .int cd, rfl, hx, rfl, ?_⟩
    walk_at "rd"
    refine ⟨lineR rfl, fun p hp => ?_⟩
    walk_at "rd"
    refine k p _ (hP.1.2 _ hp) (hP.more (same_new hp)) ?_
    rw [upd_same, hr]
    rfl
theorem m_Instance_answer {P : Program} {w : World} {K : PySem.W.Frag} {mg : Str → Option Value} {base : Heap} {Z : Cs} (T : TX K mg Z) (m_performed : Met P w K mg base (L2.CX P w) Z.CI 9 "performed" ["self", "operation", "n", "second"] (sp_Instance_performed K Z)) (Y : TY K Z) {f : Addr} {fd : FuncData} (M : Meth K Z.CI "answer" f) (F : Fun K "answer" "Instance.answer" s_Instance_answer f fd) : Met P w K mg base CX0 Z.CI 10 "answer" ["self", "operation", "n", "second"] (sp_Instance_answer K Z) :=
  ⟨f, fd, M, F.binds (ps := ["self", "operation", "n", "second"]) (fun _ _ _ _ _ _ us hl => match us, hl with | [_, _, _, _], _ => rfl), ok_Instance_answer T m_performed Y F⟩
abbrev s_row_at : Stmt := top 129
abbrev N_row_at : List Str := ["calls", "at", "behind"]
theorem sc_row_at : FnScope N_row_at ["calls", "at"] (defScope s_row_at) := ⟨rfl, rfl, rfl, by decide +kernel, rfl, by decide +kernel, by decide +kernel⟩
def sp_row_at (K : PySem.W.Frag) (Z : Cs) : Sp := sp2 fun x y H Q _ => ∃ (a : Addr) (l : List Int) (at_ n : Nat), x = .ref a ∧ y = nv at_ ∧ SqL K H a (l.map V.int) ∧ l[at_]? = some (n : Int) ∧ at_ + 1 + n ≤ l.length ∧
  ∀ p q H2, H p = none → H q = none → Same H H2 → H2 p = some (.tup [.ref q, nv (at_ + 1 + n)]) → H2 q = some (.lst (((l.drop (at_ + 1)).take n).map V.int)) → Q (.ref p) H2
set_option maxHeartbeats 4000000 in
theorem ok_row_at {P : Program} {w : World} {K : PySem.W.Frag} {mg : Str → Option Value} {base : Heap} {Z : Cs} (T : TX K mg Z)  {f : Addr} {fd : FuncData} (F : Fun K "row_at" "row_at" s_row_at f fd) : FnOk P w K mg base CX0 1 f fd ["calls", "at"] (sp_row_at K Z) := by
  refine F.ok sc_row_at len2 (fun cdv A outer s H vs Q E hr h => ⟨_, (pss_cons (ps_set (i := 2) sc_row_at.nd rfl (Or.inl rfl) (pe_op op_add (pe_op op_add (pv 1) pe_int) (pe_ix (ixL (K := K) rfl) (pv 0) (pv 1) (fun _ _ => rfl))))
    (pss_one (ps_ret (pe_tup (pa_cons (pe_slice sl_list (pv 0) (po_some (pe_op op_add (pv 1) pe_int)) (po_some (pv 2))) (pa_cons (pv 2) pa_nil)))))), ?_⟩)
  obtain ⟨_, _, rfl, a, l, at_, n, rfl, rfl, ha, hn, hle, k⟩ := h
  walk_at "rd"
  refine r_ixL ha (v := nv n) (atI_nat (by rw [List.getElem?_map, hn]; rfl)) ?_
  walk_at "rd"
  have e1 : ((at_ : Int) + 1 + (n : Int)) = ((at_ + 1 + n : Nat) : Int) := by omega
  have e2 : ((at_ : Int) + 1) = ((at_ + 1 : Nat) : Int) := by omega
  rw [e1, e2]
  have ec := cut_mid (l := l) (i := at_ + 1) (n := n) hle
  refine r_slL ha ec fun q hq => ?_
  have f1 := same_new (o := HO.lst (((l.drop (at_ + 1)).take n).map V.int)) hq
  walk_at "rd"
  refine ⟨lineR rfl, fun p hp => ?_⟩
  have f2 := same_new (o := HO.tup [.ref q, nv (at_ + 1 + n)]) hp
  exact k p q _ (f1.free hp) hq (f1.trans f2) upd_same (f2 _ _ upd_same)
theorem c_row_at {P : Program} {w : World} {K : PySem.W.Frag} {mg : Str → Option Value} {base : Heap} {Z : Cs} (T : TX K mg Z)  {f : Addr} {fd : FuncData} (g : mg "row_at" = some (.ref f)) (F : Fun K "row_at" "row_at" s_row_at f fd) : Cal P w K mg base CX0 1 "row_at" ["calls", "at"] (sp_row_at K Z) :=
  ⟨f, fd, g, F.kp, F.binds (ps := ["calls", "at"]) (fun _ _ _ _ _ _ us hl => match us, hl with | [_, _], _ => rfl), ok_row_at T  F⟩


def countsI : List Int := [2, 4, 3, 1, 4, 0, 0, 2, 0, 0, 0, 0, 0, 2, 2, 0, 1, 0, 0, 0, 1, 3, 3, 0, 0, 0, 0, 0, 0, 0, 0]
def cnt (op : Nat) : Nat := (countsI.getD op 0).toNat
theorem cnt_at {op : Nat} (h : op ≤ 30) : atI (countsI.map V.int) (op : Int) = some (nv (cnt op)) := by
  refine atI_nat ?_
  have h2 : ∀ k, k < 31 → (countsI.map V.int)[k]? = some (nv (cnt k)) := by decide +kernel
  exact h2 op (by omega)
structure CallAt (l : List Int) (at_ op : Nat) (args snd : List Int) (q : Kpd9.Request) (b1 next : Nat) : Prop where
  op_ : l[at_]? = some (op : Int)
  op30 : op ≤ 30
  le0 : at_ + 1 + cnt op ≤ l.length
  pq : PQ op args snd q
  len : args.length ≤ 1000
  one : (rowsN op).isSome = false → args = (l.drop (at_ + 1)).take (cnt op) ∧ b1 = at_ + 1 + cnt op
  row : (rowsN op).isSome = true → ∃ m : Nat, l[at_ + 1 + cnt op]? = some (m : Int) ∧ at_ + 1 + cnt op + 1 + m ≤ l.length ∧ args = (l.drop (at_ + 1 + cnt op + 1)).take m ∧ b1 = at_ + 1 + cnt op + 1 + m
  two : (rowsN op).getD 0 = 2 → ∃ m : Nat, l[b1]? = some (m : Int) ∧ b1 + 1 + m ≤ l.length ∧ snd = (l.drop (b1 + 1)).take m ∧ next = b1 + 1 + m
  not2 : (rowsN op).getD 0 ≠ 2 → snd = [] ∧ next = b1
  lt : at_ < next
inductive Play (l : List Int) : Nat → Kpd9.State → List Int → Prop
  | done {at_ : Nat} {st : Kpd9.State} (h : l.length ≤ at_) : Play l at_ st []
  | call {at_ op b1 next : Nat} {args snd : List Int} {q : Kpd9.Request} {st : Kpd9.State} {out : List Int} (c : CallAt l at_ op args snd q b1 next) (h : Play l next (Kpd9.step st q).1 out) :
      Play l at_ st (((resL (Kpd9.step st q).2).length : Int) :: (resL (Kpd9.step st q).2 ++ out))
theorem r_par3 {i j l : Nat} {ta : TA} {D : Ends} {σ : L2.St} {H : Hp} (h : ta σ H fun vs H1 => ∃ u v w, vs = [u, v, w] ∧ D.nx (((σ.set i (some u)).set j (some v)).set l (some w)) H1) : tPar3 i j l ta D σ H := h
theorem InsAt.g_put {K : PySem.W.Frag} {Z : Cs} {g i e u : Addr} {H H2 : Hp} {st : Kpd9.State} (I : InsAt K Z g H i e u st) (k : Kp g H H2) (nt : NoTup H g) (h2 : H2 g ≠ none) : InsAt K Z g H2 i e u st := by
  obtain ⟨dx, v, hi, hv⟩ := I.obj
  obtain ⟨xs, hx, hA⟩ := I.earlier
  obtain ⟨ys, hy, hB⟩ := I.undone
  have mv : ∀ x d, SV K Z g e u H x d → SV K Z g e u H2 x d := fun x d ⟨a, l, ex, ne, S, O⟩ => ⟨a, l, ex, ne, S.keepO (O := [g]) (fun b o hb ho => k b o (by simpa using hb) ho) (fun b hb => by
    have : b = g := by simpa using hb
    subst this
    exact nt) (fun b hb hm => (ne b hb).2.2 (by simpa using hm)), O⟩
  refine ⟨⟨dx, v, k _ _ I.ng.1.symm hi, ?_⟩, ⟨xs, k _ _ I.ng.2.1.symm hx, hA.mono mv⟩, ⟨ys, k _ _ I.ng.2.2.symm hy, hB.mono mv⟩, I.ne, I.len, h2, I.ng⟩
  cases st with
  | none => exact hv
  | some w => exact mv _ _ hv
structure Loop (K : PySem.W.Frag) (Z : Cs) (H : Hp) (a i F : Addr) (l out : List Int) (at_ : Nat) (H' : Hp) (st : Kpd9.State) (e u : Addr) (dn rest : List Int) : Prop where
  same : Same H H'
  fe : H e = none
  fu : H u = none
  fF : H F = none
  ins : InsAt K Z F H' i e u st
  found : H' F = some (.lst (dn.map V.int))
  nF : F ≠ i ∧ F ≠ e ∧ F ≠ u
  play : Play l at_ st rest
  eq : out = dn ++ rest
abbrev s_answers : Stmt := top 130
abbrev N_answers : List Str := ["calls", "instance", "found", "at", "operation", "behind", "n", "second", "answer"]
theorem sc_answers : FnScope N_answers ["calls"] (defScope s_answers) := ⟨rfl, rfl, rfl, by decide +kernel, rfl, by decide +kernel, by decide +kernel⟩
def sp_answers (K : PySem.W.Frag) (Z : Cs) : Sp := sp1 fun x H Q _ => ∃ (a : Addr) (l out : List Int), x = .ref a ∧ SqL K H a (l.map V.int) ∧ Play l 0 none out ∧ out.length ≤ 10000000 ∧ ∀ p H2, H2 p = some (.lst (out.map V.int)) → Q (.ref p) H2
set_option maxHeartbeats 4000000 in
theorem ok_answers {P : Program} {w : World} {K : PySem.W.Frag} {mg : Str → Option Value} {base : Heap} {Z : Cs} (T : TX K mg Z) (m_answer : Met P w K mg base CX0 Z.CI 10 "answer" ["self", "operation", "n", "second"] (sp_Instance_answer K Z)) (m_Instance : Mak P w K mg base CX0 Z.CI 1 ["self"] (sp_Instance_init K Z)) (c_row_at : Cal P w K mg base CX0 1 "row_at" ["calls", "at"] (sp_row_at K Z)) (Y : TY K Z) {f : Addr} {fd : FuncData} (F : Fun K "answers" "answers" s_answers f fd) : FnOk P w K mg base CX0 11 f fd ["calls"] (sp_answers K Z) := by
  refine F.ok sc_answers len1 (fun cdv A outer s H vs Q E hr h => ⟨_, (pss_cons (ps_par3 (i := 1) (j := 2) (l := 3) (by rfl) sc_answers.nd rfl rfl rfl (by decide) (by decide) (by decide) rfl rfl rfl (pa_cons (pe_k0 m_Instance (hr.mono (by decide)) (by rfl) T.g_Instance) (pa_cons (pe_lst pa_nil) (pa_cons pe_int pa_nil))) (by rfl))
    (pss_cons (ps_while PassesOwn.never (pt_cmpR op_lt (pv 3) (pe_callB (lenK (K := K) rfl) (by rfl) T.b_len PySem.boot_len (pa_cons (pv 0) pa_nil)) (nomark _)) (pss_cons (ps_set (i := 4) sc_answers.nd rfl (Or.inl rfl) (pe_ix (ixL (K := K) rfl) (pv 0) (pv 3) (fun _ _ => rfl)))
    (pss_cons (ps_set (i := 5) sc_answers.nd rfl (Or.inl rfl) (pe_op op_add (pe_op op_add (pv 3) pe_int) (pe_ix (ixT (K := K) rfl) (pe_gr T.c_COUNTS (by rfl)) (pv 4) (fun _ _ => rfl))))
    (pss_cons (ps_par (i := 6) (j := 7) (by rfl) sc_answers.nd rfl rfl (by decide) rfl rfl (pa_cons (pe_slice sl_list (pv 0) (po_some (pe_op op_add (pv 3) pe_int)) (po_some (pv 5))) (pa_cons (pe_lst pa_nil) pa_nil)) (by rfl))
    (Evl.pss_cut (ps_if (pt_cmpR (op_inRows (K := K) rfl Y) (pv 4) (pe_gr T.c_ROWS (by rfl)) (by rfl)) (pss_one (ps_asg (pe_c c_row_at (hr.mono (by decide)) (by rfl) (pa_cons (pv 0) (pa_cons (pv 5) pa_nil))) (pgT (K := K) (n := 2) rfl (by rfl) (pgs_cons (pg_name (i := 6) sc_answers.nd rfl (Or.inl rfl)) (pgs_cons (pg_name (i := 5) sc_answers.nd rfl (Or.inl rfl)) pgs_nil))))) pss_nil)
    (Evl.pss_cut (ps_if (pt_cmpR op_eq (pe_rowsGet (K := K) rfl Y (pe_gr T.c_ROWS (by rfl)) (pv 4) pe_int ⟨rfl, rfl, rfl, rfl⟩) pe_int (nomark _)) (pss_one (ps_asg (pe_c c_row_at (hr.mono (by decide)) (by rfl) (pa_cons (pv 0) (pa_cons (pv 5) pa_nil))) (pgT (K := K) (n := 2) rfl (by rfl) (pgs_cons (pg_name (i := 7) sc_answers.nd rfl (Or.inl rfl)) (pgs_cons (pg_name (i := 5) sc_answers.nd rfl (Or.inl rfl)) pgs_nil))))) pss_nil)
    (pss_cons (ps_set (i := 8) sc_answers.nd rfl (Or.inl rfl) (pe_m m_answer (hr.mono (by decide)) T.clI (pv 1) (pa_cons (pv 4) (pa_cons (pv 6) (pa_cons (pv 7) pa_nil)))))
    (pss_cons (ps_expr (pe_bm PySem.F.plainAttrs_list PySem.F.slot_list_append PySem.F.type_list_append mt_append (pv 2) (pa_cons (pe_callB (lenK (K := K) rfl) (by rfl) T.b_len PySem.boot_len (pa_cons (pv 8) pa_nil)) pa_nil)))
    (pss_cons (ps_expr (pe_bm PySem.F.plainAttrs_list PySem.F.slot_list_extend PySem.F.type_list_extend mt_extend (pv 2) (pa_cons (pv 8) pa_nil)))
    (pss_one (ps_set (i := 3) sc_answers.nd rfl (Or.inl rfl) (pv 5))))))))))))
    (pss_one (ps_ret (pv 2))))), ?_⟩)
  obtain ⟨_, rfl, a, l, out, rfl, ha, pl, hout, k⟩ := h
  have hz : (10000000 : Nat) < sizeLine := by rw [sizeLine_eq]; decide
  refine r_seq (r_par3 ?_)
  walk_at "rd"
  intro i dx0 hfi hfd hdi
  refine ⟨_, rfl, i, dx0, rfl, upd_same, fun e u H1 kp fe fu ho hx0 hy0 hne => ⟨rfl, ?_⟩⟩
  obtain ⟨dxi, hi⟩ := ho
  have s1 : Same H H1 := fun c o hc => kp c o (ne_of_none hc hfi) (by
    rw [upd_ne (ne_of_none hc hfi), upd_ne (ne_of_none hc hfd)]
    exact hc)
  have fe0 : H e = none := by
    cases hc : H e with
    | none => rfl
    | some o =>
      rw [upd_ne (ne_of_none hc hfi), upd_ne (ne_of_none hc hfd), hc] at fe
      cases fe
  have fu0 : H u = none := by
    cases hc : H u with
    | none => rfl
    | some o =>
      rw [upd_ne (ne_of_none hc hfi), upd_ne (ne_of_none hc hfd), hc] at fu
      cases fu
  walk_at "rd"
  refine ⟨lineR rfl, fun F hF => ?_⟩
  have e2 := same_new (o := HO.lst []) hF
  have hF0 : H F = none := s1.free hF
  have nF : F ≠ i ∧ F ≠ e ∧ F ≠ u := ⟨ne_ins hi hF, (ne_of_none hx0 hF).symm, (ne_of_none hy0 hF).symm⟩
  have I2 : InsAt K Z F (upd H1 F (.lst [])) i e u none := ⟨⟨dxi, .non, e2 _ _ hi, rfl⟩, ⟨[], e2 _ _ hx0, .nil⟩, ⟨[], e2 _ _ hy0, .nil⟩, hne, by simp [pastOf, futOf], by rw [upd_same]; simp, nF⟩
  walk_at "rd"
  refine ⟨_, _, _, rfl, ?_⟩
  refine r_seq ?_
  refine ⟨fun m σ H' => ∃ (at_ : Nat) (st : Kpd9.State) (e u : Addr) (dn rest : List Int) (v4 v5 v6 v7 v8 : Option V), m = l.length - at_ ∧ σ = [some (.ref a), some (.ref i), some (.ref F), some (nv at_), v4, v5, v6, v7, v8] ∧ Loop K Z H a i F l out at_ H' st e u dn rest, ⟨l.length, 0, none, e, u, [], out, none, none, none, none, none, by omega, rfl, ⟨s1.trans e2, fe0, fu0, hF0, I2, upd_same, nF, pl, rfl⟩⟩, ?_⟩
  rintro m σ H' ⟨at_, st, e, u, dn, rest, v4, v5, v6, v7, v8, rfl, rfl, L⟩
  have ha' := L.same.seq ha
  walk_at "rd"
  refine ⟨a, _, rfl, .inl ha', ?_⟩
  rw [List.length_map]
  walk_at "rd"
  refine ifd (fun hlt => ?_) (fun hge => ?_)
  rotate_left
  · walk_at "rd"
    cases L.play with
    | done h =>
      have := L.eq
      rw [List.append_nil] at this
      rw [this] at k
      exact k F H' L.found
    | call c h =>
      have := lt_of_get c.op_
      omega
  obtain ⟨hs, hfe, hfu, hfF, hI, hFd, hnF, hpl, heq⟩ := L
  cases hpl with
  | done h => exact absurd (show at_ < l.length by omega) (by omega)
  | @call _ op b1 next args snd q _ out2 c h =>
  refine ⟨fun σ' H' => ∃ (at_ : Nat) (st : Kpd9.State) (e u : Addr) (dn rest : List Int) (v4 v5 v6 v7 v8 : Option V), at_ = next ∧ σ' = [some (.ref a), some (.ref i), some (.ref F), some (nv at_), v4, v5, v6, v7, v8] ∧ Loop K Z H a i F l out at_ H' st e u dn rest, ?_, ?_⟩
  · rintro σ' H' ⟨at2, st2, e2, u2, dn2, rest2, w4, w5, w6, w7, w8, rfl, rfl, L2⟩
    have := c.lt
    exact ⟨l.length - at2, by omega, at2, st2, e2, u2, dn2, rest2, w4, w5, w6, w7, w8, rfl, rfl, L2⟩
  have hop30 := c.op30
  walk_at "rd"
  refine r_ixL ha' (v := nv op) (atI_nat (by rw [List.getElem?_map, c.op_]; rfl)) ?_
  walk_at "rd"
  refine r_ixT (Y.t_COUNTS _) (cnt_at hop30) ?_
  walk_at "rd"
  have e1 : ((at_ : Int) + 1 + (cnt op : Int)) = ((at_ + 1 + cnt op : Nat) : Int) := by omega
  have e2 : ((at_ : Int) + 1) = ((at_ + 1 : Nat) : Int) := by omega
  rw [e1, e2]
  refine r_slL ha' (cut_mid (l := l) (i := at_ + 1) (n := cnt op) c.le0) fun qn hqn => ?_
  have g1 := same_new (o := HO.lst (((l.drop (at_ + 1)).take (cnt op)).map V.int)) hqn
  walk_at "rd"
  refine ⟨lineR rfl, fun q2 hq2 => ?_⟩
  have g2 := same_new (o := HO.lst []) hq2
  have lqn := g2 _ _ upd_same
  have lq2 : (upd (upd H' qn (.lst (((l.drop (at_ + 1)).take (cnt op)).map V.int))) q2 (.lst [])) q2 = some (.lst []) := upd_same
  have g12 := g1.trans g2
  generalize upd (upd H' qn (.lst (((l.drop (at_ + 1)).take (cnt op)).map V.int))) q2 (.lst []) = H3 at *
  have ha3 := g12.seq ha'
  walk_at "rd"
  refine ⟨fun σm Hm => ∃ qa, σm = [some (.ref a), some (.ref i), some (.ref F), some (nv at_), some (nv op), some (nv b1), some (.ref qa), some (.ref q2), v8] ∧ Same H3 Hm ∧ Hm qa = some (.lst (args.map V.int)), ?_, ?_⟩
  · walk_at "rd"
    refine ⟨_, rfl, rfl, ?_⟩
    walk_at "rd"
    refine ifb (fun hr => ?_) (fun hr => ?_)
    · obtain ⟨m, m1, m2, m3, m4⟩ := c.row hr
      walk_at "rd"
      refine ⟨_, _, rfl, a, l, at_ + 1 + cnt op, m, rfl, rfl, ha3, m1, m2, fun p q H4 hp hq s4 hp4 hq4 => ?_⟩
      refine r_tupg (SqT.of hp4) rfl ?_
      walk_at "rd"
      rw [m4, m3]
      exact ⟨q, rfl, s4, hq4⟩
    · obtain ⟨m3, m4⟩ := c.one hr
      walk_at "rd"
      rw [m4, m3]
      exact ⟨qn, rfl, Same.refl _, lqn⟩
  rintro σm Hm ⟨qa, rfl, sm, hqa⟩
  have hqm := sm _ _ lq2
  walk_at "rd"
  refine ⟨fun σn Hn => ∃ qb, σn = [some (.ref a), some (.ref i), some (.ref F), some (nv at_), some (nv op), some (nv next), some (.ref qa), some (.ref qb), v8] ∧ Same Hm Hn ∧ Hn qb = some (.lst (snd.map V.int)), ?_, ?_⟩
  · walk_at "rd"
    refine ⟨rfl, ?_⟩
    walk_at "rd"
    refine ⟨_, _, rfl, rfl, ?_⟩
    walk_at "rd"
    refine ifE (fun h2 => ?_) (fun h2 => ?_)
    · obtain ⟨m, m1, m2, m3, m4⟩ := c.two h2
      walk_at "rd"
      refine ⟨_, _, rfl, a, l, b1, m, rfl, rfl, sm.seq ha3, m1, m2, fun p q H4 hp hq s4 hp4 hq4 => ?_⟩
      refine r_tupg (SqT.of hp4) rfl ?_
      walk_at "rd"
      rw [m4, m3]
      exact ⟨q, rfl, s4, hq4⟩
    · obtain ⟨m3, m4⟩ := c.not2 h2
      walk_at "rd"
      rw [m4, m3]
      exact ⟨q2, rfl, Same.refl _, hqm⟩
  rintro σn Hn ⟨qb, rfl, sn, hqb⟩
  have sAll := (g12.trans sm).trans sn
  have hIn := hI.moved sAll
  obtain ⟨dxn, vn, hin, _⟩ := hIn.obj
  have hFn := sAll _ _ hFd
  walk_at "rd"
  refine r_rec hin rfl ?_
  walk_at "rd"
  refine ⟨_, _, _, _, rfl, F, i, e, u, qa, qb, st, op, args, snd, q, rfl, rfl, rfl, rfl, hIn, sn _ _ hqa, hqb, c.len, c.pq, fun p H5 hp0 hP hp5 => ?_⟩
  obtain ⟨kp5, e5, u5, he5, hu5, hI5⟩ := hP
  have hFO : F ∉ [i, e, u] := fun m => by
    rcases mem3.mp m with z | z | z
    · exact hnF.1 z
    · exact hnF.2.1 z
    · exact hnF.2.2 z
  have hF5 := kp5.1 _ _ hFO hFn
  have npF : p ≠ F := fun z => by
    rw [z, hFn] at hp0
    cases hp0
  have s0n := hs.trans sAll
  have s05 : Same H H5 := fun cc o ho => kp5.1 cc o (fun m => by
    rcases mem3.mp m with z | z | z
    · rw [z, hfi] at ho
      cases ho
    · rw [z, hfe] at ho
      cases ho
    · rw [z, hfu] at ho
      cases ho) (s0n _ _ ho)
  have hfe5 : H e5 = none := by
    rcases he5 with rfl | z
    · exact hfe
    · exact s0n.free z
  have hfu5 : H u5 = none := by
    rcases hu5 with rfl | z
    · exact hfu
    · exact s0n.free z
  have nF5 : F ≠ i ∧ F ≠ e5 ∧ F ≠ u5 := by
    refine ⟨hnF.1, ?_, ?_⟩
    · rcases he5 with rfl | z
      · exact hnF.2.1
      · exact fun y => by
          rw [← y, hFn] at z
          cases z
    · rcases hu5 with rfl | z
      · exact hnF.2.2
      · exact fun y => by
          rw [← y, hFn] at z
          cases z
  generalize hres : resL (Kpd9.step st q).2 = res at *
  have hlen : dn.length + (1 + (res.length + out2.length)) ≤ 10000000 := by
    rw [heq, List.length_append, List.length_cons, List.length_append] at hout
    omega
  walk_at "rd"
  refine ⟨ty_list hF5, ?_⟩
  walk_at "rd"
  refine ⟨p, _, rfl, .inl (SqL.of hp5), ?_⟩
  rw [List.length_map]
  walk_at "rd"
  refine ⟨F, _, _, rfl, rfl, hF5, by rw [List.length_map]; omega, ?_⟩
  have hF6 : (upd H5 F (.lst (dn.map V.int ++ [V.int (res.length : Int)]))) F = some (.lst (dn.map V.int ++ [V.int (res.length : Int)])) := upd_same
  have hp6 : (upd H5 F (.lst (dn.map V.int ++ [V.int (res.length : Int)]))) p = some (.lst (res.map V.int)) := by rw [upd_ne npF]; exact hp5
  walk_at "rd"
  refine ⟨ty_list hF6, ?_⟩
  walk_at "rd"
  refine ⟨F, p, _, _, rfl, rfl, hF6, hp6, by simp; omega, ?_⟩
  walk_at "rd"
  have kF : Kp F H5 (upd (upd H5 F (.lst (dn.map V.int ++ [V.int (res.length : Int)]))) F (.lst (dn.map V.int ++ [V.int (res.length : Int)] ++ res.map V.int))) := Kp.upd.trans Kp.upd
  have l7 : (upd (upd H5 F (.lst (dn.map V.int ++ [V.int (res.length : Int)]))) F (.lst (dn.map V.int ++ [V.int (res.length : Int)] ++ res.map V.int))) F = some (.lst ((dn ++ ((res.length : Int) :: res)).map V.int)) := by
    rw [upd_same]
    simp
  generalize upd (upd H5 F (.lst (dn.map V.int ++ [V.int (res.length : Int)]))) F (.lst (dn.map V.int ++ [V.int (res.length : Int)] ++ res.map V.int)) = H7 at *
  refine ⟨next, (Kpd9.step st q).1, e5, u5, dn ++ ((res.length : Int) :: res), out2, some (nv op), some (nv next), some (.ref qa), some (.ref qb), some (.ref p), rfl, rfl, ⟨Kp.same s05 kF hfF, hfe5, hfu5, hfF, hI5.g_put kF (noTup_lst hF5) (by rw [l7]; simp), l7, nF5, h, by rw [heq]; simp⟩⟩
theorem c_answers {P : Program} {w : World} {K : PySem.W.Frag} {mg : Str → Option Value} {base : Heap} {Z : Cs} (T : TX K mg Z) (m_answer : Met P w K mg base CX0 Z.CI 10 "answer" ["self", "operation", "n", "second"] (sp_Instance_answer K Z)) (m_Instance : Mak P w K mg base CX0 Z.CI 1 ["self"] (sp_Instance_init K Z)) (c_row_at : Cal P w K mg base CX0 1 "row_at" ["calls", "at"] (sp_row_at K Z)) (Y : TY K Z) {f : Addr} {fd : FuncData} (g : mg "answers" = some (.ref f)) (F : Fun K "answers" "answers" s_answers f fd) : Cal P w K mg base CX0 11 "answers" ["calls"] (sp_answers K Z) :=
  ⟨f, fd, g, F.kp, F.binds (ps := ["calls"]) (fun _ _ _ _ _ _ us hl => match us, hl with | [_], _ => rfl), ok_answers T m_answer m_Instance c_row_at Y F⟩


theorem drop_succ {l r : List Int} {n : Nat} {p : Int} (h : l.drop n = p :: r) : l[n]? = some p ∧ l.drop (n + 1) = r ∧ l.length = n + 1 + r.length := by
  have hl : n < l.length := by
    rcases Nat.lt_or_ge n l.length with q | q
    · exact q
    · rw [List.drop_of_length_le q] at h
      cases h
  have e := List.drop_eq_getElem_cons hl
  rw [h] at e
  injection e with e1 e2
  refine ⟨by rw [List.getElem?_eq_getElem hl, ← e1], e2.symm, ?_⟩
  have := congrArg List.length h
  rw [List.length_drop, List.length_cons] at this
  omega
theorem row_at_eq {l r x t : List Int} {n : Nat} (hr : l.drop n = r) (hn : n ≤ l.length) (h : PyFlat.row r = some (x, t)) : ∃ m : Nat, l[n]? = some (m : Int) ∧ n + 1 + m ≤ l.length ∧ x = (l.drop (n + 1)).take m ∧ t = l.drop (n + 1 + m) := by
  cases r with
  | nil => cases h
  | cons p s =>
    obtain ⟨h1, h2, h3⟩ := drop_succ hr
    unfold PyFlat.row at h
    dsimp only at h
    split at h
    · rename_i c
      have h := Option.some.inj h
      injection h with y1 y2
      subst y1 y2
      refine ⟨p.toNat, by rw [h1, Int.toNat_of_nonneg c.1], by omega, by rw [h2], ?_⟩
      rw [← h2, List.drop_drop]
    · exact nomatch h
theorem noRows {l r : List Int} {at_ op : Nat} {q : Kpd9.Request} (hp : l.drop at_ = (op : Int) :: r) (ho : op ≤ 30) (hl : cnt op ≤ r.length) (hr : rowsN op = none) (pq : PQ op (r.take (cnt op)) [] q) (hc : cnt op ≤ 1000) :
    ∃ args snd b1 next, CallAt l at_ op args snd q b1 next ∧ r.drop (cnt op) = l.drop next ∧ next ≤ l.length := by
  obtain ⟨h1, h2, h3⟩ := drop_succ hp
  refine ⟨_, _, at_ + 1 + cnt op, at_ + 1 + cnt op, ⟨h1, ho, by omega, pq, by rw [List.length_take]; omega, fun _ => ⟨by rw [h2], rfl⟩, fun z => (by rw [hr] at z; cases z), fun z => (by rw [hr] at z; cases z), fun _ => ⟨rfl, rfl⟩, by omega⟩, ?_, by omega⟩
  rw [← h2, List.drop_drop]
theorem oneRow {l r x t : List Int} {at_ op : Nat} {q : Kpd9.Request} (hp : l.drop at_ = (op : Int) :: r) (ho : op ≤ 30) (h0 : cnt op = 0) (hr : rowsN op = some 1) (hx : PyFlat.row r = some (x, t)) (pq : PQ op x [] q) (hc : x.length ≤ 1000) :
    ∃ args snd b1 next, CallAt l at_ op args snd q b1 next ∧ t = l.drop next ∧ next ≤ l.length := by
  obtain ⟨h1, h2, h3⟩ := drop_succ hp
  obtain ⟨m, m1, m2, m3, m4⟩ := row_at_eq h2 (by omega) hx
  refine ⟨x, [], at_ + 1 + 1 + m, at_ + 1 + 1 + m, ⟨h1, ho, by omega, pq, hc, fun z => (by rw [hr] at z; cases z), fun _ => ⟨m, by rw [h0]; exact m1, by omega, by rw [h0]; exact m3, by omega⟩, fun z => (by rw [hr] at z; cases z), fun _ => ⟨rfl, rfl⟩, by omega⟩, m4, by omega⟩
theorem twoRows {l r x t y t2 : List Int} {at_ op : Nat} {q : Kpd9.Request} (hp : l.drop at_ = (op : Int) :: r) (ho : op ≤ 30) (h0 : cnt op = 0) (hr : rowsN op = some 2) (hx : PyFlat.row r = some (x, t)) (hy : PyFlat.row t = some (y, t2)) (pq : PQ op x y q) (hc : x.length ≤ 1000) :
    ∃ args snd b1 next, CallAt l at_ op args snd q b1 next ∧ t2 = l.drop next ∧ next ≤ l.length := by
  obtain ⟨h1, h2, h3⟩ := drop_succ hp
  obtain ⟨m, m1, m2, m3, m4⟩ := row_at_eq h2 (by omega) hx
  obtain ⟨n, n1, n2, n3, n4⟩ := row_at_eq m4.symm (by omega) hy
  refine ⟨x, y, at_ + 1 + 1 + m, at_ + 1 + 1 + m + 1 + n, ⟨h1, ho, by omega, pq, hc, fun z => (by rw [hr] at z; cases z), fun _ => ⟨m, by rw [h0]; exact m1, by omega, by rw [h0]; exact m3, by omega⟩, fun _ => ⟨n, n1, n2, n3, rfl⟩, fun z => absurd (by rw [hr]; rfl) z, by omega⟩, n4, by omega⟩
theorem nat_of {z : Int} (h : Kpd9Neutral.nat32 z = true) : z = ((Kpd9Neutral.nat z : Nat) : Int) := by
  unfold Kpd9Neutral.nat32 at h
  unfold Kpd9Neutral.nat
  rw [Bool.and_eq_true, decide_eq_true_eq] at h
  omega
theorem nats_of {l : List Int} (h : Kpd9Neutral.list32 Kpd9Neutral.nat32 l = true) : l = Kpd9.toInts (l.map Kpd9Neutral.nat) ∧ l.length ≤ 1000 := by
  unfold Kpd9Neutral.list32 at h
  rw [Bool.and_eq_true, decide_eq_true_eq, List.all_eq_true] at h
  refine ⟨?_, by omega⟩
  unfold Kpd9.toInts
  rw [List.map_map]
  refine (List.map_id _).symm.trans (List.map_congr_left fun z hz => nat_of (h.1 z hz))
theorem len_of {p : Int → Bool} {l : List Int} (h : Kpd9Neutral.list32 p l = true) : l.length ≤ 1000 := by
  unfold Kpd9Neutral.list32 at h
  rw [Bool.and_eq_true, decide_eq_true_eq] at h
  omega
theorem rows_one {r t : List Int} {r1 : List Int} (h : PyFlat.rows 1 r = some ([r1], t)) : PyFlat.row r = some (r1, t) ∧ True := by
  unfold PyFlat.rows at h
  cases hx : PyFlat.row r with
  | none => rw [hx] at h; cases h
  | some xt =>
    obtain ⟨x, s⟩ := xt
    rw [hx] at h
    have h := Option.some.inj h
    injection h with h1 h2
    injection h1 with h3 _
    subst h3 h2
    exact ⟨rfl, trivial⟩
theorem rows_two {r t : List Int} {r1 r2 : List Int} (h : PyFlat.rows 2 r = some ([r1, r2], t)) : ∃ s, PyFlat.row r = some (r1, s) ∧ PyFlat.row s = some (r2, t) := by
  unfold PyFlat.rows at h
  cases hx : PyFlat.row r with
  | none => rw [hx] at h; cases h
  | some xt =>
    obtain ⟨x, s⟩ := xt
    rw [hx] at h
    dsimp only at h
    cases hy : PyFlat.rows 1 s with
    | none => rw [hy] at h; cases h
    | some yt =>
      obtain ⟨ys, s2⟩ := yt
      rw [hy] at h
      have h := Option.some.inj h
      injection h with h1 h2
      injection h1 with h3 h4
      subst h3 h2 h4
      exact ⟨s, rfl, (rows_one hy).1⟩
theorem rows1 {r t : List Int} {xs : List (List Int)} (h : PyFlat.rows 1 r = some (xs, t)) : ∃ r1, xs = [r1] ∧ PyFlat.row r = some (r1, t) := by
  unfold PyFlat.rows at h
  cases hx : PyFlat.row r with
  | none => rw [hx] at h; cases h
  | some xt =>
    obtain ⟨x, s⟩ := xt
    rw [hx] at h
    have h := Option.some.inj h
    injection h with h1 h2
    subst h1 h2
    exact ⟨x, rfl, rfl⟩
theorem rows2 {r t : List Int} {xs : List (List Int)} (h : PyFlat.rows 2 r = some (xs, t)) : ∃ r1 r2 s, xs = [r1, r2] ∧ PyFlat.row r = some (r1, s) ∧ PyFlat.row s = some (r2, t) := by
  unfold PyFlat.rows at h
  cases hx : PyFlat.row r with
  | none => rw [hx] at h; cases h
  | some xt =>
    obtain ⟨x, s⟩ := xt
    rw [hx] at h
    dsimp only at h
    cases hy : PyFlat.rows 1 s with
    | none => rw [hy] at h; cases h
    | some yt =>
      obtain ⟨ys, s2⟩ := yt
      rw [hy] at h
      have h := Option.some.inj h
      injection h with h1 h2
      obtain ⟨r2, e, w⟩ := rows1 hy
      subst h1 h2 e
      exact ⟨x, r2, s, rfl, rfl, w⟩
theorem cons_of {r : List Int} {n : Nat} (h : ¬ r.length < n + 1) : ∃ a r', r = a :: r' := by
  cases r with
  | nil => exact absurd (Nat.succ_pos n) h
  | cons a r' => exact ⟨a, r', rfl⟩
theorem fields_res (r : Kpd9.Result) : Kpd9Neutral.fields r = resL r := by cases r <;> rfl
theorem call_one {l r t : List Int} {p : Int} {at_ : Nat} {c : List (List Int)} (hp : l.drop at_ = p :: r) (hc : PyFlat.call PyKpd9.shape (p :: r) = some (c, t)) (ha : Kpd9Neutral.asked1 (PyKpd9.whole c) = true) :
    ∃ op args snd q b1 next, CallAt l at_ op args snd q b1 next ∧ t = l.drop next ∧ next ≤ l.length ∧ Kpd9Neutral.requestOf (PyKpd9.whole c) = some q := by
  unfold PyFlat.call at hc
  dsimp only at hc
  cases hs : PyKpd9.shape p with
  | none => rw [hs] at hc; cases hc
  | some nk =>
    obtain ⟨n, k⟩ := nk
    rw [hs] at hc
    dsimp only at hc
    split at hc
    · cases hc
    rename_i hlen
    cases hr : PyFlat.rows k (r.drop n) with
    | none => rw [hr] at hc; cases hc
    | some xt =>
      obtain ⟨xs, t'⟩ := xt
      rw [hr] at hc
      have hc := Option.some.inj hc
      injection hc with ec et
      subst et ec
      by_cases c0 : p = 0
      · subst c0
        rw [show PyKpd9.shape 0 = some (2, 0) from rfl] at hs
        cases hs
        obtain ⟨a, r0, rfl⟩ := cons_of (n := 1) (r := r) (by omega)
        have hlen0 : ¬ r0.length < 1 := by simp only [List.length_cons] at hlen; omega
        obtain ⟨b, r1, rfl⟩ := cons_of (n := 0) (by simp only [List.length_cons] at hlen ⊢; omega)
        cases hr
        have ha : (Kpd9Neutral.nat32 a && Kpd9Neutral.nat32 b) = true := ha
        simp only [Bool.and_eq_true] at ha
        have pq := PQ.create (Kpd9Neutral.nat a) (Kpd9Neutral.nat b)
        rw [← nat_of (ha.1), ← nat_of (ha.2)] at pq
        obtain ⟨args, snd, b1, next, C, e5, e6⟩ := noRows (op := 0) hp (by decide) (by show 2 ≤ _; simp only [List.length_cons]; omega) rfl pq (by decide)
        exact ⟨0, args, snd, _, b1, next, C, e5, e6, rfl⟩
      by_cases c1 : p = 1
      · subst c1
        rw [show PyKpd9.shape 1 = some (4, 0) from rfl] at hs
        cases hs
        obtain ⟨a, r0, rfl⟩ := cons_of (n := 3) (r := r) (by omega)
        have hlen0 : ¬ r0.length < 3 := by simp only [List.length_cons] at hlen; omega
        obtain ⟨b, r1, rfl⟩ := cons_of (n := 2) (by simp only [List.length_cons] at hlen ⊢; omega)
        have hlen1 : ¬ r1.length < 2 := by simp only [List.length_cons] at hlen; omega
        obtain ⟨d, r2, rfl⟩ := cons_of (n := 1) (by simp only [List.length_cons] at hlen ⊢; omega)
        have hlen2 : ¬ r2.length < 1 := by simp only [List.length_cons] at hlen; omega
        obtain ⟨e, r3, rfl⟩ := cons_of (n := 0) (by simp only [List.length_cons] at hlen ⊢; omega)
        cases hr
        have ha : (Kpd9Neutral.nat32 a && Kpd9Neutral.nat32 b && Kpd9Neutral.nat32 d && Kpd9Neutral.nat32 e) = true := ha
        simp only [Bool.and_eq_true] at ha
        have pq := PQ.ed (.q1 (Kpd9Neutral.nat a) (Kpd9Neutral.nat b) (Kpd9Neutral.nat d) (Kpd9Neutral.nat e))
        simp only [Kpd9.toInts, List.map_cons, List.map_nil] at pq
        rw [← nat_of (ha.1.1.1), ← nat_of (ha.1.1.2), ← nat_of (ha.1.2), ← nat_of (ha.2)] at pq
        obtain ⟨args, snd, b1, next, C, e5, e6⟩ := noRows (op := 1) hp (by decide) (by show 4 ≤ _; simp only [List.length_cons]; omega) rfl pq (by decide)
        exact ⟨1, args, snd, _, b1, next, C, e5, e6, rfl⟩
      by_cases c2 : p = 2
      · subst c2
        rw [show PyKpd9.shape 2 = some (3, 0) from rfl] at hs
        cases hs
        obtain ⟨a, r0, rfl⟩ := cons_of (n := 2) (r := r) (by omega)
        have hlen0 : ¬ r0.length < 2 := by simp only [List.length_cons] at hlen; omega
        obtain ⟨b, r1, rfl⟩ := cons_of (n := 1) (by simp only [List.length_cons] at hlen ⊢; omega)
        have hlen1 : ¬ r1.length < 1 := by simp only [List.length_cons] at hlen; omega
        obtain ⟨d, r2, rfl⟩ := cons_of (n := 0) (by simp only [List.length_cons] at hlen ⊢; omega)
        cases hr
        have ha : (Kpd9Neutral.nat32 a && Kpd9Neutral.nat32 b && Kpd9Neutral.nat32 d) = true := ha
        simp only [Bool.and_eq_true] at ha
        have pq := PQ.ed (.q2 (Kpd9Neutral.nat a) (Kpd9Neutral.nat b) (Kpd9Neutral.nat d))
        simp only [Kpd9.toInts, List.map_cons, List.map_nil] at pq
        rw [← nat_of (ha.1.1), ← nat_of (ha.1.2), ← nat_of (ha.2)] at pq
        obtain ⟨args, snd, b1, next, C, e5, e6⟩ := noRows (op := 2) hp (by decide) (by show 3 ≤ _; simp only [List.length_cons]; omega) rfl pq (by decide)
        exact ⟨2, args, snd, _, b1, next, C, e5, e6, rfl⟩
      by_cases c3 : p = 3
      · subst c3
        rw [show PyKpd9.shape 3 = some (1, 0) from rfl] at hs
        cases hs
        obtain ⟨a, r0, rfl⟩ := cons_of (n := 0) (r := r) (by omega)
        cases hr
        have ha : (Kpd9Neutral.nat32 a) = true := ha
        have pq := PQ.ed (.q3 (Kpd9Neutral.nat a))
        simp only [Kpd9.toInts, List.map_cons, List.map_nil] at pq
        rw [← nat_of (ha)] at pq
        obtain ⟨args, snd, b1, next, C, e5, e6⟩ := noRows (op := 3) hp (by decide) (by show 1 ≤ _; simp only [List.length_cons]; omega) rfl pq (by decide)
        exact ⟨3, args, snd, _, b1, next, C, e5, e6, rfl⟩
      by_cases c4 : p = 4
      · subst c4
        rw [show PyKpd9.shape 4 = some (4, 0) from rfl] at hs
        cases hs
        obtain ⟨a, r0, rfl⟩ := cons_of (n := 3) (r := r) (by omega)
        have hlen0 : ¬ r0.length < 3 := by simp only [List.length_cons] at hlen; omega
        obtain ⟨b, r1, rfl⟩ := cons_of (n := 2) (by simp only [List.length_cons] at hlen ⊢; omega)
        have hlen1 : ¬ r1.length < 2 := by simp only [List.length_cons] at hlen; omega
        obtain ⟨d, r2, rfl⟩ := cons_of (n := 1) (by simp only [List.length_cons] at hlen ⊢; omega)
        have hlen2 : ¬ r2.length < 1 := by simp only [List.length_cons] at hlen; omega
        obtain ⟨e, r3, rfl⟩ := cons_of (n := 0) (by simp only [List.length_cons] at hlen ⊢; omega)
        cases hr
        have ha : (Kpd9Neutral.nat32 a && Kpd9Neutral.nat32 b && Kpd9Neutral.nat32 d && Kpd9Neutral.nat32 e) = true := ha
        simp only [Bool.and_eq_true] at ha
        have pq := PQ.ed (.q4 (Kpd9Neutral.nat a) (Kpd9Neutral.nat b) (Kpd9Neutral.nat d) (Kpd9Neutral.nat e))
        simp only [Kpd9.toInts, List.map_cons, List.map_nil] at pq
        rw [← nat_of (ha.1.1.1), ← nat_of (ha.1.1.2), ← nat_of (ha.1.2), ← nat_of (ha.2)] at pq
        obtain ⟨args, snd, b1, next, C, e5, e6⟩ := noRows (op := 4) hp (by decide) (by show 4 ≤ _; simp only [List.length_cons]; omega) rfl pq (by decide)
        exact ⟨4, args, snd, _, b1, next, C, e5, e6, rfl⟩
      by_cases c5 : p = 5
      · subst c5
        rw [show PyKpd9.shape 5 = some (0, 1) from rfl] at hs
        cases hs
        obtain ⟨r1, rfl, y1⟩ := rows1 hr
        rw [List.drop_zero] at y1
        obtain ⟨z1, z2⟩ := nats_of (l := r1) ha
        have pq := PQ.te (.t5 (r1.map Kpd9Neutral.nat))
        rw [← z1] at pq
        obtain ⟨args, snd, b1, next, C, e5, e6⟩ := oneRow (op := 5) hp (by decide) rfl rfl y1 pq z2
        exact ⟨5, args, snd, _, b1, next, C, e5, e6, rfl⟩
      by_cases c6 : p = 6
      · subst c6
        rw [show PyKpd9.shape 6 = some (0, 0) from rfl] at hs
        cases hs
        cases hr
        obtain ⟨args, snd, b1, next, C, e5, e6⟩ := noRows (op := 6) hp (by decide) (Nat.zero_le _) rfl (PQ.te .t6) (by decide)
        exact ⟨6, args, snd, _, b1, next, C, e5, e6, rfl⟩
      by_cases c7 : p = 7
      · subst c7
        rw [show PyKpd9.shape 7 = some (2, 0) from rfl] at hs
        cases hs
        obtain ⟨a, r0, rfl⟩ := cons_of (n := 1) (r := r) (by omega)
        have hlen0 : ¬ r0.length < 1 := by simp only [List.length_cons] at hlen; omega
        obtain ⟨b, r1, rfl⟩ := cons_of (n := 0) (by simp only [List.length_cons] at hlen ⊢; omega)
        cases hr
        have ha : (Kpd9Neutral.int32 a && Kpd9Neutral.nat32 b) = true := ha
        rw [Bool.and_eq_true] at ha
        have pq := PQ.te (.t7 a (Kpd9Neutral.nat b))
        rw [← nat_of ha.2] at pq
        obtain ⟨args, snd, b1, next, C, e5, e6⟩ := noRows (op := 7) hp (by decide) (by show 2 ≤ _; simp only [List.length_cons]; omega) rfl pq (by decide)
        exact ⟨7, args, snd, _, b1, next, C, e5, e6, rfl⟩
      by_cases c8 : p = 8
      · subst c8
        rw [show PyKpd9.shape 8 = some (0, 0) from rfl] at hs
        cases hs
        cases hr
        obtain ⟨args, snd, b1, next, C, e5, e6⟩ := noRows (op := 8) hp (by decide) (Nat.zero_le _) rfl (PQ.te .t8) (by decide)
        exact ⟨8, args, snd, _, b1, next, C, e5, e6, rfl⟩
      by_cases c9 : p = 9
      · subst c9
        rw [show PyKpd9.shape 9 = some (0, 1) from rfl] at hs
        cases hs
        obtain ⟨r1, rfl, y1⟩ := rows1 hr
        rw [List.drop_zero] at y1
        obtain ⟨z1, z2⟩ := nats_of (l := r1) ha
        have pq := PQ.te (.t9 (r1.map Kpd9Neutral.nat))
        rw [← z1] at pq
        obtain ⟨args, snd, b1, next, C, e5, e6⟩ := oneRow (op := 9) hp (by decide) rfl rfl y1 pq z2
        exact ⟨9, args, snd, _, b1, next, C, e5, e6, rfl⟩
      by_cases c10 : p = 10
      · subst c10
        rw [show PyKpd9.shape 10 = some (0, 1) from rfl] at hs
        cases hs
        obtain ⟨r1, rfl, y1⟩ := rows1 hr
        rw [List.drop_zero] at y1
        obtain ⟨z1, z2⟩ := nats_of (l := r1) ha
        have pq := PQ.ed (.q10 (r1.map Kpd9Neutral.nat))
        rw [← z1] at pq
        obtain ⟨args, snd, b1, next, C, e5, e6⟩ := oneRow (op := 10) hp (by decide) rfl rfl y1 pq z2
        exact ⟨10, args, snd, _, b1, next, C, e5, e6, rfl⟩
      by_cases c11 : p = 11
      · subst c11
        rw [show PyKpd9.shape 11 = some (0, 0) from rfl] at hs
        cases hs
        cases hr
        obtain ⟨args, snd, b1, next, C, e5, e6⟩ := noRows (op := 11) hp (by decide) (Nat.zero_le _) rfl (PQ.te .t11) (by decide)
        exact ⟨11, args, snd, _, b1, next, C, e5, e6, rfl⟩
      by_cases c12 : p = 12
      · subst c12
        rw [show PyKpd9.shape 12 = some (0, 0) from rfl] at hs
        cases hs
        cases hr
        obtain ⟨args, snd, b1, next, C, e5, e6⟩ := noRows (op := 12) hp (by decide) (Nat.zero_le _) rfl (PQ.ed .q12) (by decide)
        exact ⟨12, args, snd, _, b1, next, C, e5, e6, rfl⟩
      by_cases c13 : p = 13
      · subst c13
        rw [show PyKpd9.shape 13 = some (2, 0) from rfl] at hs
        cases hs
        obtain ⟨a, r0, rfl⟩ := cons_of (n := 1) (r := r) (by omega)
        have hlen0 : ¬ r0.length < 1 := by simp only [List.length_cons] at hlen; omega
        obtain ⟨b, r1, rfl⟩ := cons_of (n := 0) (by simp only [List.length_cons] at hlen ⊢; omega)
        cases hr
        have ha : (Kpd9Neutral.nat32 a && Kpd9Neutral.nat32 b) = true := ha
        simp only [Bool.and_eq_true] at ha
        have pq := PQ.ed (.q13 (Kpd9Neutral.nat a) (Kpd9Neutral.nat b))
        simp only [Kpd9.toInts, List.map_cons, List.map_nil] at pq
        rw [← nat_of (ha.1), ← nat_of (ha.2)] at pq
        obtain ⟨args, snd, b1, next, C, e5, e6⟩ := noRows (op := 13) hp (by decide) (by show 2 ≤ _; simp only [List.length_cons]; omega) rfl pq (by decide)
        exact ⟨13, args, snd, _, b1, next, C, e5, e6, rfl⟩
      by_cases c14 : p = 14
      · subst c14
        rw [show PyKpd9.shape 14 = some (2, 0) from rfl] at hs
        cases hs
        obtain ⟨a, r0, rfl⟩ := cons_of (n := 1) (r := r) (by omega)
        have hlen0 : ¬ r0.length < 1 := by simp only [List.length_cons] at hlen; omega
        obtain ⟨b, r1, rfl⟩ := cons_of (n := 0) (by simp only [List.length_cons] at hlen ⊢; omega)
        cases hr
        have ha : (Kpd9Neutral.nat32 a && Kpd9Neutral.nat32 b) = true := ha
        simp only [Bool.and_eq_true] at ha
        have pq := PQ.ed (.q14 (Kpd9Neutral.nat a) (Kpd9Neutral.nat b))
        simp only [Kpd9.toInts, List.map_cons, List.map_nil] at pq
        rw [← nat_of (ha.1), ← nat_of (ha.2)] at pq
        obtain ⟨args, snd, b1, next, C, e5, e6⟩ := noRows (op := 14) hp (by decide) (by show 2 ≤ _; simp only [List.length_cons]; omega) rfl pq (by decide)
        exact ⟨14, args, snd, _, b1, next, C, e5, e6, rfl⟩
      by_cases c15 : p = 15
      · subst c15
        rw [show PyKpd9.shape 15 = some (0, 0) from rfl] at hs
        cases hs
        cases hr
        obtain ⟨args, snd, b1, next, C, e5, e6⟩ := noRows (op := 15) hp (by decide) (Nat.zero_le _) rfl (PQ.te .t15) (by decide)
        exact ⟨15, args, snd, _, b1, next, C, e5, e6, rfl⟩
      by_cases c16 : p = 16
      · subst c16
        rw [show PyKpd9.shape 16 = some (1, 0) from rfl] at hs
        cases hs
        obtain ⟨a, r0, rfl⟩ := cons_of (n := 0) (r := r) (by omega)
        cases hr
        have ha : (Kpd9Neutral.nat32 a) = true := ha
        have pq := PQ.te (.t16 (Kpd9Neutral.nat a))
        rw [← nat_of (ha)] at pq
        obtain ⟨args, snd, b1, next, C, e5, e6⟩ := noRows (op := 16) hp (by decide) (by show 1 ≤ _; simp only [List.length_cons]; omega) rfl pq (by decide)
        exact ⟨16, args, snd, _, b1, next, C, e5, e6, rfl⟩
      by_cases c17 : p = 17
      · subst c17
        rw [show PyKpd9.shape 17 = some (0, 0) from rfl] at hs
        cases hs
        cases hr
        obtain ⟨args, snd, b1, next, C, e5, e6⟩ := noRows (op := 17) hp (by decide) (Nat.zero_le _) rfl (PQ.te .t17) (by decide)
        exact ⟨17, args, snd, _, b1, next, C, e5, e6, rfl⟩
      by_cases c18 : p = 18
      · subst c18
        rw [show PyKpd9.shape 18 = some (0, 0) from rfl] at hs
        cases hs
        cases hr
        obtain ⟨args, snd, b1, next, C, e5, e6⟩ := noRows (op := 18) hp (by decide) (Nat.zero_le _) rfl (PQ.te .t18) (by decide)
        exact ⟨18, args, snd, _, b1, next, C, e5, e6, rfl⟩
      by_cases c19 : p = 19
      · subst c19
        rw [show PyKpd9.shape 19 = some (0, 1) from rfl] at hs
        cases hs
        obtain ⟨r1, rfl, y1⟩ := rows1 hr
        rw [List.drop_zero] at y1
        obtain ⟨z1, z2⟩ := nats_of (l := r1) ha
        have pq := PQ.te (.t19 (r1.map Kpd9Neutral.nat))
        rw [← z1] at pq
        obtain ⟨args, snd, b1, next, C, e5, e6⟩ := oneRow (op := 19) hp (by decide) rfl rfl y1 pq z2
        exact ⟨19, args, snd, _, b1, next, C, e5, e6, rfl⟩
      by_cases c20 : p = 20
      · subst c20
        rw [show PyKpd9.shape 20 = some (1, 0) from rfl] at hs
        cases hs
        obtain ⟨a, r0, rfl⟩ := cons_of (n := 0) (r := r) (by omega)
        cases hr
        have ha : (Kpd9Neutral.nat32 a) = true := ha
        have pq := PQ.ed (.q20 (Kpd9Neutral.nat a))
        simp only [Kpd9.toInts, List.map_cons, List.map_nil] at pq
        rw [← nat_of (ha)] at pq
        obtain ⟨args, snd, b1, next, C, e5, e6⟩ := noRows (op := 20) hp (by decide) (by show 1 ≤ _; simp only [List.length_cons]; omega) rfl pq (by decide)
        exact ⟨20, args, snd, _, b1, next, C, e5, e6, rfl⟩
      by_cases c21 : p = 21
      · subst c21
        rw [show PyKpd9.shape 21 = some (3, 0) from rfl] at hs
        cases hs
        obtain ⟨a, r0, rfl⟩ := cons_of (n := 2) (r := r) (by omega)
        have hlen0 : ¬ r0.length < 2 := by simp only [List.length_cons] at hlen; omega
        obtain ⟨b, r1, rfl⟩ := cons_of (n := 1) (by simp only [List.length_cons] at hlen ⊢; omega)
        have hlen1 : ¬ r1.length < 1 := by simp only [List.length_cons] at hlen; omega
        obtain ⟨d, r2, rfl⟩ := cons_of (n := 0) (by simp only [List.length_cons] at hlen ⊢; omega)
        cases hr
        have ha : (Kpd9Neutral.nat32 a && Kpd9Neutral.nat32 b && Kpd9Neutral.nat32 d) = true := ha
        simp only [Bool.and_eq_true] at ha
        have pq := PQ.ed (.q21 (Kpd9Neutral.nat a) (Kpd9Neutral.nat b) (Kpd9Neutral.nat d))
        simp only [Kpd9.toInts, List.map_cons, List.map_nil] at pq
        rw [← nat_of (ha.1.1), ← nat_of (ha.1.2), ← nat_of (ha.2)] at pq
        obtain ⟨args, snd, b1, next, C, e5, e6⟩ := noRows (op := 21) hp (by decide) (by show 3 ≤ _; simp only [List.length_cons]; omega) rfl pq (by decide)
        exact ⟨21, args, snd, _, b1, next, C, e5, e6, rfl⟩
      by_cases c22 : p = 22
      · subst c22
        rw [show PyKpd9.shape 22 = some (3, 0) from rfl] at hs
        cases hs
        obtain ⟨a, r0, rfl⟩ := cons_of (n := 2) (r := r) (by omega)
        have hlen0 : ¬ r0.length < 2 := by simp only [List.length_cons] at hlen; omega
        obtain ⟨b, r1, rfl⟩ := cons_of (n := 1) (by simp only [List.length_cons] at hlen ⊢; omega)
        have hlen1 : ¬ r1.length < 1 := by simp only [List.length_cons] at hlen; omega
        obtain ⟨d, r2, rfl⟩ := cons_of (n := 0) (by simp only [List.length_cons] at hlen ⊢; omega)
        cases hr
        have ha : (Kpd9Neutral.nat32 a && Kpd9Neutral.nat32 b && Kpd9Neutral.nat32 d) = true := ha
        simp only [Bool.and_eq_true] at ha
        have pq := PQ.ed (.q22 (Kpd9Neutral.nat a) (Kpd9Neutral.nat b) (Kpd9Neutral.nat d))
        simp only [Kpd9.toInts, List.map_cons, List.map_nil] at pq
        rw [← nat_of (ha.1.1), ← nat_of (ha.1.2), ← nat_of (ha.2)] at pq
        obtain ⟨args, snd, b1, next, C, e5, e6⟩ := noRows (op := 22) hp (by decide) (by show 3 ≤ _; simp only [List.length_cons]; omega) rfl pq (by decide)
        exact ⟨22, args, snd, _, b1, next, C, e5, e6, rfl⟩
      by_cases c23 : p = 23
      · subst c23
        rw [show PyKpd9.shape 23 = some (0, 0) from rfl] at hs
        cases hs
        cases hr
        obtain ⟨args, snd, b1, next, C, e5, e6⟩ := noRows (op := 23) hp (by decide) (Nat.zero_le _) rfl (PQ.te .t23) (by decide)
        exact ⟨23, args, snd, _, b1, next, C, e5, e6, rfl⟩
      by_cases c24 : p = 24
      · subst c24
        rw [show PyKpd9.shape 24 = some (0, 0) from rfl] at hs
        cases hs
        cases hr
        obtain ⟨args, snd, b1, next, C, e5, e6⟩ := noRows (op := 24) hp (by decide) (Nat.zero_le _) rfl (PQ.te .t24) (by decide)
        exact ⟨24, args, snd, _, b1, next, C, e5, e6, rfl⟩
      by_cases c25 : p = 25
      · subst c25
        rw [show PyKpd9.shape 25 = some (0, 2) from rfl] at hs
        cases hs
        obtain ⟨r1, r2, s, rfl, y1, y2⟩ := rows2 hr
        rw [List.drop_zero] at y1
        have ha : (Kpd9Neutral.list32 Kpd9Neutral.int32 r1 && Kpd9Neutral.list32 Kpd9Neutral.int32 r2) = true := ha
        rw [Bool.and_eq_true] at ha
        obtain ⟨args, snd, b1, next, C, e5, e6⟩ := twoRows (op := 25) hp (by decide) rfl rfl y1 y2 (PQ.te (.t25 r1 r2)) (len_of ha.1)
        exact ⟨25, args, snd, _, b1, next, C, e5, e6, rfl⟩
      by_cases c26 : p = 26
      · subst c26
        rw [show PyKpd9.shape 26 = some (0, 0) from rfl] at hs
        cases hs
        cases hr
        obtain ⟨args, snd, b1, next, C, e5, e6⟩ := noRows (op := 26) hp (by decide) (Nat.zero_le _) rfl (PQ.ed .q26) (by decide)
        exact ⟨26, args, snd, _, b1, next, C, e5, e6, rfl⟩
      by_cases c27 : p = 27
      · subst c27
        rw [show PyKpd9.shape 27 = some (0, 0) from rfl] at hs
        cases hs
        cases hr
        obtain ⟨args, snd, b1, next, C, e5, e6⟩ := noRows (op := 27) hp (by decide) (Nat.zero_le _) rfl (PQ.te .t27) (by decide)
        exact ⟨27, args, snd, _, b1, next, C, e5, e6, rfl⟩
      by_cases c28 : p = 28
      · subst c28
        rw [show PyKpd9.shape 28 = some (0, 0) from rfl] at hs
        cases hs
        cases hr
        obtain ⟨args, snd, b1, next, C, e5, e6⟩ := noRows (op := 28) hp (by decide) (Nat.zero_le _) rfl (PQ.undo) (by decide)
        exact ⟨28, args, snd, _, b1, next, C, e5, e6, rfl⟩
      by_cases c29 : p = 29
      · subst c29
        rw [show PyKpd9.shape 29 = some (0, 0) from rfl] at hs
        cases hs
        cases hr
        obtain ⟨args, snd, b1, next, C, e5, e6⟩ := noRows (op := 29) hp (by decide) (Nat.zero_le _) rfl (PQ.redo) (by decide)
        exact ⟨29, args, snd, _, b1, next, C, e5, e6, rfl⟩
      by_cases c30 : p = 30
      · subst c30
        rw [show PyKpd9.shape 30 = some (0, 0) from rfl] at hs
        cases hs
        cases hr
        obtain ⟨args, snd, b1, next, C, e5, e6⟩ := noRows (op := 30) hp (by decide) (Nat.zero_le _) rfl (PQ.te .t30) (by decide)
        exact ⟨30, args, snd, _, b1, next, C, e5, e6, rfl⟩
      unfold PyKpd9.shape at hs
      rw [if_neg c0, if_neg c1, if_neg c2, if_neg c3, if_neg c4, if_neg c5, if_neg c6, if_neg c7, if_neg c8, if_neg c9, if_neg c10, if_neg c11, if_neg c12, if_neg c13, if_neg c14, if_neg c15, if_neg c16, if_neg c17, if_neg c18, if_neg c19, if_neg c20, if_neg c21, if_neg c22, if_neg c23, if_neg c24, if_neg c25, if_neg c26, if_neg c27, if_neg c28, if_neg c29, if_neg c30] at hs
      cases hs
theorem play_all (l : List Int) : ∀ (f at_ : Nat) (cs : List (List (List Int))) (st : Kpd9.State), at_ ≤ l.length → PyFlat.calls PyKpd9.shape f (l.drop at_) = some cs → (∀ c ∈ cs, Kpd9Neutral.asked1 (PyKpd9.whole c) = true) → Play l at_ st (PyFlat.told (PyFlat.played Kpd9Neutral.step st (cs.map PyKpd9.whole))) := by
  intro f
  induction f with
  | zero =>
    intro at_ cs st ha h _
    cases hd : l.drop at_ with
    | nil =>
      rw [hd] at h
      cases h
      exact .done (by have := congrArg List.length hd; rw [List.length_drop] at this; simp at this; omega)
    | cons p r => rw [hd] at h; cases h
  | succ f ih =>
    intro at_ cs st ha h hall
    cases hd : l.drop at_ with
    | nil =>
      rw [hd] at h
      cases h
      exact .done (by have := congrArg List.length hd; rw [List.length_drop] at this; simp at this; omega)
    | cons p r =>
      rw [hd] at h
      unfold PyFlat.calls at h
      cases hc : PyFlat.call PyKpd9.shape (p :: r) with
      | none => rw [hc] at h; cases h
      | some ct =>
        obtain ⟨c, t⟩ := ct
        rw [hc] at h
        dsimp only at h
        cases hcs : PyFlat.calls PyKpd9.shape f t with
        | none => rw [hcs] at h; cases h
        | some cs' =>
          rw [hcs] at h
          cases h
          obtain ⟨op, args, snd, q, b1, next, C, e5, e6, e7⟩ := call_one hd hc (hall c (by simp))
          rw [e5] at hcs
          have es : Kpd9Neutral.step st (PyKpd9.whole c) = ((Kpd9.step st q).1, resL (Kpd9.step st q).2) := by
            unfold Kpd9Neutral.step
            rw [e7]
            dsimp only
            rw [fields_res]
          have ih2 := ih next cs' (Kpd9.step st q).1 e6 hcs fun c hc => hall c (by simp [hc])
          have := Play.call (st := st) C ih2
          rw [List.map_cons]
          unfold PyFlat.played PyFlat.told
          rw [List.flatMap_cons, es]
          exact this
theorem law_play {l : List Int} (h : PyKpd9.answers_asked l = true) : Play l 0 none (PyKpd9.answers l) ∧ (PyKpd9.answers l).length ≤ 10000000 := by
  unfold PyKpd9.answers_asked at h
  cases hc : PyFlat.calls PyKpd9.shape l.length l with
  | none => rw [hc] at h; cases h
  | some raw =>
    rw [hc] at h
    simp only [Bool.and_eq_true] at h
    obtain ⟨⟨_, h4⟩, h5⟩ := h
    have ea : PyKpd9.answers l = PyFlat.told (PyFlat.played Kpd9Neutral.step Kpd9Neutral.start (raw.map PyKpd9.whole)) := by
      unfold PyKpd9.answers PyKpd9.calls
      rw [hc]
    refine ⟨?_, by unfold PyFlat.short at h5; exact of_decide_eq_true h5⟩
    rw [ea]
    refine play_all l l.length 0 raw none (Nat.zero_le _) (by rw [List.drop_zero]; exact hc) fun c hcm => ?_
    unfold Kpd9Neutral.asked at h4
    simp only [Bool.and_eq_true, List.all_eq_true] at h4
    exact h4.1.2.1 _ (List.mem_map.mpr ⟨c, hcm, rfl⟩)

theorem fun_of {K : PySem.W.Frag} {x q : Str} {st : Stmt} {f : Addr} {fd : FuncData} (F : FunD K x q (defArgs st) (defBody st) (defScope st) [] [] f fd) : Fun K x q st f fd := by
  obtain ⟨⟨oc, od, dV, kV, doc, pm, an, cdv, ct, osl, e, l, c, dv, kw⟩, kp⟩ := F
  rcases dv with ⟨_, hd⟩ | ⟨ne, _⟩
  · subst hd
    subst e
    exact fun_mk l c kp
  · exact absurd rfl ne
theorem rfB_ok {K : PySem.W.Frag} {C : Addr} (h : rfB K C = true) : ∃ nm q N bs sn sub ab col dd k0 k1 k2 k3 k5, K.lookup C = some (excClassObj nm q C N bs ESX.exTail true sn sub ab col dd k0 k1 k2 k3 k5 "Exception.__new__") := by
  unfold rfB at h
  cases q : K.lookup C with
  | none => rw [q] at h; cases h
  | some o =>
    obtain ⟨oc, od, dt, osl⟩ := o
    rw [q] at h
    cases oc with
    | type t =>
      cases dt with
      | cls cd =>
        obtain ⟨sl⟩ := osl
        match sl, h with
        | [k0, k1, k2, k3, some (.builtin n), k5], h =>
          have h : (decide (t = "type") && (decide (cd.mro = .ref C :: ESX.exTail) && (cd.hasDict && (!cd.hasDel && decide (n = "Exception.__new__"))))) = true := h
          obtain ⟨h1, h⟩ := He.ba h
          obtain ⟨h2, h⟩ := He.ba h
          obtain ⟨h3, h⟩ := He.ba h
          obtain ⟨h4, h5⟩ := He.ba h
          obtain ⟨c1, c2, c3, c4, c5, c6, c7, c8, c9, c10, c11⟩ := cd
          have h1 := of_decide_eq_true h1
          have h2 := of_decide_eq_true h2
          have h5 := of_decide_eq_true h5
          simp only [Bool.not_eq_true'] at h4
          subst h1 h5
          dsimp only at h2 h3 h4
          subst h2 h3 h4
          exact ⟨_, _, _, _, _, _, _, _, _, _, _, _, _, _, rfl⟩
      | _ => cases h
    | _ => cases dt <;> cases h
theorem entB_ok {e : DictEntry} {k v : Int} (h : entB e k v = true) : entI e (k, v) := by
  obtain ⟨h1, h⟩ := He.ba h
  obtain ⟨h2, h3⟩ := He.ba h
  obtain ⟨hh, ek, ev⟩ := e
  refine ⟨of_decide_eq_true h1, ?_, ?_⟩
  · cases ek with
    | int i t =>
      have z : i = k := of_decide_eq_true h2
      exact ⟨t, by rw [z]⟩
    | _ => cases h2
  · cases ev with
    | int i t =>
      have z : i = v := of_decide_eq_true h3
      exact ⟨t, by rw [z]⟩
    | _ => cases h3
theorem rwB_ok {K : PySem.W.Frag} {a : Addr} (h : rwB K a = true) : ∃ e0 e1 e2 e3 e4 n, K.lookup a = some ⟨.type "dict", none, .dict #[e0, e1, e2, e3, e4] n, #[]⟩ ∧ entI e0 (5, 1) ∧ entI e1 (9, 1) ∧ entI e2 (10, 1) ∧ entI e3 (19, 1) ∧ entI e4 (25, 2) := by
  unfold rwB at h
  cases q : K.lookup a with
  | none => rw [q] at h; cases h
  | some o =>
    obtain ⟨oc, od, dt, osl⟩ := o
    rw [q] at h
    cases oc with
    | type t =>
      cases od with
      | none =>
        cases dt with
        | dict es n =>
          obtain ⟨es⟩ := es
          obtain ⟨sl⟩ := osl
          match es, h with
          | [e0, e1, e2, e3, e4], h =>
            have h : (decide (t = "dict") && (sl.isEmpty && (entB e0 5 1 && (entB e1 9 1 && (entB e2 10 1 && (entB e3 19 1 && entB e4 25 2)))))) = true := h
            obtain ⟨h1, h⟩ := He.ba h
            obtain ⟨h2, h⟩ := He.ba h
            obtain ⟨h3, h⟩ := He.ba h
            obtain ⟨h4, h⟩ := He.ba h
            obtain ⟨h5, h⟩ := He.ba h
            obtain ⟨h6, h7⟩ := He.ba h
            have h1 := of_decide_eq_true h1
            have h2 : sl = [] := by simpa using h2
            subst h1 h2
            exact ⟨e0, e1, e2, e3, e4, n, rfl, entB_ok h3, entB_ok h4, entB_ok h5, entB_ok h6, entB_ok h7⟩
        | _ => cases h
      | some d => cases dt <;> cases h
    | _ => cases od <;> cases dt <;> cases h
theorem viB_ok {K : PySem.W.Frag} (h : viB K = true) : PySem.W.findCls K (.type "Exception") (.type "type") "__init__" = some (.val (.builtin "Exception.__init__")) := by
  unfold viB at h
  cases q : PySem.W.findCls K (.type "Exception") (.type "type") "__init__" with
  | none => rw [q] at h; cases h
  | some r =>
    rw [q] at h
    cases r with
    | val v =>
      cases v with
      | builtin n =>
        have z : n = "Exception.__init__" := of_decide_eq_true h
        rw [z]
      | _ => cases h
    | get _ _ _ _ => cases h
def zc (K : PySem.W.Frag) : Cs := ⟨He.ga K "State", He.ga K "Instance", (He.ga K "Refused"), (He.ma K (He.ga K "Refused") "__init__"), He.ga K "ROOT", He.ga K "COUNTS", He.ga K "ROWS", He.ga K "EDITS"⟩
theorem tx_of {K : PySem.W.Frag} {h : Heap} {mg : Str → Option Value} (X : K.In h) (G : h.Ns mainGlobals mg) (c : He.SaysD hfa hdf K) (e : exA K = true) : TX K mg (zc K) := by
  obtain ⟨e1, e2⟩ := He.ba e
  obtain ⟨r1, e1⟩ := He.ba e1
  obtain ⟨r2, e1⟩ := He.ba e1
  obtain ⟨r3, e1⟩ := He.ba e1
  obtain ⟨r4, e1⟩ := He.ba e1
  obtain ⟨r5, e1⟩ := He.ba e1
  obtain ⟨r6, e1⟩ := He.ba e1
  obtain ⟨r7, e1⟩ := He.ba e1
  obtain ⟨r8, r9⟩ := He.ba e1
  obtain ⟨t1, e2⟩ := He.ba e2
  obtain ⟨t2, e2⟩ := He.ba e2
  refine' ⟨He.free_ok X G (c.fact 0 (f := .free "len") rfl),
    He.free_ok X G (c.fact 1 (f := .free "any") rfl),
    He.free_ok X G (c.fact 2 (f := .free "sum") rfl),
    He.free_ok X G (c.fact 3 (f := .free "all") rfl),
    He.free_ok X G (c.fact 4 (f := .free "max") rfl),
    He.free_ok X G (c.fact 5 (f := .free "min") rfl),
    He.free_ok X G (c.fact 6 (f := .free "abs") rfl),
    He.free_ok X G (c.fact 7 (f := .free "zip") rfl),
    He.free_ok X G (c.fact 8 (f := .free "enumerate") rfl),
    He.free_ok X G (c.fact 9 (f := .free "range") rfl),
    He.free_ok X G (c.fact 10 (f := .free "sorted") rfl),
    He.free_ok X G (c.fact 11 (f := .free "list") rfl),
    He.int_ok X G (c.fact 13 (f := .int "FAR" 1000000000) rfl),
    He.int_ok X G (c.fact 14 (f := .int "UNUSABLE" (-11)) rfl),
    He.int_ok X G (c.fact 15 (f := .int "MISSING" (-2)) rfl),
    He.int_ok X G (c.fact 16 (f := .int "NO_SUCH" (-6)) rfl),
    He.int_ok X G (c.fact 17 (f := .int "CONFLICTING" (-16)) rfl),
    He.int_ok X G (c.fact 18 (f := .int "TWICE" (-17)) rfl),
    He.int_ok X G (c.fact 19 (f := .int "OUT_OF_RANGE" (-22)) rfl),
    He.int_ok X G (c.fact 20 (f := .int "FULL" (-28)) rfl),
    He.int_ok X G (c.fact 21 (f := .int "NO_RESULT" (-33)) rfl),
    He.int_ok X G (c.fact 22 (f := .int "TOO_DEAR" (-75)) rfl),
    He.int_ok X G (c.fact 23 (f := .int "MOST_WIRE" 1000) rfl),
    He.int_ok X G (c.fact 24 (f := .int "MOST_VALUE" 100000) rfl),
    He.int_ok X G (c.fact 25 (f := .int "MOST_REQUIRED" 1000000000) rfl),
    He.int_ok X G (c.fact 26 (f := .int "MOST_NODES" 10) rfl),
    He.int_ok X G (c.fact 27 (f := .int "MOST_PERMITTED" 5) rfl),
    He.int_ok X G (c.fact 28 (f := .int "MOST_BUFFERS" 3) rfl),
    He.int_ok X G (c.fact 29 (f := .int "MOST_VIOLATIONS" 8) rfl),
    He.int_ok X G (c.fact 30 (f := .int "MOST_CHANGES" 9) rfl),
    He.int_ok X G (c.fact 31 (f := .int "MOST_CONFLICTS" 10) rfl),
    He.int_ok X G (c.fact 32 (f := .int "MOST_KIND" 9) rfl),
    He.int_ok X G (c.fact 33 (f := .int "MOST_NEEDS" 5) rfl),
    He.int_ok X G (c.fact 34 (f := .int "MOST_SPARES" 7) rfl),
    He.int_ok X G (c.fact 35 (f := .int "MOST_TARGET" 1000000000) rfl),
    He.int_ok X G (c.fact 36 (f := .int "MOST_DIVISOR" 1000) rfl),
    He.glo_ok X G (c.fact 43 (f := .glo "ROOT") rfl),
    He.glo_ok X G (c.fact 44 (f := .glo "COUNTS") rfl),
    He.glo_ok X G (c.fact 45 (f := .glo "ROWS") rfl),
    He.glo_ok X G (c.fact 46 (f := .glo "EDITS") rfl),
    He.int_ok X G (c.fact 37 (f := .int "CREATE" 0) rfl),
    He.int_ok X G (c.fact 38 (f := .int "UNDO" 28) rfl),
    He.int_ok X G (c.fact 39 (f := .int "REDO" 29) rfl),
    He.int_ok X G (c.fact 40 (f := .int "MOST_DRIVER" 1000) rfl),
    He.int_ok X G (c.fact 41 (f := .int "MOST_BUDGET" 1000000000) rfl),
    He.int_ok X G (c.fact 42 (f := .int "MOST_EARLIER" 10) rfl),
    He.glo_ok X G (c.fact 47 (f := .glo "State") rfl),
    He.glo_ok X G (c.fact 48 (f := .glo "Instance") rfl),
    He.glo_ok X G (c.fact 49 (f := .glo "Refused") rfl),
    ⟨rfB_ok r1, He.eqO_ok r2, xfB_ok r3, of_decide_eq_true r4, r5, He.eqO_ok r6, He.eqO_ok r7, of_decide_eq_true r8, of_decide_eq_true r9⟩,
    He.free_ok X G (c.fact 12 (f := .free "Exception") rfl),
    viB_ok t1,
    He.cls_ok (c.fact 50 (f := .cls "State") rfl),
    He.cls_ok (c.fact 52 (f := .cls "Instance") rfl),
    He.noat_ok (c.fact 54 (f := .noat "State" "driver") rfl),
    He.noat_ok (c.fact 55 (f := .noat "State" "budget") rfl),
    He.noat_ok (c.fact 56 (f := .noat "State" "nodes") rfl),
    He.noat_ok (c.fact 57 (f := .noat "State" "library") rfl),
    He.noat_ok (c.fact 58 (f := .noat "State" "choices") rfl),
    He.noat_ok (c.fact 59 (f := .noat "State" "violations") rfl),
    He.noat_ok (c.fact 60 (f := .noat "State" "changes") rfl),
    He.noat_ok (c.fact 61 (f := .noat "State" "conflicts") rfl),
    He.noat_ok (c.fact 62 (f := .noat "State" "applied") rfl),
    He.noat_ok (c.fact 63 (f := .noat "State" "needs") rfl),
    He.noat_ok (c.fact 64 (f := .noat "State" "spares") rfl),
    He.noat_ok (c.fact 65 (f := .noat "State" "assigned") rfl),
    He.noat_ok (c.fact 66 (f := .noat "Instance" "state") rfl),
    He.noat_ok (c.fact 67 (f := .noat "Instance" "earlier") rfl),
    He.noat_ok (c.fact 68 (f := .noat "Instance" "undone") rfl),
    fun H => He.tupB_ok t2 H⟩
theorem ty_of {K : PySem.W.Frag} (e : exA K = true) : TY K (zc K) := by
  obtain ⟨_, e2⟩ := He.ba e
  obtain ⟨_, e2⟩ := He.ba e2
  obtain ⟨_, e2⟩ := He.ba e2
  obtain ⟨t3, e2⟩ := He.ba e2
  obtain ⟨t4, e2⟩ := He.ba e2
  obtain ⟨t5, t6⟩ := He.ba e2
  exact ⟨fun H => He.tupB_ok t3 H, fun H => He.tupB_ok t4 H, rwB_ok t5, by simpa [zc] using t6⟩

end LC
namespace LC
open PySem PySem.Spec PyProof.Rows L2
theorem fun_dd {K : PySem.W.Frag} {a : Str × Option Str} {x q : Str} {st : Stmt} {fd : FuncData} (F : FunD K (dd a x q st).name (dd a x q st).qual (dd a x q st).params (dd a x q st).body (dd a x q st).scope ((dd a x q st).dvs K) ((dd a x q st).kws K) (He.fAd K (dd a x q st).at_) fd) : Fun K x q st (He.fAd K a) fd := fun_of F
theorem ans_of {P : Program} {w : World} {K : PySem.W.Frag} {h base : Heap} {mg : Str → Option Value} {fd : FuncData} (X : K.In h) (G : h.Ns mainGlobals mg) (c : He.SaysD hfa hdf K) (e : exA K = true) (F_answers : Fun K "answers" "answers" s_answers (He.ga K "answers") fd) :
    FnOk P w K mg base CX0 11 (He.ga K "answers") fd ["calls"] (sp_answers K (zc K)) := by
  have T := tx_of X G c e
  have Y := ty_of e
  obtain ⟨_, F_halves⟩ := c.def_ 0 (d := dd ("halves", none) "halves" "halves" (top 1)) rfl
  have h_halves := c_halves (P := P) (w := w) (base := base) T  (He.glo_ok X G (c.fact 69 (f := .glo "halves") rfl)) (fun_dd F_halves)
  obtain ⟨_, F_has_sinks⟩ := c.def_ 1 (d := dd ("has_sinks", none) "has_sinks" "has_sinks" (top 2)) rfl
  have h_has_sinks := c_has_sinks (P := P) (w := w) (base := base) T  (He.glo_ok X G (c.fact 70 (f := .glo "has_sinks") rfl)) (fun_dd F_has_sinks)
  obtain ⟨_, F_permitted_count⟩ := c.def_ 2 (d := dd ("permitted_count", none) "permitted_count" "permitted_count" (top 3)) rfl
  have h_permitted_count := c_permitted_count (P := P) (w := w) (base := base) T  (He.glo_ok X G (c.fact 71 (f := .glo "permitted_count") rfl)) (fun_dd F_permitted_count)
  obtain ⟨_, F_own_times⟩ := c.def_ 3 (d := dd ("own_times", none) "own_times" "own_times" (top 4)) rfl
  have h_own_times := c_own_times (P := P) (w := w) (base := base) T  (He.glo_ok X G (c.fact 72 (f := .glo "own_times") rfl)) (fun_dd F_own_times)
  obtain ⟨_, F_smaller_time⟩ := c.def_ 4 (d := dd ("smaller_time", none) "smaller_time" "smaller_time" (top 5)) rfl
  have h_smaller_time := c_smaller_time (P := P) (w := w) (base := base) T  (He.glo_ok X G (c.fact 73 (f := .glo "smaller_time") rfl)) (fun_dd F_smaller_time)
  obtain ⟨_, F_behind_buffer⟩ := c.def_ 5 (d := dd ("behind_buffer", none) "behind_buffer" "behind_buffer" (top 6)) rfl
  have h_behind_buffer := c_behind_buffer (P := P) (w := w) (base := base) T  (He.glo_ok X G (c.fact 74 (f := .glo "behind_buffer") rfl)) (fun_dd F_behind_buffer)
  obtain ⟨_, F_behind_wire⟩ := c.def_ 6 (d := dd ("behind_wire", none) "behind_wire" "behind_wire" (top 7)) rfl
  have h_behind_wire := c_behind_wire (P := P) (w := w) (base := base) T  (He.glo_ok X G (c.fact 75 (f := .glo "behind_wire") rfl)) (fun_dd F_behind_wire)
  obtain ⟨_, F_root_values⟩ := c.def_ 7 (d := dd ("root_values", none) "root_values" "root_values" (top 8)) rfl
  have h_root_values := c_root_values (P := P) (w := w) (base := base) T h_behind_buffer h_behind_wire h_own_times h_smaller_time (He.glo_ok X G (c.fact 76 (f := .glo "root_values") rfl)) (fun_dd F_root_values)
  obtain ⟨_, F_double_slack⟩ := c.def_ 8 (d := dd ("double_slack", none) "double_slack" "double_slack" (top 9)) rfl
  have h_double_slack := c_double_slack (P := P) (w := w) (base := base) T h_root_values (He.glo_ok X G (c.fact 77 (f := .glo "double_slack") rfl)) (fun_dd F_double_slack)
  obtain ⟨_, F_are_choices⟩ := c.def_ 9 (d := dd ("are_choices", none) "are_choices" "are_choices" (top 12)) rfl
  have h_are_choices := c_are_choices (P := P) (w := w) (base := base) T  (He.glo_ok X G (c.fact 78 (f := .glo "are_choices") rfl)) (fun_dd F_are_choices)
  obtain ⟨_, F_cost_of_buffers⟩ := c.def_ 10 (d := dd ("cost_of_buffers", none) "cost_of" "cost_of" (top 13)) rfl
  have h_cost_of_buffers := c_cost_of_buffers (P := P) (w := w) (base := base) T  (He.glo_ok X G (c.fact 79 (f := .glo "cost_of_buffers") rfl)) (fun_dd F_cost_of_buffers)
  obtain ⟨_, F_all_choices⟩ := c.def_ 11 (d := dd ("all_choices", none) "all_choices" "all_choices" (top 15)) rfl
  have h_all_choices := c_all_choices (P := P) (w := w) (base := base) T  (He.glo_ok X G (c.fact 80 (f := .glo "all_choices") rfl)) (fun_dd F_all_choices)
  obtain ⟨_, F_offers⟩ := c.def_ 12 (d := dd ("offers", none) "offers" "offers" (top 16)) rfl
  have h_offers := c_offers (P := P) (w := w) (base := base) T h_all_choices h_cost_of_buffers h_double_slack (He.glo_ok X G (c.fact 81 (f := .glo "offers") rfl)) (fun_dd F_offers)
  obtain ⟨_, F_cheapest_offer⟩ := c.def_ 13 (d := dd ("cheapest_offer", none) "cheapest_offer" "cheapest_offer" (top 17)) rfl
  have h_cheapest_offer := c_cheapest_offer (P := P) (w := w) (base := base) T  (He.glo_ok X G (c.fact 82 (f := .glo "cheapest_offer") rfl)) (fun_dd F_cheapest_offer)
  obtain ⟨_, F_best_offer⟩ := c.def_ 14 (d := dd ("best_offer", none) "best_offer" "best_offer" (top 18)) rfl
  have h_best_offer := c_best_offer (P := P) (w := w) (base := base) T h_cheapest_offer h_offers (He.glo_ok X G (c.fact 83 (f := .glo "best_offer") rfl)) (fun_dd F_best_offer)
  obtain ⟨_, F_target_offer⟩ := c.def_ 15 (d := dd ("target_offer", none) "target_offer" "target_offer" (top 19)) rfl
  have h_target_offer := c_target_offer (P := P) (w := w) (base := base) T h_cheapest_offer h_offers (He.glo_ok X G (c.fact 84 (f := .glo "target_offer") rfl)) (fun_dd F_target_offer)
  obtain ⟨_, F_greatest_slacks⟩ := c.def_ 16 (d := dd ("greatest_slacks", none) "greatest_slacks" "greatest_slacks" (top 20)) rfl
  have h_greatest_slacks := c_greatest_slacks (P := P) (w := w) (base := base) T  (He.glo_ok X G (c.fact 85 (f := .glo "greatest_slacks") rfl)) (fun_dd F_greatest_slacks)
  obtain ⟨_, F_frontier⟩ := c.def_ 17 (d := dd ("frontier", none) "frontier" "frontier" (top 21)) rfl
  have h_frontier := c_frontier (P := P) (w := w) (base := base) T h_greatest_slacks h_offers (He.glo_ok X G (c.fact 86 (f := .glo "frontier") rfl)) (fun_dd F_frontier)
  obtain ⟨_, F_with_later_others⟩ := c.def_ 18 (d := dd ("with_later_others", none) "with_later_others" "with_later_others" (top 22)) rfl
  have h_with_later_others := c_with_later_others (P := P) (w := w) (base := base) T  (He.glo_ok X G (c.fact 87 (f := .glo "with_later_others") rfl)) (fun_dd F_with_later_others)
  obtain ⟨_, F_critical_sink⟩ := c.def_ 19 (d := dd ("critical_sink", none) "critical_sink" "critical_sink" (top 23)) rfl
  have h_critical_sink := c_critical_sink (P := P) (w := w) (base := base) T h_double_slack h_with_later_others (He.glo_ok X G (c.fact 88 (f := .glo "critical_sink") rfl)) (fun_dd F_critical_sink)
  obtain ⟨_, F_Refused_init⟩ := c.def_ 20 (d := dd ("Refused", some "__init__") "__init__" "Refused.__init__" (inClass (top 34) 0)) rfl
  have h_Refused_init := m_Refused_init (P := P) (w := w) (base := base) T (fun_dd F_Refused_init)
  obtain ⟨_, F_require⟩ := c.def_ 21 (d := dd ("require", none) "require" "require" (top 35)) rfl
  have h_require := c_require (P := P) (w := w) (base := base) T h_Refused_init (He.glo_ok X G (c.fact 89 (f := .glo "require") rfl)) (fun_dd F_require)
  obtain ⟨_, F_contains⟩ := c.def_ 22 (d := dd ("contains", none) "contains" "contains" (top 37)) rfl
  have h_contains := c_contains (P := P) (w := w) (base := base) T  (He.glo_ok X G (c.fact 90 (f := .glo "contains") rfl)) (fun_dd F_contains)
  obtain ⟨_, F_all_of⟩ := c.def_ 23 (d := dd ("all_of", none) "all_of" "all_of" (top 38)) rfl
  have h_all_of := c_all_of (P := P) (w := w) (base := base) T  (He.glo_ok X G (c.fact 91 (f := .glo "all_of") rfl)) (fun_dd F_all_of)
  obtain ⟨_, F_without⟩ := c.def_ 24 (d := dd ("without", none) "without" "without" (top 39)) rfl
  have h_without := c_without (P := P) (w := w) (base := base) T  (He.glo_ok X G (c.fact 92 (f := .glo "without") rfl)) (fun_dd F_without)
  obtain ⟨_, F_cost_of_repairs⟩ := c.def_ 25 (d := dd ("cost_of_repairs", none) "cost_of" "cost_of" (top 40)) rfl
  have h_cost_of_repairs := c_cost_of_repairs (P := P) (w := w) (base := base) T h_contains (He.glo_ok X G (c.fact 93 (f := .glo "cost_of_repairs") rfl)) (fun_dd F_cost_of_repairs)
  obtain ⟨_, F_repaired⟩ := c.def_ 26 (d := dd ("repaired", none) "repaired" "repaired" (top 42)) rfl
  have h_repaired := c_repaired (P := P) (w := w) (base := base) T h_contains (He.glo_ok X G (c.fact 94 (f := .glo "repaired") rfl)) (fun_dd F_repaired)
  obtain ⟨_, F_unrepaired⟩ := c.def_ 27 (d := dd ("unrepaired", none) "unrepaired" "unrepaired" (top 43)) rfl
  have h_unrepaired := c_unrepaired (P := P) (w := w) (base := base) T h_all_of h_repaired h_without (He.glo_ok X G (c.fact 95 (f := .glo "unrepaired") rfl)) (fun_dd F_unrepaired)
  obtain ⟨_, F_first_conflict⟩ := c.def_ 28 (d := dd ("first_conflict", none) "first_conflict" "first_conflict" (top 44)) rfl
  have h_first_conflict := c_first_conflict (P := P) (w := w) (base := base) T h_contains (He.glo_ok X G (c.fact 96 (f := .glo "first_conflict") rfl)) (fun_dd F_first_conflict)
  obtain ⟨_, F_is_repair⟩ := c.def_ 29 (d := dd ("is_repair", none) "is_repair" "is_repair" (top 45)) rfl
  have h_is_repair := c_is_repair (P := P) (w := w) (base := base) T h_first_conflict h_unrepaired (He.glo_ok X G (c.fact 97 (f := .glo "is_repair") rfl)) (fun_dd F_is_repair)
  obtain ⟨_, F_cheapest_repairs⟩ := c.def_ 30 (d := dd ("cheapest_repairs", none) "cheapest_repairs" "cheapest_repairs" (top 46)) rfl
  have h_cheapest_repairs := c_cheapest_repairs (P := P) (w := w) (base := base) T h_cost_of_repairs h_is_repair (He.glo_ok X G (c.fact 98 (f := .glo "cheapest_repairs") rfl)) (fun_dd F_cheapest_repairs)
  obtain ⟨_, F_common_changes⟩ := c.def_ 31 (d := dd ("common_changes", none) "common_changes" "common_changes" (top 47)) rfl
  have h_common_changes := c_common_changes (P := P) (w := w) (base := base) T  (He.glo_ok X G (c.fact 99 (f := .glo "common_changes") rfl)) (fun_dd F_common_changes)
  obtain ⟨_, F_price_sum⟩ := c.def_ 32 (d := dd ("price_sum", none) "price_sum" "price_sum" (top 48)) rfl
  have h_price_sum := c_price_sum (P := P) (w := w) (base := base) T h_contains (He.glo_ok X G (c.fact 100 (f := .glo "price_sum") rfl)) (fun_dd F_price_sum)
  obtain ⟨_, F_raised_price⟩ := c.def_ 33 (d := dd ("raised_price", none) "raised_price" "raised_price" (top 49)) rfl
  have h_raised_price := c_raised_price (P := P) (w := w) (base := base) T h_contains h_price_sum h_unrepaired h_without (He.glo_ok X G (c.fact 101 (f := .glo "raised_price") rfl)) (fun_dd F_raised_price)
  obtain ⟨_, F_raised_prices⟩ := c.def_ 34 (d := dd ("raised_prices", none) "raised_prices" "raised_prices" (top 50)) rfl
  have h_raised_prices := c_raised_prices (P := P) (w := w) (base := base) T h_contains h_raised_price h_unrepaired (He.glo_ok X G (c.fact 102 (f := .glo "raised_prices") rfl)) (fun_dd F_raised_prices)
  obtain ⟨_, F_first_overpriced⟩ := c.def_ 35 (d := dd ("first_overpriced", none) "first_overpriced" "first_overpriced" (top 51)) rfl
  have h_first_overpriced := c_first_overpriced (P := P) (w := w) (base := base) T h_contains h_price_sum h_unrepaired (He.glo_ok X G (c.fact 103 (f := .glo "first_overpriced") rfl)) (fun_dd F_first_overpriced)
  obtain ⟨_, F_distance⟩ := c.def_ 36 (d := dd ("distance", none) "distance" "distance" (top 53)) rfl
  have h_distance := c_distance (P := P) (w := w) (base := base) T  (He.glo_ok X G (c.fact 104 (f := .glo "distance") rfl)) (fun_dd F_distance)
  obtain ⟨_, F_assignments⟩ := c.def_ 37 (d := dd ("assignments", none) "assignments" "assignments" (top 54)) rfl
  have h_assignments := c_assignments (P := P) (w := w) (base := base) T  (He.glo_ok X G (c.fact 105 (f := .glo "assignments") rfl)) (fun_dd F_assignments)
  obtain ⟨_, F_total_distance⟩ := c.def_ 38 (d := dd ("total_distance", none) "total_distance" "total_distance" (top 55)) rfl
  have h_total_distance := c_total_distance (P := P) (w := w) (base := base) T h_distance (He.glo_ok X G (c.fact 106 (f := .glo "total_distance") rfl)) (fun_dd F_total_distance)
  obtain ⟨_, F_best_assignment⟩ := c.def_ 39 (d := dd ("best_assignment", none) "best_assignment" "best_assignment" (top 56)) rfl
  have h_best_assignment := c_best_assignment (P := P) (w := w) (base := base) T h_assignments h_total_distance (He.glo_ok X G (c.fact 107 (f := .glo "best_assignment") rfl)) (fun_dd F_best_assignment)
  obtain ⟨_, F_lowered⟩ := c.def_ 40 (d := dd ("lowered", none) "lowered" "lowered" (top 57)) rfl
  have h_lowered := c_lowered (P := P) (w := w) (base := base) T h_distance (He.glo_ok X G (c.fact 108 (f := .glo "lowered") rfl)) (fun_dd F_lowered)
  obtain ⟨_, F_spare_potentials⟩ := c.def_ 41 (d := dd ("spare_potentials", none) "spare_potentials" "spare_potentials" (top 58)) rfl
  have h_spare_potentials := c_spare_potentials (P := P) (w := w) (base := base) T h_lowered (He.glo_ok X G (c.fact 109 (f := .glo "spare_potentials") rfl)) (fun_dd F_spare_potentials)
  obtain ⟨_, F_need_potentials⟩ := c.def_ 42 (d := dd ("need_potentials", none) "need_potentials" "need_potentials" (top 59)) rfl
  have h_need_potentials := c_need_potentials (P := P) (w := w) (base := base) T h_distance (He.glo_ok X G (c.fact 110 (f := .glo "need_potentials") rfl)) (fun_dd F_need_potentials)
  obtain ⟨_, F_first_excess⟩ := c.def_ 43 (d := dd ("first_excess", none) "first_excess" "first_excess" (top 60)) rfl
  have h_first_excess := c_first_excess (P := P) (w := w) (base := base) T h_distance (He.glo_ok X G (c.fact 111 (f := .glo "first_excess") rfl)) (fun_dd F_first_excess)
  obtain ⟨_, F_spent⟩ := c.def_ 44 (d := dd ("spent", none) "spent" "spent" (top 74)) rfl
  have h_spent := c_spent (P := P) (w := w) (base := base) T h_cost_of_buffers h_cost_of_repairs (He.glo_ok X G (c.fact 112 (f := .glo "spent") rfl)) (fun_dd F_spent)
  obtain ⟨_, F_require_budget⟩ := c.def_ 45 (d := dd ("require_budget", none) "require_budget" "require_budget" (top 75)) rfl
  have h_require_budget := c_require_budget (P := P) (w := w) (base := base) T h_require h_spent (He.glo_ok X G (c.fact 113 (f := .glo "require_budget") rfl)) (fun_dd F_require_budget)
  obtain ⟨_, F_add_node⟩ := c.def_ 46 (d := dd ("add_node", none) "add_node" "add_node" (top 76)) rfl
  have h_add_node := c_add_node (P := P) (w := w) (base := base) T h_permitted_count h_require (He.glo_ok X G (c.fact 114 (f := .glo "add_node") rfl)) (fun_dd F_add_node)
  obtain ⟨_, F_set_sink⟩ := c.def_ 47 (d := dd ("set_sink", none) "set_sink" "set_sink" (top 77)) rfl
  have h_set_sink := c_set_sink (P := P) (w := w) (base := base) T h_require (He.glo_ok X G (c.fact 115 (f := .glo "set_sink") rfl)) (fun_dd F_set_sink)
  obtain ⟨_, F_clear_sink⟩ := c.def_ 48 (d := dd ("clear_sink", none) "clear_sink" "clear_sink" (top 78)) rfl
  have h_clear_sink := c_clear_sink (P := P) (w := w) (base := base) T h_require (He.glo_ok X G (c.fact 116 (f := .glo "clear_sink") rfl)) (fun_dd F_clear_sink)
  obtain ⟨_, F_add_buffer⟩ := c.def_ 49 (d := dd ("add_buffer", none) "add_buffer" "add_buffer" (top 79)) rfl
  have h_add_buffer := c_add_buffer (P := P) (w := w) (base := base) T h_require (He.glo_ok X G (c.fact 117 (f := .glo "add_buffer") rfl)) (fun_dd F_add_buffer)
  obtain ⟨_, F_set_buffers⟩ := c.def_ 50 (d := dd ("set_buffers", none) "set_buffers" "set_buffers" (top 80)) rfl
  have h_set_buffers := c_set_buffers (P := P) (w := w) (base := base) T h_are_choices h_cost_of_buffers h_require h_require_budget (He.glo_ok X G (c.fact 118 (f := .glo "set_buffers") rfl)) (fun_dd F_set_buffers)
  obtain ⟨_, F_add_violation⟩ := c.def_ 51 (d := dd ("add_violation", none) "add_violation" "add_violation" (top 81)) rfl
  have h_add_violation := c_add_violation (P := P) (w := w) (base := base) T h_require (He.glo_ok X G (c.fact 119 (f := .glo "add_violation") rfl)) (fun_dd F_add_violation)
  obtain ⟨_, F_add_change⟩ := c.def_ 52 (d := dd ("add_change", none) "add_change" "add_change" (top 82)) rfl
  have h_add_change := c_add_change (P := P) (w := w) (base := base) T h_all_of h_require (He.glo_ok X G (c.fact 120 (f := .glo "add_change") rfl)) (fun_dd F_add_change)
  obtain ⟨_, F_add_conflict⟩ := c.def_ 53 (d := dd ("add_conflict", none) "add_conflict" "add_conflict" (top 83)) rfl
  have h_add_conflict := c_add_conflict (P := P) (w := w) (base := base) T h_contains h_require (He.glo_ok X G (c.fact 121 (f := .glo "add_conflict") rfl)) (fun_dd F_add_conflict)
  obtain ⟨_, F_apply_repair⟩ := c.def_ 54 (d := dd ("apply_repair", none) "apply_repair" "apply_repair" (top 84)) rfl
  have h_apply_repair := c_apply_repair (P := P) (w := w) (base := base) T h_all_of h_first_conflict h_require h_require_budget h_unrepaired (He.glo_ok X G (c.fact 122 (f := .glo "apply_repair") rfl)) (fun_dd F_apply_repair)
  obtain ⟨_, F_are_place⟩ := c.def_ 55 (d := dd ("are_place", none) "are_place" "are_place" (top 85)) rfl
  have h_are_place := c_are_place (P := P) (w := w) (base := base) T  (He.glo_ok X G (c.fact 123 (f := .glo "are_place") rfl)) (fun_dd F_are_place)
  obtain ⟨_, F_add_need⟩ := c.def_ 56 (d := dd ("add_need", none) "add_need" "add_need" (top 86)) rfl
  have h_add_need := c_add_need (P := P) (w := w) (base := base) T h_are_place h_require (He.glo_ok X G (c.fact 124 (f := .glo "add_need") rfl)) (fun_dd F_add_need)
  obtain ⟨_, F_add_spare⟩ := c.def_ 57 (d := dd ("add_spare", none) "add_spare" "add_spare" (top 87)) rfl
  have h_add_spare := c_add_spare (P := P) (w := w) (base := base) T h_are_place h_require (He.glo_ok X G (c.fact 125 (f := .glo "add_spare") rfl)) (fun_dd F_add_spare)
  obtain ⟨_, F_apply_spares⟩ := c.def_ 58 (d := dd ("apply_spares", none) "apply_spares" "apply_spares" (top 88)) rfl
  have h_apply_spares := c_apply_spares (P := P) (w := w) (base := base) T h_best_assignment h_require h_require_budget (He.glo_ok X G (c.fact 126 (f := .glo "apply_spares") rfl)) (fun_dd F_apply_spares)
  obtain ⟨_, F_tree_changed⟩ := c.def_ 59 (d := dd ("tree_changed", none) "tree_changed" "tree_changed" (top 89)) rfl
  have h_tree_changed := c_tree_changed (P := P) (w := w) (base := base) T h_add_buffer h_add_node h_clear_sink h_set_buffers h_set_sink (He.glo_ok X G (c.fact 127 (f := .glo "tree_changed") rfl)) (fun_dd F_tree_changed)
  obtain ⟨_, F_changed⟩ := c.def_ 60 (d := dd ("changed", none) "changed" "changed" (top 90)) rfl
  have h_changed := c_changed (P := P) (w := w) (base := base) T h_add_change h_add_conflict h_add_need h_add_spare h_add_violation h_apply_repair h_apply_spares h_tree_changed (He.glo_ok X G (c.fact 128 (f := .glo "changed") rfl)) (fun_dd F_changed)
  obtain ⟨_, F_require_choices⟩ := c.def_ 61 (d := dd ("require_choices", none) "require_choices" "require_choices" (top 94)) rfl
  have h_require_choices := c_require_choices (P := P) (w := w) (base := base) T h_are_choices h_require (He.glo_ok X G (c.fact 129 (f := .glo "require_choices") rfl)) (fun_dd F_require_choices)
  obtain ⟨_, F_require_sinks⟩ := c.def_ 62 (d := dd ("require_sinks", none) "require_sinks" "require_sinks" (top 95)) rfl
  have h_require_sinks := c_require_sinks (P := P) (w := w) (base := base) T h_has_sinks h_require (He.glo_ok X G (c.fact 130 (f := .glo "require_sinks") rfl)) (fun_dd F_require_sinks)
  obtain ⟨_, F_evaluate⟩ := c.def_ 63 (d := dd ("evaluate", none) "evaluate" "evaluate" (top 96)) rfl
  have h_evaluate := c_evaluate (P := P) (w := w) (base := base) T h_cost_of_buffers h_double_slack h_halves h_require_choices h_require_sinks h_root_values (He.glo_ok X G (c.fact 131 (f := .glo "evaluate") rfl)) (fun_dd F_evaluate)
  obtain ⟨_, F_offer_told⟩ := c.def_ 64 (d := dd ("offer_told", none) "offer_told" "offer_told" (top 97)) rfl
  have h_offer_told := c_offer_told (P := P) (w := w) (base := base) T h_halves (He.glo_ok X G (c.fact 132 (f := .glo "offer_told") rfl)) (fun_dd F_offer_told)
  obtain ⟨_, F_best_buffers⟩ := c.def_ 65 (d := dd ("best_buffers", none) "best_buffers" "best_buffers" (top 98)) rfl
  have h_best_buffers := c_best_buffers (P := P) (w := w) (base := base) T h_best_offer h_offer_told h_require_sinks (He.glo_ok X G (c.fact 133 (f := .glo "best_buffers") rfl)) (fun_dd F_best_buffers)
  obtain ⟨_, F_cheapest_buffers⟩ := c.def_ 66 (d := dd ("cheapest_buffers", none) "cheapest_buffers" "cheapest_buffers" (top 99)) rfl
  have h_cheapest_buffers := c_cheapest_buffers (P := P) (w := w) (base := base) T h_offer_told h_require h_require_sinks h_target_offer (He.glo_ok X G (c.fact 134 (f := .glo "cheapest_buffers") rfl)) (fun_dd F_cheapest_buffers)
  obtain ⟨_, F_frontier_told⟩ := c.def_ 67 (d := dd ("frontier_told", none) "frontier_told" "frontier_told" (top 100)) rfl
  have h_frontier_told := c_frontier_told (P := P) (w := w) (base := base) T h_frontier h_halves h_require_sinks (He.glo_ok X G (c.fact 135 (f := .glo "frontier_told") rfl)) (fun_dd F_frontier_told)
  obtain ⟨_, F_critical_told⟩ := c.def_ 68 (d := dd ("critical_told", none) "critical_told" "critical_told" (top 101)) rfl
  have h_critical_told := c_critical_told (P := P) (w := w) (base := base) T h_critical_sink h_require h_require_choices h_require_sinks (He.glo_ok X G (c.fact 136 (f := .glo "critical_told") rfl)) (fun_dd F_critical_told)
  obtain ⟨_, F_cheapest_repair⟩ := c.def_ 69 (d := dd ("cheapest_repair", none) "cheapest_repair" "cheapest_repair" (top 102)) rfl
  have h_cheapest_repair := c_cheapest_repair (P := P) (w := w) (base := base) T h_cheapest_repairs h_cost_of_repairs h_require (He.glo_ok X G (c.fact 137 (f := .glo "cheapest_repair") rfl)) (fun_dd F_cheapest_repair)
  obtain ⟨_, F_check_repair⟩ := c.def_ 70 (d := dd ("check_repair", none) "check_repair" "check_repair" (top 103)) rfl
  have h_check_repair := c_check_repair (P := P) (w := w) (base := base) T h_all_of h_cost_of_repairs h_first_conflict h_require h_unrepaired (He.glo_ok X G (c.fact 138 (f := .glo "check_repair") rfl)) (fun_dd F_check_repair)
  obtain ⟨_, F_essential⟩ := c.def_ 71 (d := dd ("essential", none) "essential" "essential" (top 104)) rfl
  have h_essential := c_essential (P := P) (w := w) (base := base) T h_cheapest_repairs h_common_changes h_require (He.glo_ok X G (c.fact 139 (f := .glo "essential") rfl)) (fun_dd F_essential)
  obtain ⟨_, F_prices_told⟩ := c.def_ 72 (d := dd ("prices_told", none) "prices_told" "prices_told" (top 105)) rfl
  have h_prices_told := c_prices_told (P := P) (w := w) (base := base) T h_price_sum h_raised_prices h_unrepaired (He.glo_ok X G (c.fact 140 (f := .glo "prices_told") rfl)) (fun_dd F_prices_told)
  obtain ⟨_, F_check_prices⟩ := c.def_ 73 (d := dd ("check_prices", none) "check_prices" "check_prices" (top 106)) rfl
  have h_check_prices := c_check_prices (P := P) (w := w) (base := base) T h_first_overpriced h_price_sum h_require h_unrepaired (He.glo_ok X G (c.fact 141 (f := .glo "check_prices") rfl)) (fun_dd F_check_prices)
  obtain ⟨_, F_assign_spares⟩ := c.def_ 74 (d := dd ("assign_spares", none) "assign_spares" "assign_spares" (top 107)) rfl
  have h_assign_spares := c_assign_spares (P := P) (w := w) (base := base) T h_best_assignment h_require (He.glo_ok X G (c.fact 142 (f := .glo "assign_spares") rfl)) (fun_dd F_assign_spares)
  obtain ⟨_, F_potentials_told⟩ := c.def_ 75 (d := dd ("potentials_told", none) "potentials_told" "potentials_told" (top 108)) rfl
  have h_potentials_told := c_potentials_told (P := P) (w := w) (base := base) T h_best_assignment h_need_potentials h_require h_spare_potentials (He.glo_ok X G (c.fact 143 (f := .glo "potentials_told") rfl)) (fun_dd F_potentials_told)
  obtain ⟨_, F_check_potentials⟩ := c.def_ 76 (d := dd ("check_potentials", none) "check_potentials" "check_potentials" (top 109)) rfl
  have h_check_potentials := c_check_potentials (P := P) (w := w) (base := base) T h_first_excess h_require (He.glo_ok X G (c.fact 144 (f := .glo "check_potentials") rfl)) (fun_dd F_check_potentials)
  obtain ⟨_, F_get_tree⟩ := c.def_ 77 (d := dd ("get_tree", none) "get_tree" "get_tree" (top 110)) rfl
  have h_get_tree := c_get_tree (P := P) (w := w) (base := base) T  (He.glo_ok X G (c.fact 145 (f := .glo "get_tree") rfl)) (fun_dd F_get_tree)
  obtain ⟨_, F_summary⟩ := c.def_ 78 (d := dd ("summary", none) "summary" "summary" (top 111)) rfl
  have h_summary := c_summary (P := P) (w := w) (base := base) T h_spent (He.glo_ok X G (c.fact 146 (f := .glo "summary") rfl)) (fun_dd F_summary)
  obtain ⟨_, F_tree_told⟩ := c.def_ 79 (d := dd ("tree_told", none) "tree_told" "tree_told" (top 112)) rfl
  have h_tree_told := c_tree_told (P := P) (w := w) (base := base) T h_best_buffers h_cheapest_buffers h_cost_of_buffers h_critical_told h_evaluate h_frontier_told h_get_tree (He.glo_ok X G (c.fact 147 (f := .glo "tree_told") rfl)) (fun_dd F_tree_told)
  obtain ⟨_, F_repair_told⟩ := c.def_ 80 (d := dd ("repair_told", none) "repair_told" "repair_told" (top 113)) rfl
  have h_repair_told := c_repair_told (P := P) (w := w) (base := base) T h_cheapest_repair h_check_prices h_check_repair h_essential h_prices_told (He.glo_ok X G (c.fact 148 (f := .glo "repair_told") rfl)) (fun_dd F_repair_told)
  obtain ⟨_, F_told⟩ := c.def_ 81 (d := dd ("told", none) "told" "told" (top 114)) rfl
  have h_told := c_told (P := P) (w := w) (base := base) T h_assign_spares h_check_potentials h_potentials_told h_repair_told h_summary h_tree_told (He.glo_ok X G (c.fact 149 (f := .glo "told") rfl)) (fun_dd F_told)
  obtain ⟨_, F_State_init⟩ := c.def_ 82 (d := dd ("State", some "__init__") "__init__" "State.__init__" (inClass (top 117) 0)) rfl
  have h_State_init := m_State_init (P := P) (w := w) (base := base) T  (He.mkr_ok (c.fact 51 (f := .mkr "State") rfl)) (fun_dd F_State_init)
  obtain ⟨_, F_State_twin⟩ := c.def_ 83 (d := dd ("State", some "twin") "twin" "State.twin" (inClass (top 117) 1)) rfl
  have h_State_twin := m_State_twin (P := P) (w := w) (base := base) T h_State_init (He.meth_ok (c.fact 150 (f := .meth "State" "twin") rfl)) (fun_dd F_State_twin)
  obtain ⟨_, F_Instance_init⟩ := c.def_ 84 (d := dd ("Instance", some "__init__") "__init__" "Instance.__init__" (inClass (top 128) 0)) rfl
  have h_Instance_init := m_Instance_init (P := P) (w := w) (base := base) T  (He.mkr_ok (c.fact 53 (f := .mkr "Instance") rfl)) (fun_dd F_Instance_init)
  obtain ⟨_, F_Instance_create⟩ := c.def_ 85 (d := dd ("Instance", some "create") "create" "Instance.create" (inClass (top 128) 1)) rfl
  have h_Instance_create := m_Instance_create (P := P) (w := w) (base := base) T h_State_init h_require (He.meth_ok (c.fact 151 (f := .meth "Instance" "create") rfl)) (fun_dd F_Instance_create)
  obtain ⟨_, F_Instance_edit⟩ := c.def_ 86 (d := dd ("Instance", some "edit") "edit" "Instance.edit" (inClass (top 128) 2)) rfl
  have h_Instance_edit := m_Instance_edit (P := P) (w := w) (base := base) T h_State_twin h_changed (He.meth_ok (c.fact 152 (f := .meth "Instance" "edit") rfl)) (fun_dd F_Instance_edit)
  obtain ⟨_, F_Instance_undo⟩ := c.def_ 87 (d := dd ("Instance", some "undo") "undo" "Instance.undo" (inClass (top 128) 3)) rfl
  have h_Instance_undo := m_Instance_undo (P := P) (w := w) (base := base) T h_require (He.meth_ok (c.fact 153 (f := .meth "Instance" "undo") rfl)) (fun_dd F_Instance_undo)
  obtain ⟨_, F_Instance_redo⟩ := c.def_ 88 (d := dd ("Instance", some "redo") "redo" "Instance.redo" (inClass (top 128) 4)) rfl
  have h_Instance_redo := m_Instance_redo (P := P) (w := w) (base := base) T h_require (He.meth_ok (c.fact 154 (f := .meth "Instance" "redo") rfl)) (fun_dd F_Instance_redo)
  obtain ⟨_, F_Instance_performed⟩ := c.def_ 89 (d := dd ("Instance", some "performed") "performed" "Instance.performed" (inClass (top 128) 5)) rfl
  have h_Instance_performed := m_Instance_performed (P := P) (w := w) (base := base) T h_Instance_create h_Instance_edit h_Instance_redo h_Instance_undo h_require h_told Y (He.meth_ok (c.fact 155 (f := .meth "Instance" "performed") rfl)) (fun_dd F_Instance_performed)
  obtain ⟨_, F_Instance_answer⟩ := c.def_ 90 (d := dd ("Instance", some "answer") "answer" "Instance.answer" (inClass (top 128) 6)) rfl
  have h_Instance_answer := m_Instance_answer (P := P) (w := w) (base := base) T h_Instance_performed Y (He.meth_ok (c.fact 156 (f := .meth "Instance" "answer") rfl)) (fun_dd F_Instance_answer)
  obtain ⟨_, F_row_at⟩ := c.def_ 91 (d := dd ("row_at", none) "row_at" "row_at" (top 129)) rfl
  have h_row_at := c_row_at (P := P) (w := w) (base := base) T  (He.glo_ok X G (c.fact 157 (f := .glo "row_at") rfl)) (fun_dd F_row_at)
  exact ok_answers T h_Instance_answer h_Instance_init h_row_at Y F_answers
theorem ans_ex {P : Program} {w : World} {K : PySem.W.Frag} {h : Heap} {mg : Str → Option Value} (X : K.In h) (G : h.Ns mainGlobals mg) (c : He.SaysD hfa hdf K) (e : exA K = true) :
    ∃ fd : FuncData, (∀ (s : Shared) (us : List Value), us.length = (["calls"] : List Str).length → BindsTo s fd ⟨us, []⟩ ((["calls"] : List Str).zip us)) ∧ ∀ base : Heap, K.In base → base.Ns mainGlobals mg → FnOk P w K mg base CX0 11 (He.ga K "answers") fd ["calls"] (sp_answers K (zc K)) := by
  obtain ⟨fd, F⟩ := c.def_ 92 (d := dd ("answers", none) "answers" "answers" (top 130)) rfl
  refine ⟨fd, FunD.bindsA (ps := ["calls"]) F (fun _ _ _ _ _ _ us hl => match us, hl with | [_], _ => rfl), fun base _ _ => ?_⟩
  exact ans_of X G c e (fun_dd F)
/-- what the def gives at a list that the document lets be handed in -/
theorem sp_of {K : PySem.W.Frag} {Z : Cs} {H : Hp} {a : Addr} {l : List Int} (hs : SqL K H a (l.map V.int)) (hask : PyKpd9.answers_asked l = true) :
    sp_answers K Z [.ref a] H (fun v H' => Dw K H' v (.list ((PyKpd9.answers l).map PySem.W.WData.int))) fun _ _ _ => False := by
  obtain ⟨hp, hl⟩ := law_play hask
  exact ⟨_, rfl, a, l, _, rfl, hs, hp, hl, fun p H2 h2 => .lst (SqL.of h2) (dw_ints _)⟩
end LC
open PySem PySem.W PySem.Calls PyProof.Rows
theorem PySem.Challenge.cw_latechange_s01_answers_holds : PySem.Challenge.rw_latechange_s01_answers.Holds := by
  refine LC.head_A ?hc
  case hc =>
    intro w s0 s1 mg mb Gd Y
    obtain ⟨K, KX, c, e⟩ := Y
    refine L2.walk_spec (r := PySem.Challenge.rw_latechange_s01_answers) (k := 11) (K := fun _ => K) (YP := fun w' h' => w' = w ∧ h' = s1.heap) (CX := fun _ => L2.CX0) (ps := ["calls"]) (sp := fun _ => LC.sp_answers K (LC.zc K)) LC.well (by kernel_rfl) rfl ⟨rfl, by decide, by decide⟩ (fun w' h z => by rw [z.2]; exact KX) ?F ?S (fun _ _ _ _ _ z => z) w s0 s1 mg mb Gd ⟨rfl, rfl⟩
    case F =>
      intro w' mg' fa h _ KX' G hmg0
      have hmg : mg' ("answers" : PySem.Str) = some (.ref fa) := by
        have en : (HandSHeadRun.topDef LC.rwA.prog 130).name = ("answers" : PySem.Str) := by kernel_rfl
        rw [← en]
        exact hmg0
      have ef := hmg.symm.trans (He.glo_ok KX' G (c.fact 158 (f := .glo "answers") rfl))
      cases ef
      obtain ⟨fd, hb, hF⟩ := LC.ans_ex (P := (PySem.Challenge.rw_latechange_s01_answers).prog) (w := w') KX' G c e
      exact ⟨fd, hb, hF⟩
    case S =>
      intro w' H xs a hO hwi hask hx
      cases hx with
      | cons h1 h2 =>
        cases h2
        cases h1 with
        | lst hs ha =>
          have ez := L2.ints_dw a.1 _ ha
          subst ez
          exact LC.sp_of hs hask


